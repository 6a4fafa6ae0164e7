import PyProof.Rows.All
import Wide.All
import OpenK.AllK
import Wide.FinOn
import HandS.ForMost
import HandS.ForExc
import HandS.IsInst
import HandS.TupAny
import HandS.Wide
import HandS.WideBits
import HandS.Conv
import HandS.Zip
import HandS.Star
import HandS.DictTup
import HandS.Defaults
import HandS.Lambda
import KE.GoesNewDict
import KE.GoesMore
import KE.GoesEnum
import KE.KDictDisplayH
import KE.KDflt
import KE.KExcIs
import HandS.ExcIs
import HandS.ExcField
import HandS.ExcInit
import PySem.Challenge.RW_hindprice_k73_even_purses_refused
set_option Elab.async false
set_option linter.all false
set_option maxRecDepth 100000
set_option maxHeartbeats 2000000
/-! Kern1: plain data, how a value reads as data, what a body's slots hold, the ends of an expression. -/
namespace G
open PySem PySem.Spec PyProof.Rows L2

/-- data: what a value is, all the way in -/
inductive Dt where
  | non | bl (b : Bool) | int (i : Int) | str (x : Str) | lst (xs : List Dt) | tup (xs : List Dt)
  | scr (ns : List Int) | dct (ks vs : List Dt) | dcf (ks vs : List Dt) | obj (c : Str) (ks : List Str) (vs : List Dt)
  | exn (c : Str) (ks : List Str) (vs : List Dt)
  deriving Inhabited

def keyD : Key → Dt
  | .inl i => .int i
  | .inr x => .str x

/-- the written part, and the module's names -/
structure Wd where
  K : PySem.W.Frag
  mg : Str → Option Value

/-- the tables of code objects that are looked after -/
class TabT where
  T : List (Addr × Str)
variable [TabT]
/-- at a: an exception that was caught, of the class at C; dx: its dict -/
def ExF (C : Addr) (dx : Option Addr) (a : Addr) : HO := .ext fun h => ∃ oe vs, h.get? a = some oe ∧ Zc (.ref C) dx oe ∧ oe.data = .fields vs
mutual
def RdD (W : Wd) (H : Hp) : Dt → V → Prop
  | .non, v => v = .non
  | .bl b, v => v = .bl b
  | .int i, v => v = .int i
  | .str x, v => v = .str x
  | .lst ds, v => ∃ a vs, v = .ref a ∧ H a = some (.lst vs) ∧ RdL W H ds vs
  | .scr ns, v => ∃ a, v = .ref a ∧ SqL W.K H a (ns.map V.int)
  | .tup ds, v => ∃ a vs, v = .ref a ∧ H a = some (.tup vs) ∧ RdL W H ds vs
  | .dct ks ds, v => ∃ a, v = .ref a ∧ ∃ (kk : List (List Key)) (vs : List V), H a = some (.dT (kk.zip vs)) ∧ kk.length = vs.length ∧ ks = kk.map (fun k => .tup (k.map keyD)) ∧ RdL W H ds vs
  | .dcf ks ds, v => ∃ a, v = .ref a ∧ ∃ (kk : List (List Key)) (vs : List V) (o : Obj), H a = some (.frz o (.dT (kk.zip vs))) ∧ kk.length = vs.length ∧ ks = kk.map (fun k => .tup (k.map keyD)) ∧ RdL W H ds vs
  | .obj c ks ds, v => ∃ a C dx vs, v = .ref a ∧ W.mg c = some (.ref C) ∧ H a = some (.ins C dx (ks.zip vs)) ∧ ks.length = vs.length ∧ RdL W H ds vs
  | .exn c ks ds, v => ∃ a C dx, v = .ref a ∧ W.mg c = some (.ref C) ∧ H a = some (ExF C dx a) ∧ ((ks = [] ∧ ds = [] ∧ dx = none) ∨ ∃ d vs, dx = some d ∧ H d = some (.xd (ks.zip vs)) ∧ ks.length = vs.length ∧ RdL W H ds vs)
def RdL (W : Wd) (H : Hp) : List Dt → List V → Prop
  | [], vs => vs = []
  | d :: ds, vs => ∃ v r, vs = v :: r ∧ RdD W H d v ∧ RdL W H ds r
end

section
variable {W : Wd} {H H' : Hp}
theorem same_l {a : Addr} {xs : List V} {K : PySem.W.Frag} (e : Same H H') (h : SqL K H a xs) : SqL K H' a xs := e.seq h
theorem same_rd {a : Addr} {u : HO} (e : Same H H') (h : L2.Rd H a u) : L2.Rd H' a u := by
  rcases h with h | ⟨o, h⟩
  · exact .inl (e _ _ h)
  · exact .inr ⟨o, e _ _ h⟩
theorem same_t {a : Addr} {xs : List V} {K : PySem.W.Frag} (e : Same H H') (h : SqT K H a xs) : SqT K H' a xs := by
  rcases h with h | h
  · exact .inl (same_rd e h)
  · exact .inr h
theorem sqt_of {K : PySem.W.Frag} {a : Addr} {vs : List V} (h : H a = some (.tup vs)) : SqT K H a vs := .inl (.inl h)
mutual
theorem RdD.mono (e : Same H H') : ∀ (d : Dt) (v : V), RdD W H d v → RdD W H' d v
  | .non, _, h => h
  | .bl _, _, h => h
  | .int _, _, h => h
  | .str _, _, h => h
  | .lst ds, v, h => by
    obtain ⟨a, vs, h1, h2, h3⟩ := h
    exact ⟨a, vs, h1, e _ _ h2, RdL.mono e ds vs h3⟩
  | .scr ns, v, h => by
    obtain ⟨a, h1, h2⟩ := h
    exact ⟨a, h1, same_l e h2⟩
  | .tup ds, v, h => by
    obtain ⟨a, vs, h1, h2, h3⟩ := h
    exact ⟨a, vs, h1, e _ _ h2, RdL.mono e ds vs h3⟩
  | .dct ks ds, v, h => by
    obtain ⟨a, h0, h⟩ := h
    refine ⟨a, h0, ?_⟩
    obtain ⟨kk, vs, h1, h2, h3, h4⟩ := h
    exact ⟨kk, vs, e _ _ h1, h2, h3, RdL.mono e ds vs h4⟩
  | .dcf ks ds, v, h => by
    obtain ⟨a, h0, kk, vs, o, h1, h2, h3, h4⟩ := h
    exact ⟨a, h0, kk, vs, o, e _ _ h1, h2, h3, RdL.mono e ds vs h4⟩
  | .obj c ks ds, v, h => by
    obtain ⟨a, C, dx, vs, h1, h2, h3, h4, h5⟩ := h
    exact ⟨a, C, dx, vs, h1, h2, e _ _ h3, h4, RdL.mono e ds vs h5⟩
  | .exn c ks ds, v, h => by
    obtain ⟨a, C, dx, h1, h2, h3, h4⟩ := h
    refine ⟨a, C, dx, h1, h2, e _ _ h3, ?_⟩
    rcases h4 with h4 | ⟨d, vs, h5, h6, h7, h8⟩
    · exact .inl h4
    · exact .inr ⟨d, vs, h5, e _ _ h6, h7, RdL.mono e ds vs h8⟩
theorem RdL.mono (e : Same H H') : ∀ (ds : List Dt) (vs : List V), RdL W H ds vs → RdL W H' ds vs
  | [], _, h => h
  | d :: ds, vs, h => by
    obtain ⟨v, r, h1, h2, h3⟩ := h
    exact ⟨v, r, h1, RdD.mono e d v h2, RdL.mono e ds r h3⟩
end
theorem RdL.nil : RdL W H [] [] := rfl
theorem RdL.cons {d : Dt} {v : V} {ds : List Dt} {vs : List V} (h : RdD W H d v) (t : RdL W H ds vs) : RdL W H (d :: ds) (v :: vs) := ⟨v, vs, rfl, h, t⟩
theorem RdL.len : ∀ {ds : List Dt} {vs : List V}, RdL W H ds vs → ds.length = vs.length
  | [], vs, h => by cases (show vs = [] from h); rfl
  | d :: ds, vs, h => by
    obtain ⟨v, r, rfl, _, h3⟩ := h
    rw [List.length_cons, List.length_cons, RdL.len h3]
theorem RdL.get : ∀ {ds : List Dt} {vs : List V} {i : Nat} {d : Dt}, RdL W H ds vs → ds[i]? = some d → ∃ v, vs[i]? = some v ∧ RdD W H d v
  | [], vs, i, d, h, e => by simp at e
  | d :: ds, vs, 0, d', h, e => by
    obtain ⟨v, r, rfl, h2, _⟩ := h
    cases (show some d = some d' from e)
    exact ⟨v, rfl, h2⟩
  | d :: ds, vs, i + 1, d', h, e => by
    obtain ⟨v, r, rfl, _, h3⟩ := h
    exact RdL.get (i := i) h3 (by simpa using e)
theorem RdL.getV : ∀ {ds : List Dt} {vs : List V} {i : Nat} {v : V}, RdL W H ds vs → vs[i]? = some v → ∃ d, ds[i]? = some d ∧ RdD W H d v
  | [], vs, i, v, h, e => by cases (show vs = [] from h); simp at e
  | d :: ds, vs, 0, v', h, e => by
    obtain ⟨v, r, rfl, h2, _⟩ := h
    cases (show some v = some v' from e)
    exact ⟨d, rfl, h2⟩
  | d :: ds, vs, i + 1, v', h, e => by
    obtain ⟨v, r, rfl, _, h3⟩ := h
    exact RdL.getV (i := i) h3 (by simpa using e)
theorem RdL.append : ∀ {ds es : List Dt} {vs ws : List V}, RdL W H ds vs → RdL W H es ws → RdL W H (ds ++ es) (vs ++ ws)
  | [], _, _, _, h, t => by cases (show _ = [] from h); exact t
  | d :: ds, _, _, _, h, t => by
    obtain ⟨v, r, rfl, h2, h3⟩ := h
    exact ⟨v, r ++ _, rfl, h2, RdL.append h3 t⟩
theorem RdL.take : ∀ {ds : List Dt} {vs : List V} (n : Nat), RdL W H ds vs → RdL W H (ds.take n) (vs.take n)
  | _, _, 0, _ => rfl
  | [], _, n + 1, h => by cases (show _ = [] from h); rfl
  | d :: ds, _, n + 1, h => by
    obtain ⟨v, r, rfl, h2, h3⟩ := h
    exact ⟨v, r.take n, rfl, h2, RdL.take n h3⟩
theorem RdL.drop : ∀ {ds : List Dt} {vs : List V} (n : Nat), RdL W H ds vs → RdL W H (ds.drop n) (vs.drop n)
  | _, _, 0, h => h
  | [], _, n + 1, h => by cases (show _ = [] from h); rfl
  | d :: ds, _, n + 1, h => by
    obtain ⟨v, r, rfl, _, h3⟩ := h
    exact RdL.drop n h3
theorem RdL.set {d : Dt} {v : V} (hd : RdD W H d v) : ∀ {ds : List Dt} {vs : List V} (n : Nat), RdL W H ds vs → RdL W H (ds.set n d) (vs.set n v)
  | [], _, _, h => by cases (show _ = [] from h); rfl
  | e :: ds, _, 0, h => by
    obtain ⟨u, r, rfl, _, h3⟩ := h
    exact ⟨v, r, rfl, hd, h3⟩
  | e :: ds, _, n + 1, h => by
    obtain ⟨u, r, rfl, h2, h3⟩ := h
    exact ⟨u, r.set n v, rfl, h2, RdL.set hd n h3⟩
theorem RdL.ints : ∀ {ns : List Int} {vs : List V}, RdL W H (ns.map .int) vs → vs = ns.map V.int
  | [], _, h => h
  | n :: ns, _, h => by
    obtain ⟨v, r, rfl, h2, h3⟩ := h
    rw [show v = V.int n from h2, RdL.ints h3]
    rfl
theorem RdL.ofInts : ∀ (ns : List Int), RdL W H (ns.map .int) (ns.map V.int)
  | [] => rfl
  | n :: ns => ⟨_, _, rfl, rfl, RdL.ofInts ns⟩
end

/-! ### slots, results -/
/-- what a slot holds: nothing that is known, data, a list or dict that this body alone holds, one that the caller lent -/
inductive Slot where
  | un | imm (d : Dt) | own (d : Dt) | io (d : Dt)
  deriving Inhabited
abbrev Env' := List Slot
/-- a value: data, or a new list or dict that nobody else holds -/
inductive Val where
  | imm (d : Dt) | fresh (d : Dt)
def Val.d : Val → Dt
  | .imm d => d
  | .fresh d => d
structure Exn where
  cls : Str
  fs : List (Str × Dt)
inductive Res (α : Type) where
  | ok (a : α) | err (x : Exn) | bad
def Res.bind {α β : Type} : Res α → (α → Res β) → Res β
  | .ok a, f => f a
  | .err x, _ => .err x
  | .bad, _ => .bad
def Res.map {α β : Type} (f : α → β) (r : Res α) : Res β := r.bind fun a => .ok (f a)
@[simp] theorem Res.bind_ok {α β : Type} (a : α) (f : α → Res β) : (Res.ok a).bind f = f a := rfl
@[simp] theorem Res.bind_err {α β : Type} (x : Exn) (f : α → Res β) : (Res.err x : Res α).bind f = .err x := rfl
@[simp] theorem Res.bind_bad {α β : Type} (f : α → Res β) : (Res.bad : Res α).bind f = .bad := rfl
@[simp] theorem Res.map_ok {α β : Type} (a : α) (f : α → β) : (Res.ok a).map f = .ok (f a) := rfl
@[simp] theorem Res.map_err {α β : Type} (x : Exn) (f : α → β) : (Res.err x : Res α).map f = .err x := rfl
@[simp] theorem Res.map_bad {α β : Type} (f : α → β) : (Res.bad : Res α).map f = .bad := rfl

/-- what stands at an address that is owned -/
def OwnAt (W : Wd) (Hb H : Hp) (a : Addr) : Dt → Prop
  | .lst ds => ∃ vs, H a = some (.lst vs) ∧ RdL W Hb ds vs
  | .dct ks ds => ∃ (kk : List (List Key)) (vs : List V), H a = some (.dT (kk.zip vs)) ∧ kk.length = vs.length ∧ ks = kk.map (fun k => .tup (k.map keyD)) ∧ RdL W Hb ds vs
  | _ => False
theorem OwnAt.there {W : Wd} {Hb H : Hp} {a : Addr} : ∀ {d : Dt}, OwnAt W Hb H a d → ∃ o, H a = some o
  | .lst _, h => ⟨_, h.choose_spec.1⟩
  | .dct _ _, h => by
    obtain ⟨_, _, h, _⟩ := h
    exact ⟨_, h⟩
  | .non, h => h.elim
  | .bl _, h => h.elim
  | .int _, h => h.elim
  | .str _, h => h.elim
  | .tup _, h => h.elim
  | .scr _, h => h.elim
  | .obj _ _ _, h => h.elim
  | .exn _ _ _, h => h.elim
  | .dcf _ _, h => h.elim
theorem OwnAt.ntup {W : Wd} {Hb H : Hp} {a : Addr} : ∀ {d : Dt}, OwnAt W Hb H a d → ∀ vs, H a ≠ some (.tup vs)
  | .lst _, h, vs, e => by
    obtain ⟨ws, h1, _⟩ := h
    rw [h1] at e
    cases e
  | .dct _ _, h, vs, e => by
    obtain ⟨_, _, h1, _⟩ := h
    rw [h1] at e
    cases e
  | .non, h, _, _ => h.elim
  | .bl _, h, _, _ => h.elim
  | .int _, h, _, _ => h.elim
  | .str _, h, _, _ => h.elim
  | .tup _, h, _, _ => h.elim
  | .scr _, h, _, _ => h.elim
  | .obj _ _ _, h, _, _ => h.elim
  | .exn _ _ _, h, _, _ => h.elim
  | .dcf _ _, h, _, _ => h.elim
/-- the base may grow, the object stands -/
theorem OwnAt.move {W : Wd} {Hb Hb' H H' : Hp} {a : Addr} (e : Same Hb Hb') (k : ∀ o, H a = some o → H' a = some o) : ∀ {d : Dt}, OwnAt W Hb H a d → OwnAt W Hb' H' a d
  | .lst _, h => by
    obtain ⟨vs, h1, h2⟩ := h
    exact ⟨vs, k _ h1, RdL.mono e _ _ h2⟩
  | .dct _ _, h => by
    obtain ⟨kk, vs, h1, h2, h3, h4⟩ := h
    exact ⟨kk, vs, k _ h1, h2, h3, RdL.mono e _ _ h4⟩
  | .non, h => h.elim
  | .bl _, h => h.elim
  | .int _, h => h.elim
  | .str _, h => h.elim
  | .tup _, h => h.elim
  | .scr _, h => h.elim
  | .obj _ _ _, h => h.elim
  | .exn _ _ _, h => h.elim
  | .dcf _ _, h => h.elim
/-- given up, it is data -/
theorem OwnAt.frozen {W : Wd} {Hb H : Hp} {a : Addr} {o : HO} (hn : Hb a = none) (ho : H a = some o) : ∀ {d : Dt}, OwnAt W Hb H a d → RdD W (upd Hb a o) d (.ref a)
  | .lst _, h => by
    obtain ⟨vs, h1, h2⟩ := h
    rw [ho] at h1
    cases h1
    exact ⟨a, vs, rfl, upd_same, RdL.mono (fun b x e => by rw [upd_ne (ne_of_none e hn)]; exact e) _ _ h2⟩
  | .dct _ _, h => by
    obtain ⟨kk, vs, h1, h2, h3, h4⟩ := h
    rw [ho] at h1
    cases h1
    exact ⟨a, rfl, kk, vs, upd_same, h2, h3, RdL.mono (fun b x e => by rw [upd_ne (ne_of_none e hn)]; exact e) _ _ h4⟩
  | .non, h => h.elim
  | .bl _, h => h.elim
  | .int _, h => h.elim
  | .str _, h => h.elim
  | .tup _, h => h.elim
  | .scr _, h => h.elim
  | .obj _ _ _, h => h.elim
  | .exn _ _ _, h => h.elim
  | .dcf _ _, h => h.elim

/-- a list or a dict -/
def LD : HO → Prop
  | .lst _ => True
  | .dT _ => True
  | .dK _ => True
  | _ => False
theorem OwnAt.ld {W : Wd} {Hb H : Hp} {a : Addr} {o : HO} (ho : H a = some o) : ∀ {d : Dt}, OwnAt W Hb H a d → LD o
  | .lst _, h => by
    obtain ⟨vs, h1, _⟩ := h
    rw [ho] at h1
    cases h1
    trivial
  | .dct _ _, h => by
    obtain ⟨_, _, h1, _⟩ := h
    rw [ho] at h1
    cases h1
    trivial
  | .non, h => h.elim
  | .bl _, h => h.elim
  | .int _, h => h.elim
  | .str _, h => h.elim
  | .tup _, h => h.elim
  | .scr _, h => h.elim
  | .obj _ _ _, h => h.elim
  | .exn _ _ _, h => h.elim
  | .dcf _ _, h => h.elim
theorem LD.ntup {o : HO} (h : LD o) (vs : List V) : o ≠ .tup vs := fun e => by
  subst e
  exact h
theorem LD.ntbl {o : HO} (h : LD o) (ps : Array Value) : o ≠ .tbl ps := fun e => by
  subst e
  exact h
/-- what may be written at p: nothing stood there, or a list or dict -/
def Wri (H : Hp) (p : Addr) : Prop := ∀ o, H p = some o → LD o
theorem Wri.new {H : Hp} {p : Addr} (h : H p = none) : Wri H p := fun o e => by
  rw [h] at e
  cases e
theorem tabs_wri {T : List (Addr × Str)} {H : Hp} {p : Addr} {o : HO} (h : LamX.Tabs T H) (w : Wri H p) : LamX.Tabs T (upd H p o) := fun q hq => by
  obtain ⟨ps, h1, h2, h3⟩ := h q hq
  refine ⟨ps, ?_, h2, fun pos cv hc => ?_⟩
  · rw [upd_ne (fun z => (w _ (by rw [← z]; exact h1)).ntbl ps rfl)]
    exact h1
  · obtain ⟨c, e1, e2⟩ := h3 pos cv hc
    refine ⟨c, e1, ?_⟩
    rw [upd_ne (fun z => by
      have := w _ (by rw [← z]; exact e2)
      exact this)]
    exact e2
def Owns (env : Env') (i : Nat) (d : Dt) : Prop := env[i]? = some (.own d) ∨ env[i]? = some (.io d)
/-- heaps: foreign things and the base are kept, and apart -/
structure Bse (Fm Hb H : Hp) : Prop where
  hb : Same Hb H
  fm : Same Fm H
  dj : ∀ a o, Fm a = some o → Hb a = none
  nt : ∀ a o, Fm a = some o → LD o
  tb : LamX.Tabs TabT.T H
  nb : ∀ a ps, Hb a ≠ some (.tbl ps)
/-- the slots are as env tells -/
structure Agr (W : Wd) (Fm Hb : Hp) (ia : Option Addr) (env : Env') (σ : L2.St) (H : Hp) : Prop where
  bs : Bse Fm Hb H
  len : env.length = σ.length
  imm : ∀ (i : Nat) (d : Dt), env[i]? = some (Slot.imm d) → ∃ v, σ[i]? = some (some v) ∧ RdD W Hb d v
  own : ∀ (i : Nat) (d : Dt), Owns env i d → ∃ a, σ[i]? = some (some (.ref a)) ∧ Hb a = none ∧ Fm a = none ∧ OwnAt W Hb H a d
  inj : ∀ (i j : Nat) (d d' : Dt) (a : Addr), Owns env i d → Owns env j d' → σ[i]? = some (some (.ref a)) → σ[j]? = some (some (.ref a)) → i = j
  io : ∀ (i : Nat) (d : Dt), env[i]? = some (Slot.io d) → i = 0 ∧ ∃ a, ia = some a ∧ σ[i]? = some (some (.ref a))
  ioh : ∀ (a : Addr), ia = some a → ∃ d, env[0]? = some (Slot.io d)

section
variable {W : Wd} {Fm Hb Hb' H H' : Hp} {ia : Option Addr} {env : Env'} {σ : L2.St}
theorem Bse.free (b : Bse Fm Hb H) {p : Addr} (h : H p = none) : Hb p = none ∧ Fm p = none := ⟨b.hb.free h, b.fm.free h⟩
/-- a new object is laid that is data from now on -/
theorem Bse.lay (b : Bse Fm Hb H) {p : Addr} {o : HO} (h : H p = none) (no : ∀ ps, o ≠ .tbl ps) : Bse Fm (upd Hb p o) (upd H p o) where
  hb := fun a u e => by
    by_cases ha : a = p
    · subst ha
      rw [upd_same] at e ⊢
      exact e
    · rw [upd_ne ha] at e ⊢
      exact b.hb a u e
  fm := fun a u e => by
    rw [upd_ne (ne_of_none (b.fm a u e) h)]
    exact b.fm a u e
  dj := fun a u e => by
    rw [upd_ne (ne_of_none (b.fm a u e) h)]
    exact b.dj a u e
  nt := b.nt
  tb := b.tb.ext fun q u e => by
    rw [upd_ne (ne_of_none e h)]
    exact e
  nb := fun a ps e => by
    by_cases ha : a = p
    · rw [ha, upd_same] at e
      exact no ps (Option.some.inj e)
    · rw [upd_ne ha] at e
      exact b.nb a ps e
theorem same_lay {p : Addr} {o : HO} (h : Hb p = none) : Same Hb (upd Hb p o) := fun b x e => by
  rw [upd_ne (ne_of_none e h)]
  exact e
/-- the same, owned for now -/
theorem Bse.put (b : Bse Fm Hb H) {p : Addr} {o : HO} (h1 : Hb p = none) (h2 : Fm p = none) (w : Wri H p) : Bse Fm Hb (upd H p o) where
  hb := fun a u e => by
    rw [upd_ne (ne_of_none e h1)]
    exact b.hb a u e
  fm := fun a u e => by
    rw [upd_ne (ne_of_none e h2)]
    exact b.fm a u e
  dj := b.dj
  nt := b.nt
  tb := tabs_wri b.tb w
  nb := b.nb
/-- what is owned becomes data -/
theorem Bse.freeze (b : Bse Fm Hb H) {p : Addr} {o : HO} (h2 : Fm p = none) (ho : H p = some o) (no : ∀ ps, o ≠ .tbl ps) : Bse Fm (upd Hb p o) H where
  hb := fun a u e => by
    by_cases ha : a = p
    · subst ha
      rw [upd_same] at e
      rw [← e]
      exact ho
    · rw [upd_ne ha] at e
      exact b.hb a u e
  fm := b.fm
  dj := fun a u e => by
    rw [upd_ne (ne_of_none e h2)]
    exact b.dj a u e
  nt := b.nt
  tb := b.tb
  nb := fun a ps e => by
    by_cases ha : a = p
    · rw [ha, upd_same] at e
      exact no ps (Option.some.inj e)
    · rw [upd_ne ha] at e
      exact b.nb a ps e

theorem Agr.lay (A : Agr W Fm Hb ia env σ H) {p : Addr} {o : HO} (h : H p = none) (no : ∀ ps, o ≠ .tbl ps) : Agr W Fm (upd Hb p o) ia env σ (upd H p o) where
  bs := A.bs.lay h no
  len := A.len
  imm := fun i d e => by
    obtain ⟨v, h1, h2⟩ := A.imm i d e
    exact ⟨v, h1, RdD.mono (same_lay (A.bs.hb.free h)) _ _ h2⟩
  own := fun i d e => by
    obtain ⟨a, h1, h2, h3, h4⟩ := A.own i d e
    obtain ⟨o', ho'⟩ := h4.there
    have ne : a ≠ p := ne_of_none ho' h
    exact ⟨a, h1, by rw [upd_ne ne]; exact h2, h3, h4.move (same_lay (A.bs.hb.free h)) fun u e => by rw [upd_ne ne]; exact e⟩
  inj := A.inj
  io := A.io
  ioh := A.ioh
/-- any other thing is laid, apart from all -/
theorem Agr.put (A : Agr W Fm Hb ia env σ H) {p : Addr} {o : HO} (h1 : Hb p = none) (h2 : Fm p = none) (w : Wri H p) (h3 : ∀ i d, Owns env i d → σ[i]? ≠ some (some (.ref p))) : Agr W Fm Hb ia env σ (upd H p o) where
  bs := A.bs.put h1 h2 w
  len := A.len
  imm := A.imm
  own := fun i d e => by
    obtain ⟨a, g1, g2, g3, g4⟩ := A.own i d e
    have ne : a ≠ p := fun z => h3 i d e (by rw [← z]; exact g1)
    exact ⟨a, g1, g2, g3, g4.move (Same.refl _) fun u e => by rw [upd_ne ne]; exact e⟩
  inj := A.inj
  io := A.io
  ioh := A.ioh
theorem Agr.apart (A : Agr W Fm Hb ia env σ H) {p : Addr} (h : H p = none) : ∀ i d, Owns env i d → σ[i]? ≠ some (some (.ref p)) := fun i d e z => by
  obtain ⟨a, g1, g2, g3, g4⟩ := A.own i d e
  rw [g1] at z
  cases z
  obtain ⟨o, ho⟩ := g4.there
  rw [h] at ho
  cases ho
/-- what is apart becomes data -/
theorem Agr.freeze (A : Agr W Fm Hb ia env σ H) {p : Addr} {o : HO} (h1 : Hb p = none) (h2 : Fm p = none) (ho : H p = some o) (no : ∀ ps, o ≠ .tbl ps) (h3 : ∀ i d, Owns env i d → σ[i]? ≠ some (some (.ref p))) : Agr W Fm (upd Hb p o) ia env σ H where
  bs := A.bs.freeze h2 ho no
  len := A.len
  imm := fun i d e => by
    obtain ⟨v, g1, g2⟩ := A.imm i d e
    exact ⟨v, g1, RdD.mono (same_lay h1) _ _ g2⟩
  own := fun i d e => by
    obtain ⟨a, g1, g2, g3, g4⟩ := A.own i d e
    have ne : a ≠ p := fun z => h3 i d e (by rw [← z]; exact g1)
    exact ⟨a, g1, by rw [upd_ne ne]; exact g2, g3, g4.move (same_lay h1) fun u e => e⟩
  inj := A.inj
  io := A.io
  ioh := A.ioh
theorem get_set {α : Type} {l : List α} {i j : Nat} {x y : α} (h : (l.set i x)[j]? = some y) : (i = j ∧ y = x ∧ i < l.length) ∨ (i ≠ j ∧ l[j]? = some y) := by
  by_cases e : i = j
  · subst e
    by_cases hl : i < l.length
    · rw [List.getElem?_set_self hl] at h
      exact .inl ⟨rfl, (Option.some.inj h).symm, hl⟩
    · rw [List.getElem?_eq_none (by rw [List.length_set]; omega)] at h
      cases h
  · rw [List.getElem?_set_ne e] at h
    exact .inr ⟨e, h⟩
theorem Owns.set_ne {i j : Nat} {s : Slot} {d : Dt} (h : Owns (env.set i s) j d) (hs : ∀ d, s ≠ .own d ∧ s ≠ .io d) : i ≠ j ∧ Owns env j d := by
  rcases h with h | h
  · rcases get_set h with ⟨_, e, _⟩ | ⟨ne, e⟩
    · exact absurd e.symm (hs d).1
    · exact ⟨ne, .inl e⟩
  · rcases get_set h with ⟨_, e, _⟩ | ⟨ne, e⟩
    · exact absurd e.symm (hs d).2
    · exact ⟨ne, .inr e⟩
/-- data is stored in a slot that is not lent -/
theorem Agr.setImm (A : Agr W Fm Hb ia env σ H) {i : Nat} {d : Dt} {v : V} (hi : i < env.length) (hn : ∀ e, env[i]? ≠ some (.io e)) (r : RdD W Hb d v) : Agr W Fm Hb ia (env.set i (.imm d)) (σ.set i (some v)) H where
  bs := A.bs
  len := by rw [List.length_set, List.length_set]; exact A.len
  imm := fun j e h => by
    rcases get_set h with ⟨rfl, q, hl⟩ | ⟨ne, q⟩
    · cases q
      exact ⟨v, List.getElem?_set_self (by rw [← A.len]; exact hl), r⟩
    · obtain ⟨u, g1, g2⟩ := A.imm j e q
      exact ⟨u, by rw [List.getElem?_set_ne ne]; exact g1, g2⟩
  own := fun j e h => by
    obtain ⟨ne, h⟩ := h.set_ne fun d => ⟨fun z => (nomatch z), fun z => (nomatch z)⟩
    obtain ⟨a, g1, g2⟩ := A.own j e h
    exact ⟨a, by rw [List.getElem?_set_ne ne]; exact g1, g2⟩
  inj := fun j k d d' a h1 h2 e1 e2 => by
    obtain ⟨n1, h1⟩ := h1.set_ne fun d => ⟨fun z => (nomatch z), fun z => (nomatch z)⟩
    obtain ⟨n2, h2⟩ := h2.set_ne fun d => ⟨fun z => (nomatch z), fun z => (nomatch z)⟩
    rw [List.getElem?_set_ne n1] at e1
    rw [List.getElem?_set_ne n2] at e2
    exact A.inj j k d d' a h1 h2 e1 e2
  io := fun j e h => by
    rcases get_set h with ⟨_, q, _⟩ | ⟨ne, q⟩
    · cases q
    · obtain ⟨z, a, g1, g2⟩ := A.io j e q
      exact ⟨z, a, g1, by rw [List.getElem?_set_ne ne]; exact g2⟩
  ioh := fun a e => by
    obtain ⟨d', h⟩ := A.ioh a e
    refine ⟨d', ?_⟩
    rw [List.getElem?_set_ne]
    · exact h
    · intro z
      subst z
      exact hn d' h
/-- the content of an owned slot is new, or it is given up: any change of one slot's word that own, io of the others bear -/
theorem Agr.setOwn (A : Agr W Fm Hb ia env σ H) {i : Nat} {d : Dt} {p : Addr} (hi : i < env.length) (hn : ∀ e, env[i]? ≠ some (.io e)) (h1 : Hb p = none) (h2 : Fm p = none) (r : OwnAt W Hb H p d)
    (h3 : ∀ i d, Owns env i d → σ[i]? ≠ some (some (.ref p))) : Agr W Fm Hb ia (env.set i (.own d)) (σ.set i (some (.ref p))) H where
  bs := A.bs
  len := by rw [List.length_set, List.length_set]; exact A.len
  imm := fun j e h => by
    rcases get_set h with ⟨_, q, _⟩ | ⟨ne, q⟩
    · cases q
    · obtain ⟨u, g1, g2⟩ := A.imm j e q
      exact ⟨u, by rw [List.getElem?_set_ne ne]; exact g1, g2⟩
  own := fun j e h => by
    rcases h with h | h
    · rcases get_set h with ⟨rfl, q, hl⟩ | ⟨ne, q⟩
      · cases q
        exact ⟨p, List.getElem?_set_self (by rw [← A.len]; exact hl), h1, h2, r⟩
      · obtain ⟨a, g1, g2⟩ := A.own j e (.inl q)
        exact ⟨a, by rw [List.getElem?_set_ne ne]; exact g1, g2⟩
    · rcases get_set h with ⟨_, q, _⟩ | ⟨ne, q⟩
      · cases q
      · obtain ⟨a, g1, g2⟩ := A.own j e (.inr q)
        exact ⟨a, by rw [List.getElem?_set_ne ne]; exact g1, g2⟩
  inj := fun j k e e' a g1 g2 e1 e2 => by
    have key : ∀ j e, Owns (env.set i (.own d)) j e → j = i ∨ (i ≠ j ∧ Owns env j e) := fun j e g => by
      rcases g with g | g
      · rcases get_set g with ⟨z, _, _⟩ | ⟨ne, q⟩
        · exact .inl z.symm
        · exact .inr ⟨ne, .inl q⟩
      · rcases get_set g with ⟨z, _, _⟩ | ⟨ne, q⟩
        · exact .inl z.symm
        · exact .inr ⟨ne, .inr q⟩
    have hi' : i < σ.length := by rw [← A.len]; exact hi
    rcases key j e g1 with rfl | ⟨n1, o1⟩
    · rcases key k e' g2 with rfl | ⟨n2, o2⟩
      · rfl
      · rw [List.getElem?_set_self hi'] at e1
        rw [List.getElem?_set_ne n2] at e2
        cases e1
        exact absurd e2 (h3 k e' o2)
    · rw [List.getElem?_set_ne n1] at e1
      rcases key k e' g2 with rfl | ⟨n2, o2⟩
      · rw [List.getElem?_set_self hi'] at e2
        cases e2
        exact absurd e1 (h3 j e o1)
      · rw [List.getElem?_set_ne n2] at e2
        exact A.inj j k e e' a o1 o2 e1 e2
  io := fun j e h => by
    rcases get_set h with ⟨_, q, _⟩ | ⟨ne, q⟩
    · cases q
    · obtain ⟨z, a, g1, g2⟩ := A.io j e q
      exact ⟨z, a, g1, by rw [List.getElem?_set_ne ne]; exact g2⟩
  ioh := fun a e => by
    obtain ⟨d', h⟩ := A.ioh a e
    refine ⟨d', ?_⟩
    rw [List.getElem?_set_ne]
    · exact h
    · intro z
      subst z
      exact hn d' h
/-- a slot is forgotten -/
theorem Agr.forget (A : Agr W Fm Hb ia env σ H) {i : Nat} (hn : ∀ e, env[i]? ≠ some (.io e)) {o : Option V} : Agr W Fm Hb ia (env.set i .un) (σ.set i o) H where
  bs := A.bs
  len := by rw [List.length_set, List.length_set]; exact A.len
  imm := fun j e h => by
    rcases get_set h with ⟨_, q, _⟩ | ⟨ne, q⟩
    · cases q
    · obtain ⟨u, g1, g2⟩ := A.imm j e q
      exact ⟨u, by rw [List.getElem?_set_ne ne]; exact g1, g2⟩
  own := fun j e h => by
    obtain ⟨ne, h⟩ := h.set_ne fun d => ⟨fun z => (nomatch z), fun z => (nomatch z)⟩
    obtain ⟨a, g1, g2⟩ := A.own j e h
    exact ⟨a, by rw [List.getElem?_set_ne ne]; exact g1, g2⟩
  inj := fun j k d d' a h1 h2 e1 e2 => by
    obtain ⟨n1, h1⟩ := h1.set_ne fun d => ⟨fun z => (nomatch z), fun z => (nomatch z)⟩
    obtain ⟨n2, h2⟩ := h2.set_ne fun d => ⟨fun z => (nomatch z), fun z => (nomatch z)⟩
    rw [List.getElem?_set_ne n1] at e1
    rw [List.getElem?_set_ne n2] at e2
    exact A.inj j k d d' a h1 h2 e1 e2
  io := fun j e h => by
    rcases get_set h with ⟨_, q, _⟩ | ⟨ne, q⟩
    · cases q
    · obtain ⟨z, a, g1, g2⟩ := A.io j e q
      exact ⟨z, a, g1, by rw [List.getElem?_set_ne ne]; exact g2⟩
  ioh := fun a e => by
    obtain ⟨d', h⟩ := A.ioh a e
    refine ⟨d', ?_⟩
    rw [List.getElem?_set_ne]
    · exact h
    · intro z
      subst z
      exact hn d' h
theorem set_self {α : Type} : ∀ {l : List α} {i : Nat} {x : α}, l[i]? = some x → l.set i x = l
  | [], _, _, h => by simp at h
  | a :: l, 0, x, h => by cases (show some a = some x from h); rfl
  | a :: l, i + 1, x, h => by
    show a :: l.set i x = a :: l
    rw [set_self (l := l) (by simpa using h)]
/-- an owned slot's word is given up in place: the object is data from now on -/
theorem Agr.give (A : Agr W Fm Hb ia env σ H) {i : Nat} {d : Dt} (h : env[i]? = some (.own d)) :
    ∃ a Hb', σ[i]? = some (some (.ref a)) ∧ Same Hb Hb' ∧ Agr W Fm Hb' ia (env.set i (.imm d)) σ H ∧ RdD W Hb' d (.ref a) := by
  obtain ⟨a, g1, g2, g3, g4⟩ := A.own i d (.inl h)
  obtain ⟨o, ho⟩ := g4.there
  have A1 : Agr W Fm Hb ia (env.set i .un) (σ.set i (some (.ref a))) H := A.forget (fun e z => by rw [h] at z; cases z)
  rw [set_self g1] at A1
  have A2 := A1.freeze g2 g3 ho (fun ps => (g4.ld ho).ntbl ps) fun j e oj z => by
    obtain ⟨ne, oj⟩ := oj.set_ne fun d => ⟨fun z => (nomatch z), fun z => (nomatch z)⟩
    exact ne (A.inj i j d e a (.inl h) oj g1 z)
  have r := g4.frozen g2 ho
  have hl : i < env.length := (List.getElem?_eq_some_iff.mp h).1
  have A3 := A2.setImm (i := i) (d := d) (v := .ref a) (by rw [List.length_set]; exact hl) (fun e z => by rw [List.getElem?_set_self hl] at z; cases z) r
  rw [set_self g1, List.set_set] at A3
  exact ⟨a, upd Hb a o, g1, same_lay g2, A3, r⟩
/-- .. or handed on as it is, the slot forgotten -/
theorem Agr.hand (A : Agr W Fm Hb ia env σ H) {i : Nat} {d : Dt} (h : env[i]? = some (.own d)) :
    ∃ a, σ[i]? = some (some (.ref a)) ∧ Hb a = none ∧ Fm a = none ∧ OwnAt W Hb H a d ∧ Agr W Fm Hb ia (env.set i .un) σ H ∧ ∀ j e, Owns (env.set i .un) j e → σ[j]? ≠ some (some (.ref a)) := by
  obtain ⟨a, g1, g2, g3, g4⟩ := A.own i d (.inl h)
  have A1 : Agr W Fm Hb ia (env.set i .un) (σ.set i (some (.ref a))) H := A.forget (fun e z => by rw [h] at z; cases z)
  rw [set_self g1] at A1
  refine ⟨a, g1, g2, g3, g4, A1, fun j e oj z => ?_⟩
  obtain ⟨ne, oj⟩ := oj.set_ne fun d => ⟨fun z => (nomatch z), fun z => (nomatch z)⟩
  exact ne (A.inj i j d e a (.inl h) oj g1 z)
/-- the object of an owned (or lent) slot is changed -/
theorem Agr.write (A : Agr W Fm Hb ia env σ H) {i : Nat} {d d' : Dt} {a : Addr} {o : HO} {s : Slot} (h : Owns env i d) (hs : (env[i]? = some (.own d) ∧ s = .own d') ∨ (env[i]? = some (.io d) ∧ s = .io d'))
    (ha : σ[i]? = some (some (.ref a))) (r : OwnAt W Hb (upd H a o) a d') : Agr W Fm Hb ia (env.set i s) σ (upd H a o) := by
  obtain ⟨a', g1, g2, g3, g4⟩ := A.own i d h
  rw [ha] at g1
  cases g1
  have hl : i < env.length := by
    rcases h with h | h <;> exact (List.getElem?_eq_some_iff.mp h).1
  have key : ∀ j e, Owns (env.set i s) j e → (i = j ∧ e = d') ∨ (i ≠ j ∧ Owns env j e) := fun j e g => by
    rcases g with g | g
    · rcases get_set g with ⟨z, q, _⟩ | ⟨ne, q⟩
      · rcases hs with ⟨_, rfl⟩ | ⟨_, rfl⟩
        · cases q; exact .inl ⟨z, rfl⟩
        · cases q
      · exact .inr ⟨ne, .inl q⟩
    · rcases get_set g with ⟨z, q, _⟩ | ⟨ne, q⟩
      · rcases hs with ⟨_, rfl⟩ | ⟨_, rfl⟩
        · cases q
        · cases q; exact .inl ⟨z, rfl⟩
      · exact .inr ⟨ne, .inr q⟩
  exact {
    bs := A.bs.put g2 g3 fun o ho => g4.ld ho
    len := by rw [List.length_set]; exact A.len
    imm := fun j e g => by
      rcases get_set g with ⟨_, q, _⟩ | ⟨ne, q⟩
      · rcases hs with ⟨_, rfl⟩ | ⟨_, rfl⟩ <;> cases q
      · exact A.imm j e q
    own := fun j e g => by
      rcases key j e g with ⟨rfl, rfl⟩ | ⟨ne, g⟩
      · exact ⟨a, ha, g2, g3, r⟩
      · obtain ⟨b, k1, k2, k3, k4⟩ := A.own j e g
        have nb : b ≠ a := fun z => ne (A.inj i j d e a h g ha (by rw [← z]; exact k1))
        exact ⟨b, k1, k2, k3, k4.move (Same.refl _) fun u hu => by rw [upd_ne nb]; exact hu⟩
    inj := fun j k e e' b x1 x2 y1 y2 => by
      rcases key j e x1 with ⟨rfl, rfl⟩ | ⟨n1, o1⟩
      · rcases key k e' x2 with ⟨rfl, rfl⟩ | ⟨n2, o2⟩
        · rfl
        · exact A.inj i k d e' b h o2 y1 y2
      · rcases key k e' x2 with ⟨rfl, rfl⟩ | ⟨n2, o2⟩
        · exact A.inj j i e d b o1 h y1 y2
        · exact A.inj j k e e' b o1 o2 y1 y2
    io := fun j e g => by
      rcases get_set g with ⟨rfl, q, _⟩ | ⟨ne, q⟩
      · rcases hs with ⟨_, rfl⟩ | ⟨hs, rfl⟩
        · cases q
        · exact A.io i d hs
      · exact A.io j e q
    ioh := fun b e => by
      obtain ⟨d'', g⟩ := A.ioh b e
      by_cases z : i = 0
      · subst z
        rcases hs with ⟨hs, _⟩ | ⟨hs, rfl⟩
        · rw [hs] at g; cases g
        · exact ⟨d', List.getElem?_set_self hl⟩
      · exact ⟨d'', by rw [List.getElem?_set_ne z]; exact g⟩ }
end
end G


set_option maxRecDepth 100000
set_option maxHeartbeats 2000000
/-! Kern2: the ends of expressions, tests, statements; how they go on; names, constants, operators. -/
namespace G
open PySem PySem.Spec PyProof.Rows L2
variable [TabT]

abbrev DE := Env' → Res (Val × Env')
abbrev DT := Env' → Res (Bool × Env')
abbrev DA := Env' → Res (List Dt × Env')
/-- how a statement ends -/
inductive Fl where
  | nx | rt (v : Val) | bk | ct
abbrev DS := Env' → Res (Fl × Env')

/-- an exception's class and fields -/
def ErrAt (W : Wd) (Hb H : Hp) (x : Exn) (c : Value) (dx : Option Addr) : Prop :=
  W.mg x.cls = some c ∧ ((x.fs = [] ∧ dx = none) ∨ ∃ d fs, dx = some d ∧ H d = some (.xd fs) ∧ fs.map (·.1) = x.fs.map (·.1) ∧ RdL W Hb (x.fs.map (·.2)) (fs.map (·.2)))

section
variable {β γ : Type}
/-- what is wanted behind an expression, a test, arguments: G of what comes, the slots, the base, the heap -/
def Post (W : Wd) (EX : XK) (Fm Hb : Hp) (ia : Option Addr) (σ : L2.St) (G : β → Env' → Hp → Hp → Prop) : Res (β × Env') → Prop
  | .ok (b, e) => ∀ H' Hb', Same Hb Hb' → Agr W Fm Hb' ia e σ H' → G b e Hb' H'
  | .err x => ∀ c dx H' Hb', Same Hb Hb' → Bse Fm Hb' H' → ErrAt W Hb' H' x c dx → EX c dx H'
  | .bad => False
def FlG (W : Wd) (Fm : Hp) (D : Ends) (f : Fl) (e : Env') (σ : L2.St) (Hb H : Hp) (va : Val → V → Prop) : Prop :=
  match f with
  | .nx => D.nx σ H
  | .bk => D.bk σ H
  | .ct => D.ct σ H
  | .rt val => ∀ v, va val v → D.rt v H
end
/-- how a value stands -/
def VAt (W : Wd) (Fm Hb H : Hp) (e : Env') (σ : L2.St) : Val → V → Prop
  | .imm d, v => RdD W Hb d v
  | .fresh d, v => ∃ p, v = .ref p ∧ Hb p = none ∧ Fm p = none ∧ OwnAt W Hb H p d ∧ ∀ i x, Owns e i x → σ[i]? ≠ some (some (.ref p))
def PostS (W : Wd) (EX : XK) (Fm Hb : Hp) (ia : Option Addr) (D : Ends) : Res (Fl × Env') → Prop
  | .ok (f, e) => ∀ σ' H' Hb', Same Hb Hb' → Agr W Fm Hb' ia e σ' H' → FlG W Fm D f e σ' Hb' H' (VAt W Fm Hb' H' e σ')
  | .err x => ∀ c dx H' Hb', Same Hb Hb' → Bse Fm Hb' H' → ErrAt W Hb' H' x c dx → EX c dx H'
  | .bad => False

abbrev GE (W : Wd) (Fm : Hp) (σ : L2.St) (Q : VK) : Val → Env' → Hp → Hp → Prop := fun val e Hb H => ∀ v, VAt W Fm Hb H e σ val v → Q v H
abbrev GT (Q : Bool → Hp → Prop) : Bool → Env' → Hp → Hp → Prop := fun b _ _ H => Q b H
abbrev GA (W : Wd) (Q : List V → Hp → Prop) : List Dt → Env' → Hp → Hp → Prop := fun ds _ Hb H => ∀ vs, RdL W Hb ds vs → Q vs H

def rdE (W : Wd) (EX : XK) (f : DE) : TE := fun σ H Q => ∃ Fm Hb ia env, Agr W Fm Hb ia env σ H ∧ Post W EX Fm Hb ia σ (GE W Fm σ Q) (f env)
def rdT (W : Wd) (EX : XK) (f : DT) : TT := fun σ H Q => ∃ Fm Hb ia env, Agr W Fm Hb ia env σ H ∧ Post W EX Fm Hb ia σ (GT Q) (f env)
def rdA (W : Wd) (EX : XK) (f : DA) : TA := fun σ H Q => ∃ Fm Hb ia env, Agr W Fm Hb ia env σ H ∧ Post W EX Fm Hb ia σ (GA W Q) (f env)
def rdS (W : Wd) (EX : XK) (f : DS) : TS := fun D σ H => ∃ Fm Hb ia env, Agr W Fm Hb ia env σ H ∧ PostS W EX Fm Hb ia D (f env)

section
variable {W : Wd} {EX : XK} {Fm Hb Hb' H H' : Hp} {ia : Option Addr} {env : Env'} {σ : L2.St} {β γ : Type} {D : Ends}
theorem Post.mono {G : β → Env' → Hp → Hp → Prop} (e : Same Hb Hb') : ∀ {r : Res (β × Env')}, Post W EX Fm Hb ia σ G r → Post W EX Fm Hb' ia σ G r
  | .ok (_, _), h => fun H' Hb'' e' A => h H' Hb'' (e.trans e') A
  | .err _, h => fun c dx H' Hb'' e' => h c dx H' Hb'' (e.trans e')
  | .bad, h => h.elim
theorem PostS.mono (e : Same Hb Hb') : ∀ {r : Res (Fl × Env')}, PostS W EX Fm Hb ia D r → PostS W EX Fm Hb' ia D r
  | .ok (_, _), h => fun σ' H' Hb'' e' A => h σ' H' Hb'' (e.trans e') A
  | .err _, h => fun c dx H' Hb'' e' => h c dx H' Hb'' (e.trans e')
  | .bad, h => h.elim
/-- one thing, then another -/
theorem Post.bind {G : β → Env' → Hp → Hp → Prop} {G' : γ → Env' → Hp → Hp → Prop} {r : Res (β × Env')} {k : β × Env' → Res (γ × Env')} (h : Post W EX Fm Hb ia σ G' (r.bind k))
    (hk : ∀ b e H' Hb', Same Hb Hb' → Agr W Fm Hb' ia e σ H' → Post W EX Fm Hb' ia σ G' (k (b, e)) → G b e Hb' H') : Post W EX Fm Hb ia σ G r := by
  cases r with
  | ok p =>
    obtain ⟨b, e⟩ := p
    exact fun H' Hb' s A => hk b e H' Hb' s A (Post.mono s h)
  | err x => exact h
  | bad => exact h.elim
theorem Post.bindS {G : β → Env' → Hp → Hp → Prop} {r : Res (β × Env')} {k : β × Env' → Res (Fl × Env')} (h : PostS W EX Fm Hb ia D (r.bind k))
    (hk : ∀ b e H' Hb', Same Hb Hb' → Agr W Fm Hb' ia e σ H' → PostS W EX Fm Hb' ia D (k (b, e)) → G b e Hb' H') : Post W EX Fm Hb ia σ G r := by
  cases r with
  | ok p =>
    obtain ⟨b, e⟩ := p
    exact fun H' Hb' s A => hk b e H' Hb' s A (PostS.mono s h)
  | err x => exact h
  | bad => exact h.elim
/-- a value that is used as data -/
theorem VAt.use {val : Val} {v : V} (A : Agr W Fm Hb ia env σ H) (h : VAt W Fm Hb H env σ val v) : ∃ Hb', Same Hb Hb' ∧ Agr W Fm Hb' ia env σ H ∧ RdD W Hb' val.d v := by
  cases val with
  | imm d => exact ⟨Hb, Same.refl _, A, h⟩
  | fresh d =>
    obtain ⟨p, rfl, h1, h2, h3, h4⟩ := h
    obtain ⟨o, ho⟩ := h3.there
    exact ⟨upd Hb p o, same_lay h1, A.freeze h1 h2 ho (fun ps => (h3.ld ho).ntbl ps) h4, h3.frozen h1 ho⟩
/-- the same at an expression's end -/
theorem GE.use {Q : VK} {val : Val} (h : ∀ d Hb' v, val.d = d → Same Hb Hb' → Agr W Fm Hb' ia env σ H → RdD W Hb' d v → Q v H) (A : Agr W Fm Hb ia env σ H) : GE W Fm σ Q val env Hb H := fun v hv => by
  obtain ⟨Hb', s, A', r⟩ := hv.use A
  exact h _ Hb' v rfl s A' r
theorem Post.bindV {G' : γ → Env' → Hp → Hp → Prop} {Q : VK} {r : Res (Val × Env')} {k : Val × Env' → Res (γ × Env')} (h : Post W EX Fm Hb ia σ G' (r.bind k))
    (hk : ∀ val e v H' Hb', Same Hb Hb' → Agr W Fm Hb' ia e σ H' → RdD W Hb' val.d v → Post W EX Fm Hb' ia σ G' (k (val, e)) → Q v H') : Post W EX Fm Hb ia σ (GE W Fm σ Q) r :=
  Post.bind h fun val e H' Hb' s A p => GE.use (fun d Hb'' v ed s' A' r => hk val e v H' Hb'' (s.trans s') A' (by rw [ed]; exact r) (Post.mono s' p)) A
theorem Post.bindVS {Q : VK} {r : Res (Val × Env')} {k : Val × Env' → Res (Fl × Env')} (h : PostS W EX Fm Hb ia D (r.bind k))
    (hk : ∀ val e v H' Hb', Same Hb Hb' → Agr W Fm Hb' ia e σ H' → RdD W Hb' val.d v → PostS W EX Fm Hb' ia D (k (val, e)) → Q v H') : Post W EX Fm Hb ia σ (GE W Fm σ Q) r :=
  Post.bindS h fun val e H' Hb' s A p => GE.use (fun d Hb'' v ed s' A' r => hk val e v H' Hb'' (s.trans s') A' (by rw [ed]; exact r) (PostS.mono s' p)) A
/-- ends -/
theorem Post.imm {Q : VK} {d : Dt} {v : V} (h : Post W EX Fm Hb ia σ (GE W Fm σ Q) (.ok (.imm d, env))) (A : Agr W Fm Hb ia env σ H) (r : RdD W Hb d v) : Q v H := h H Hb (Same.refl _) A v r
theorem Post.newT {Q : VK} {ds : List Dt} {vs : List V} (h : Post W EX Fm Hb ia σ (GE W Fm σ Q) (.ok (.imm (.tup ds), env))) (A : Agr W Fm Hb ia env σ H) (r : RdL W Hb ds vs) : ∀ p, H p = none → Q (.ref p) (upd H p (.tup vs)) := fun p hp => by
  have hn := A.bs.hb.free hp
  exact h _ (upd Hb p (.tup vs)) (same_lay hn) (A.lay hp (fun _ z => nomatch z)) _ ⟨p, vs, rfl, upd_same, RdL.mono (same_lay hn) _ _ r⟩
theorem Post.newL {Q : VK} {ds : List Dt} {vs : List V} (h : Post W EX Fm Hb ia σ (GE W Fm σ Q) (.ok (.fresh (.lst ds), env))) (A : Agr W Fm Hb ia env σ H) (r : RdL W Hb ds vs) : ∀ p, H p = none → Q (.ref p) (upd H p (.lst vs)) := fun p hp => by
  obtain ⟨h1, h2⟩ := A.bs.free hp
  exact h _ Hb (Same.refl _) (A.put h1 h2 (Wri.new hp) (A.apart hp)) _ ⟨p, rfl, h1, h2, ⟨vs, upd_same, r⟩, A.apart hp⟩
end

/-! ### judgements -/
theorem pe_mono {X : Cx} {e : Expr} {t t' : TE} (h : PE X e t) (w : ∀ σ H Q, t' σ H Q → t σ H Q) : PE X e t' := ⟨fun pins s σ H Q I q => h.run pins s σ H Q I (w σ H Q q)⟩
theorem pt_mono {X : Cx} {e : Expr} {t t' : TT} (h : PT X e t) (w : ∀ σ H Q, t' σ H Q → t σ H Q) : PT X e t' := ⟨fun pins s σ H Q I q => h.run pins s σ H Q I (w σ H Q q)⟩
theorem pw_mono {X : Cx} {e : Expr} {t t' : TT} (h : PW X e t) (w : ∀ σ H Q, t' σ H Q → t σ H Q) : PW X e t' := ⟨fun wh pins s σ H Q I q => h.run wh pins s σ H Q I (w σ H Q q)⟩
theorem pa_mono {X : Cx} {e : List Expr} {t t' : TA} (h : PA X e t) (w : ∀ σ H Q, t' σ H Q → t σ H Q) : PA X e t' := ⟨fun pos pins s σ H Q I q => h.run pos pins s σ H Q I (w σ H Q q)⟩
theorem ps_mono {X : Cx} {e : Stmt} {t t' : TS} (h : PS X e t) (w : ∀ D σ H, t' D σ H → t D σ H) : PS X e t' := ⟨fun pins s σ H D I q => h.run pins s σ H D I (w D σ H q)⟩
theorem pss_mono {X : Cx} {e : List Stmt} {t t' : TS} (h : PSs X e t) (w : ∀ D σ H, t' D σ H → t D σ H) : PSs X e t' := ⟨fun pins s σ H D I q => h.run pins s σ H D I (w D σ H q)⟩
abbrev wd (X : Cx) : Wd := ⟨X.K, X.mg⟩
abbrev SE (X : Cx) (EX : XK) (e : Expr) (f : DE) : Prop := PE X e (rdE (wd X) EX f)
abbrev ST (X : Cx) (EX : XK) (e : Expr) (f : DT) : Prop := PT X e (rdT (wd X) EX f)
abbrev SW (X : Cx) (EX : XK) (e : Expr) (f : DT) : Prop := PW X e (rdT (wd X) EX f)
abbrev SA (X : Cx) (EX : XK) (e : List Expr) (f : DA) : Prop := PA X e (rdA (wd X) EX f)
abbrev SS (X : Cx) (EX : XK) (st : Stmt) (f : DS) : Prop := PS X st (rdS (wd X) EX f)
abbrev SSs (X : Cx) (EX : XK) (sts : List Stmt) (f : DS) : Prop := PSs X sts (rdS (wd X) EX f)

/-! ### names and constants -/
def dC (d : Dt) : DE := fun env => .ok (.imm d, env)
/-- a name that is read: what was owned is data from now on -/
def dVar (i : Nat) : DE := fun env => match env[i]? with
  | some (.imm d) => .ok (.imm d, env)
  | some (.own d) => .ok (.imm d, env.set i (.imm d))
  | _ => .bad
/-- a name that is handed on -/
def dMove (i : Nat) : DE := fun env => match env[i]? with
  | some (.imm d) => .ok (.imm d, env)
  | some (.own d) => .ok (.fresh d, env.set i .un)
  | _ => .bad
/-- a constant's data -/
def flatD : V → Option Dt
  | .non => some .non
  | .bl b => some (.bl b)
  | .int i => some (.int i)
  | .str x => some (.str x)
  | _ => none
theorem flatD_rd {W : Wd} {H : Hp} {v : V} {d : Dt} (h : flatD v = some d) : RdD W H d v := by
  cases v <;> simp only [flatD, Option.some.injEq, reduceCtorEq] at h <;> subst h <;> rfl
section
variable {X : Cx} {EX : XK} {pos : Pos} {e a b : Expr} {fa fb : DE}
theorem se_c {v : V} {d : Dt} (h : PE X e (tC v)) (hd : flatD v = some d) : SE X EX e (dC d) := pe_mono h fun σ H Q ⟨Fm, Hb, ia, env, A, p⟩ => p.imm A (flatD_rd hd)
theorem se_var {i : Nat} (h : PE X e (tVar i)) : SE X EX e (dVar i) := pe_mono h fun σ H Q ⟨Fm, Hb, ia, env, A, p⟩ => by
  unfold dVar at p
  split at p
  · rename_i d hd
    obtain ⟨v, h1, h2⟩ := A.imm i d hd
    exact ⟨v, h1, p.imm A h2⟩
  · rename_i d hd
    obtain ⟨a, Hb', h1, s, A', r⟩ := A.give hd
    exact ⟨.ref a, h1, p H Hb' s A' _ r⟩
  · exact p.elim
theorem se_move {i : Nat} (h : PE X e (tVar i)) : SE X EX e (dMove i) := pe_mono h fun σ H Q ⟨Fm, Hb, ia, env, A, p⟩ => by
  unfold dMove at p
  split at p
  · rename_i d hd
    obtain ⟨v, h1, h2⟩ := A.imm i d hd
    exact ⟨v, h1, p.imm A h2⟩
  · rename_i d hd
    obtain ⟨a, h1, h2, h3, h4, A', h5⟩ := A.hand hd
    exact ⟨.ref a, h1, p H Hb (Same.refl _) A' _ ⟨a, rfl, h2, h3, h4, h5⟩⟩
  · exact p.elim

/-! ### operators -/
def dBin (g : Dt → Dt → Res Val) (fa fb : DE) : DE := fun env => (fa env).bind fun p => (fb p.2).bind fun q => (g p.1.d q.1.d).map fun v => (v, q.2)
def OpS (W : Wd) (r : R2) (g : Dt → Dt → Res Val) : Prop := ∀ EX Fm Hb ia env σ H d1 d2 x y Q, Agr W Fm Hb ia env σ H → RdD W Hb d1 x → RdD W Hb d2 y → Post W EX Fm Hb ia σ (GE W Fm σ Q) ((g d1 d2).map fun v => (v, env)) → r x y H Q
theorem rd_bin {W : Wd} {r : R2} {g : Dt → Dt → Res Val} (hs : OpS W r g) : ∀ σ H Q, rdE W EX (dBin g fa fb) σ H Q → tOp r (rdE W EX fa) (rdE W EX fb) σ H Q := fun σ H Q ⟨Fm, Hb, ia, env, A, p⟩ =>
  ⟨Fm, Hb, ia, env, A, Post.bindV p fun va e1 x H1 Hb1 s1 A1 r1 p1 => ⟨Fm, Hb1, ia, e1, A1, Post.bindV p1 fun vb e2 y H2 Hb2 s2 A2 r2 p2 => hs EX Fm Hb2 ia e2 σ H2 _ _ x y Q A2 (RdD.mono s2 _ _ r1) r2 p2⟩⟩
theorem se_bin {op : Operator} {r : R2} {g : Dt → Dt → Res Val} (ho : OpR X (binaryOp op) r) (hs : OpS (wd X) r g) (ha : SE X EX a fa) (hb : SE X EX b fb) : SE X EX (.BinOp a op b pos) (dBin g fa fb) := pe_mono (pe_op ho ha hb) (rd_bin hs)
theorem se_cmp {op : CmpOp} {r : R2} {g : Dt → Dt → Res Val} (ho : OpR X (compareOp op) r) (hs : OpS (wd X) r g) (ha : SE X EX a fa) (hb : SE X EX b fb) (hm : behindInMarks op b = false) : SE X EX (.Compare a [op] [b] pos) (dBin g fa fb) := pe_mono (pe_cmpR ho ha hb hm) (rd_bin hs)
/-- a truth, as a test -/
def asB : Val × Env' → Res (Bool × Env')
  | (.imm (.bl b), e) => .ok (b, e)
  | _ => .bad
def dTest (f : DE) : DT := fun env => (f env).bind asB
theorem rd_test {W : Wd} : ∀ σ H Q, rdT W EX (dTest fa) σ H Q → tTest (rdE W EX fa) σ H Q := fun σ H Q ⟨Fm, Hb, ia, env, A, p⟩ =>
  ⟨Fm, Hb, ia, env, A, Post.bind p fun val e H1 Hb1 s A1 p1 v hv => by
    unfold asB at p1
    split at p1
    · rename_i b e' q
      cases q
      cases (show v = V.bl b from hv)
      exact ⟨b, rfl, p1 H1 Hb1 (Same.refl _) A1⟩
    · exact p1.elim⟩
theorem st_cmp {op : CmpOp} {r : R2} {g : Dt → Dt → Res Val} (ho : OpR X (compareOp op) r) (hs : OpS (wd X) r g) (ha : SE X EX a fa) (hb : SE X EX b fb) (hm : behindInMarks op b = false) : ST X EX (.Compare a [op] [b] pos) (dTest (dBin g fa fb)) :=
  pt_mono (pt_cmpR ho ha hb hm) fun σ H Q h => by
    obtain ⟨Fm, Hb, ia, env, A, p⟩ := h
    have q := rd_test (W := wd X) σ H Q ⟨Fm, Hb, ia, env, A, p⟩
    exact rd_bin hs σ H _ q
end
end G


set_option maxRecDepth 100000
set_option maxHeartbeats 4000000
/-! Kern3: the operators' tables on data; truth; displays. -/
namespace G
open PySem PySem.Spec PyProof.Rows L2
variable [TabT]

/-! ### data as the library's data -/
mutual
def dToP : Dt → Option PyData
  | .non => some .none
  | .bl b => some (.bool b)
  | .int i => some (.int i)
  | .str x => some (.str x)
  | .lst ds => (dToPs ds).map .list
  | .tup ds => (dToPs ds).map .tuple
  | .scr _ => none
  | .dct _ _ => none
  | .obj _ _ _ => none
  | .exn _ _ _ => none
  | .dcf _ _ => none
def dToPs : List Dt → Option (List PyData)
  | [] => some []
  | d :: ds => match dToP d, dToPs ds with
    | some p, some ps => some (p :: ps)
    | _, _ => none
end
mutual
theorem RdD.dp {W : Wd} {H : Hp} : ∀ {d : Dt} {v : V} {p : PyData}, RdD W H d v → dToP d = some p → Dp W.K H v p
  | .non, v, p, h, e => by
    cases (show v = .non from h)
    simp only [dToP, Option.some.injEq] at e
    subst e
    exact .non
  | .bl b, v, p, h, e => by
    cases (show v = .bl b from h)
    simp only [dToP, Option.some.injEq] at e
    subst e
    exact .bl b
  | .int i, v, p, h, e => by
    cases (show v = .int i from h)
    simp only [dToP, Option.some.injEq] at e
    subst e
    exact .int i
  | .str x, v, p, h, e => by
    cases (show v = .str x from h)
    simp only [dToP, Option.some.injEq] at e
    subst e
    exact .str x
  | .lst ds, v, p, h, e => by
    obtain ⟨a, vs, rfl, h2, h3⟩ := h
    simp only [dToP, Option.map_eq_some_iff] at e
    obtain ⟨ps, e1, rfl⟩ := e
    exact .lst (.inl (.inl h2)) (RdL.dp h3 e1)
  | .tup ds, v, p, h, e => by
    obtain ⟨a, vs, rfl, h2, h3⟩ := h
    simp only [dToP, Option.map_eq_some_iff] at e
    obtain ⟨ps, e1, rfl⟩ := e
    exact .tup (sqt_of h2) (RdL.dp h3 e1)
  | .scr _, _, _, _, e => by simp [dToP] at e
  | .dct _ _, _, _, _, e => by simp [dToP] at e
  | .obj _ _ _, _, _, _, e => by simp [dToP] at e
  | .exn _ _ _, _, _, _, e => by simp [dToP] at e
  | .dcf _ _, _, _, _, e => by simp [dToP] at e
theorem RdL.dp {W : Wd} {H : Hp} : ∀ {ds : List Dt} {vs : List V} {ps : List PyData}, RdL W H ds vs → dToPs ds = some ps → DpAll W.K H vs ps
  | [], vs, ps, h, e => by
    cases (show vs = [] from h)
    simp only [dToPs, Option.some.injEq] at e
    subst e
    exact .nil
  | d :: ds, vs, ps, h, e => by
    obtain ⟨v, r, rfl, h2, h3⟩ := h
    simp only [dToPs] at e
    split at e
    · rename_i q qs e1 e2
      simp only [Option.some.injEq] at e
      subst e
      exact .cons (RdD.dp h2 e1) (RdL.dp h3 e2)
    · cases e
end

/-! ### operators on data -/
def vI (i : Int) : Res Val := .ok (.imm (.int i))
def vB (b : Bool) : Res Val := .ok (.imm (.bl b))
def opAdd : Dt → Dt → Res Val
  | .int i, .int j => vI (i + j)
  | .str x, .str y => if x.length + y.length ≤ sizeLine then .ok (.imm (.str (x ++ y))) else .bad
  | .lst xs, .lst ys => if xs.length + ys.length ≤ sizeLine then .ok (.fresh (.lst (xs ++ ys))) else .bad
  | .tup xs, .tup ys => if xs.length + ys.length ≤ sizeLine then .ok (.imm (.tup (xs ++ ys))) else .bad
  | _, _ => .bad
def opSub : Dt → Dt → Res Val
  | .int i, .int j => vI (i - j)
  | _, _ => .bad
def mulOk (i j : Int) : Bool := decide (i.natAbs < 2 ^ 64) || decide (j.natAbs < 2 ^ 64) || decide (Builtin.Int.intBits i + Builtin.Int.intBits j ≤ 134217728)
def opMul : Dt → Dt → Res Val
  | .int i, .int j => if mulOk i j then vI (i * j) else .bad
  | .lst xs, .int k => if k.natAbs < 2 ^ 63 ∧ xs.length * k.toNat ≤ sizeLine then .ok (.fresh (.lst (List.replicate k.toNat xs).flatten)) else .bad
  | _, _ => .bad
def opFDiv : Dt → Dt → Res Val
  | .int i, .int j => if j ≠ 0 ∧ Builtin.divisionGoesByPylong i j = false then vI (i.fdiv j) else .bad
  | _, _ => .bad
def opMod : Dt → Dt → Res Val
  | .int i, .int j => if j ≠ 0 then vI (i.fmod j) else .bad
  | _, _ => .bad
def opPow : Dt → Dt → Res Val
  | .int i, .int j => if 0 ≤ j ∧ j.natAbs ≤ 1000000 ∧ i.natAbs < 2 ^ 64 then vI (i ^ j.toNat) else .bad
  | _, _ => .bad
def opShl : Dt → Dt → Res Val
  | .int i, .int j => if 0 ≤ j ∧ Builtin.Int.intBits i + j.natAbs ≤ 134217728 then vI (i * 2 ^ j.toNat) else .bad
  | _, _ => .bad
def opShr : Dt → Dt → Res Val
  | .int i, .int j => if 0 ≤ j then vI (i / 2 ^ j.toNat) else .bad
  | _, _ => .bad
def opAnd : Dt → Dt → Res Val
  | .int i, .int j => vI (Builtin.bitAnd i j)
  | _, _ => .bad
def eqD (neg : Bool) (d e : Dt) : Res Val := match dToP d, dToP e with
  | some p, some q => if SeqAt.shaped p && SeqAt.shaped q then vB (if neg then !PyData.eqv p q else PyData.eqv p q) else .bad
  | _, _ => .bad
def opLt : Dt → Dt → Res Val
  | .int i, .int j => vB (decide (i < j))
  | _, _ => .bad
def opLe : Dt → Dt → Res Val
  | .int i, .int j => vB (decide (i ≤ j))
  | _, _ => .bad
def opGt : Dt → Dt → Res Val
  | .int i, .int j => vB (decide (j < i))
  | _, _ => .bad
def opGe : Dt → Dt → Res Val
  | .int i, .int j => vB (decide (j ≤ i))
  | _, _ => .bad
def isNon : Dt → Bool
  | .non => true
  | _ => false
def opIs : Dt → Dt → Res Val
  | d, .non => vB (isNon d)
  | _, _ => .bad
def opIsNot : Dt → Dt → Res Val
  | d, .non => vB (!isNon d)
  | _, _ => .bad

section
variable {W : Wd} {H : Hp} {X : Cx}
theorem isNon_rd {d : Dt} {v : V} (h : RdD W H d v) : isNon d = decide (v = .non) := by
  cases d with
  | non => cases (show v = .non from h); rfl
  | bl b => cases (show v = .bl b from h); rfl
  | int b => cases (show v = .int b from h); rfl
  | str b => cases (show v = .str b from h); rfl
  | lst b => obtain ⟨_, _, rfl, _⟩ := h; rfl
  | tup b => obtain ⟨_, _, rfl, _⟩ := h; rfl
  | scr b => obtain ⟨_, rfl, _⟩ := h; rfl
  | dct b c => obtain ⟨_, rfl, _⟩ := h; rfl
  | dcf b c => obtain ⟨_, rfl, _⟩ := h; rfl
  | obj b c d => obtain ⟨_, _, _, _, rfl, _⟩ := h; rfl
  | exn b c d => obtain ⟨_, _, _, rfl, _⟩ := h; rfl
/-- two ints, no condition -/
theorem ops_I {g : Int → Int → V} {k : Int → Int → Dt} (hk : ∀ i j W' H', RdD W' H' (k i j) (g i j)) {op : Dt → Dt → Res Val} (h : ∀ i j, op (.int i) (.int j) = .ok (.imm (k i j))) (hb : ∀ d e r, op d e = r → r = .bad ∨ ∃ i j, d = .int i ∧ e = .int j) : OpS W (rI0 g) op := by
  intro EX Fm Hb ia env σ H d1 d2 x y Q A r1 r2 p
  rcases hb d1 d2 _ rfl with e | ⟨i, j, rfl, rfl⟩
  · rw [e] at p
    exact p.elim
  · rw [h] at p
    exact ⟨i, j, r1, r2, Post.imm p A (hk i j W Hb)⟩
theorem ops_IC {C : Int → Int → Prop} {g : Int → Int → V} {k : Int → Int → Dt} (hk : ∀ i j W' H', RdD W' H' (k i j) (g i j)) {op : Dt → Dt → Res Val} (h : ∀ i j r, op (.int i) (.int j) = r → r = .bad ∨ (C i j ∧ r = .ok (.imm (k i j))))
    (hb : ∀ d e r, op d e = r → r = .bad ∨ ∃ i j, d = .int i ∧ e = .int j) : OpS W (rI C g) op := by
  intro EX Fm Hb ia env σ H d1 d2 x y Q A r1 r2 p
  rcases hb d1 d2 _ rfl with e | ⟨i, j, rfl, rfl⟩
  · rw [e] at p
    exact p.elim
  · rcases h i j _ rfl with e | ⟨c, e⟩
    · rw [e] at p
      exact p.elim
    · rw [e] at p
      exact ⟨i, j, r1, r2, c, Post.imm p A (hk i j W Hb)⟩

theorem ints_only {op : Dt → Dt → Res Val} (h : ∀ d e, op d e = .bad ∨ ∃ i j, d = .int i ∧ e = .int j) : ∀ d e r, op d e = r → r = .bad ∨ ∃ i j, d = .int i ∧ e = .int j := fun d e r q => by
  subst q
  exact h d e
theorem onlySub : ∀ d e r, opSub d e = r → r = .bad ∨ ∃ i j, d = .int i ∧ e = .int j := ints_only fun d e => by
  cases d <;> first | (left; rfl) | (cases e <;> first | (left; rfl) | exact .inr ⟨_, _, rfl, rfl⟩)
theorem onlyFDiv : ∀ d e r, opFDiv d e = r → r = .bad ∨ ∃ i j, d = .int i ∧ e = .int j := ints_only fun d e => by
  cases d <;> first | (left; rfl) | (cases e <;> first | (left; rfl) | exact .inr ⟨_, _, rfl, rfl⟩)
theorem onlyMod : ∀ d e r, opMod d e = r → r = .bad ∨ ∃ i j, d = .int i ∧ e = .int j := ints_only fun d e => by
  cases d <;> first | (left; rfl) | (cases e <;> first | (left; rfl) | exact .inr ⟨_, _, rfl, rfl⟩)
theorem onlyPow : ∀ d e r, opPow d e = r → r = .bad ∨ ∃ i j, d = .int i ∧ e = .int j := ints_only fun d e => by
  cases d <;> first | (left; rfl) | (cases e <;> first | (left; rfl) | exact .inr ⟨_, _, rfl, rfl⟩)
theorem onlyShl : ∀ d e r, opShl d e = r → r = .bad ∨ ∃ i j, d = .int i ∧ e = .int j := ints_only fun d e => by
  cases d <;> first | (left; rfl) | (cases e <;> first | (left; rfl) | exact .inr ⟨_, _, rfl, rfl⟩)
theorem onlyShr : ∀ d e r, opShr d e = r → r = .bad ∨ ∃ i j, d = .int i ∧ e = .int j := ints_only fun d e => by
  cases d <;> first | (left; rfl) | (cases e <;> first | (left; rfl) | exact .inr ⟨_, _, rfl, rfl⟩)
theorem onlyAnd : ∀ d e r, opAnd d e = r → r = .bad ∨ ∃ i j, d = .int i ∧ e = .int j := ints_only fun d e => by
  cases d <;> first | (left; rfl) | (cases e <;> first | (left; rfl) | exact .inr ⟨_, _, rfl, rfl⟩)
theorem onlyLt : ∀ d e r, opLt d e = r → r = .bad ∨ ∃ i j, d = .int i ∧ e = .int j := ints_only fun d e => by
  cases d <;> first | (left; rfl) | (cases e <;> first | (left; rfl) | exact .inr ⟨_, _, rfl, rfl⟩)
theorem onlyLe : ∀ d e r, opLe d e = r → r = .bad ∨ ∃ i j, d = .int i ∧ e = .int j := ints_only fun d e => by
  cases d <;> first | (left; rfl) | (cases e <;> first | (left; rfl) | exact .inr ⟨_, _, rfl, rfl⟩)
theorem onlyGt : ∀ d e r, opGt d e = r → r = .bad ∨ ∃ i j, d = .int i ∧ e = .int j := ints_only fun d e => by
  cases d <;> first | (left; rfl) | (cases e <;> first | (left; rfl) | exact .inr ⟨_, _, rfl, rfl⟩)
theorem onlyGe : ∀ d e r, opGe d e = r → r = .bad ∨ ∃ i j, d = .int i ∧ e = .int j := ints_only fun d e => by
  cases d <;> first | (left; rfl) | (cases e <;> first | (left; rfl) | exact .inr ⟨_, _, rfl, rfl⟩)

theorem ops_sub : OpS W (rI0 fun i j => .int (i - j)) opSub := ops_I (k := fun i j => .int (i - j)) (fun _ _ _ _ => rfl) (fun _ _ => rfl) onlySub
theorem ops_and : OpS W (rI0 fun i j => .int (Builtin.bitAnd i j)) opAnd := ops_I (k := fun i j => .int (Builtin.bitAnd i j)) (fun _ _ _ _ => rfl) (fun _ _ => rfl) onlyAnd
theorem ops_lt : OpS W (rI0 fun i j => .bl (decide (i < j))) opLt := ops_I (k := fun i j => .bl (decide (i < j))) (fun _ _ _ _ => rfl) (fun _ _ => rfl) onlyLt
theorem ops_le : OpS W (rI0 fun i j => .bl (decide (i ≤ j))) opLe := ops_I (k := fun i j => .bl (decide (i ≤ j))) (fun _ _ _ _ => rfl) (fun _ _ => rfl) onlyLe
theorem ops_gt : OpS W (rI0 fun i j => .bl (decide (j < i))) opGt := ops_I (k := fun i j => .bl (decide (j < i))) (fun _ _ _ _ => rfl) (fun _ _ => rfl) onlyGt
theorem ops_ge : OpS W (rI0 fun i j => .bl (decide (j ≤ i))) opGe := ops_I (k := fun i j => .bl (decide (j ≤ i))) (fun _ _ _ _ => rfl) (fun _ _ => rfl) onlyGe
theorem ite_bad {c : Prop} [Decidable c] {v r : Res Val} (e : (if c then v else .bad) = r) : r = .bad ∨ (c ∧ r = v) := by
  by_cases h : c
  · rw [if_pos h] at e
    exact .inr ⟨h, e.symm⟩
  · rw [if_neg h] at e
    exact .inl e.symm
theorem ops_mod : OpS W (rI (fun _ j => j ≠ 0) fun i j => .int (i.fmod j)) opMod := ops_IC (k := fun i j => .int (i.fmod j)) (fun _ _ _ _ => rfl) (fun i j _ e => ite_bad (c := j ≠ 0) e) onlyMod
theorem ops_pow : OpS W (rI CPow fun i j => .int (i ^ j.toNat)) opPow := ops_IC (k := fun i j => .int (i ^ j.toNat)) (fun _ _ _ _ => rfl) (fun i j _ e => (ite_bad (c := 0 ≤ j ∧ j.natAbs ≤ 1000000 ∧ i.natAbs < 2 ^ 64) e).imp id fun h => ⟨⟨h.1.1, by omega, h.1.2.2⟩, h.2⟩) onlyPow
theorem ops_shl : OpS W (rI CShl fun i j => .int (i * 2 ^ j.toNat)) opShl := ops_IC (k := fun i j => .int (i * 2 ^ j.toNat)) (fun _ _ _ _ => rfl) (fun i j _ e => (ite_bad (c := 0 ≤ j ∧ Builtin.Int.intBits i + j.natAbs ≤ 134217728) e).imp id fun h => ⟨⟨h.1.1, by omega⟩, h.2⟩) onlyShl
theorem ops_shr : OpS W (rI (fun _ j => 0 ≤ j) fun i j => .int (i / 2 ^ j.toNat)) opShr := ops_IC (k := fun i j => .int (i / 2 ^ j.toNat)) (fun _ _ _ _ => rfl) (fun i j _ e => ite_bad (c := 0 ≤ j) e) onlyShr
def CDivA (i j : Int) : Prop := j ≠ 0 ∧ Builtin.divisionGoesByPylong i j = false
theorem op_fdivA : OpR X (binaryOp .FloorDiv) (rI CDivA fun i j => .int (i.fdiv j)) := opI fun _ _ _ _ _ _ _ hc q => floordiv_int hc.1 q (.inl hc.2)
theorem ops_fdiv : OpS W (rI CDivA fun i j => .int (i.fdiv j)) opFDiv := ops_IC (k := fun i j => .int (i.fdiv j)) (fun _ _ _ _ => rfl) (fun i j _ e => ite_bad (c := j ≠ 0 ∧ Builtin.divisionGoesByPylong i j = false) e) onlyFDiv

/-! several kinds -/
def rAddS : R2 := fun x y H Q => ∃ i j, x = .str i ∧ y = .str j ∧ i.length + j.length ≤ sizeLine ∧ Q (.str (i ++ j)) H
def rAddAll (K : PySem.W.Frag) : R2 := fun x y H Q => (rI0 fun i j => .int (i + j)) x y H Q ∨ (rAddS x y H Q ∨ (rCat x y H Q ∨ rCatA K x y H Q))
theorem op_addAll : OpR X (binaryOp .Add) (rAddAll X.K) := op_add.or (OpR.or (r := rAddS) op_add_str (op_cat.or op_catA))
theorem ops_add : OpS W (rAddAll W.K) opAdd := by
  intro EX Fm Hb ia env σ H d1 d2 x y Q A r1 r2 p
  cases d1 <;> cases d2 <;> first
    | exact p.elim
    | skip
  · rename_i i j
    exact .inl ⟨i, j, r1, r2, Post.imm p A rfl⟩
  · rename_i i j
    simp only [opAdd] at p
    split at p
    · rename_i hz
      exact .inr (.inl ⟨i, j, r1, r2, hz, Post.imm p A rfl⟩)
    · exact p.elim
  · rename_i xs ys
    simp only [opAdd] at p
    split at p
    · rename_i hz
      obtain ⟨a, vs, rfl, ha, la⟩ := r1
      obtain ⟨b, ws, rfl, hb, lb⟩ := r2
      refine .inr (.inr (.inl ⟨a, b, vs, ws, rfl, rfl, A.bs.hb _ _ ha, A.bs.hb _ _ hb, by rw [← la.len, ← lb.len]; exact hz, Post.newL p A (la.append lb)⟩))
    · exact p.elim
  · rename_i xs ys
    simp only [opAdd] at p
    split at p
    · rename_i hz
      obtain ⟨a, vs, rfl, ha, la⟩ := r1
      obtain ⟨b, ws, rfl, hb, lb⟩ := r2
      refine .inr (.inr (.inr ⟨a, b, vs, ws, rfl, rfl, sqt_of (A.bs.hb _ _ ha), sqt_of (A.bs.hb _ _ hb), by rw [← la.len, ← lb.len]; exact hz, fun e => ?_, fun n e => ?_, fun n n' => Post.newT p A (la.append lb)⟩))
      · have e1 : xs = [] := List.length_eq_zero_iff.mp (by rw [la.len, e]; rfl)
        subst e1
        exact Post.imm p A ⟨b, ws, rfl, hb, lb⟩
      · have e1 : ys = [] := List.length_eq_zero_iff.mp (by rw [lb.len, e]; rfl)
        subst e1
        rw [List.append_nil] at p
        exact Post.imm p A ⟨a, vs, rfl, ha, la⟩
    · exact p.elim
theorem RdL.flat_rep {H : Hp} {ds : List Dt} {vs : List V} (h : RdL W H ds vs) : ∀ n : Nat, RdL W H (List.replicate n ds).flatten (List.replicate n vs).flatten
  | 0 => rfl
  | n + 1 => by
    rw [List.replicate_succ, List.replicate_succ, List.flatten_cons, List.flatten_cons]
    exact h.append (RdL.flat_rep h n)
def rMulAll : R2 := fun x y H Q => (rI CMul fun i j => .int (i * j)) x y H Q ∨ ((rI CMulX fun i j => .int (i * j)) x y H Q ∨ rRep x y H Q)
theorem op_mulAll : OpR X (binaryOp .Mult) rMulAll := op_mul.or (op_mulX.or op_rep)
theorem ops_mul : OpS W rMulAll opMul := by
  intro EX Fm Hb ia env σ H d1 d2 x y Q A r1 r2 p
  cases d1 <;> cases d2 <;> first
    | exact p.elim
    | skip
  · rename_i i j
    simp only [opMul] at p
    split at p
    · rename_i hz
      have q := Post.imm p A (v := .int (i * j)) rfl
      unfold mulOk at hz
      simp only [Bool.or_eq_true, decide_eq_true_eq] at hz
      rcases hz with (hz | hz) | hz
      · exact .inl ⟨i, j, r1, r2, .inl (by omega), q⟩
      · exact .inl ⟨i, j, r1, r2, .inr (by omega), q⟩
      · exact .inr (.inl ⟨i, j, r1, r2, by unfold CMulX; omega, q⟩)
    · exact p.elim
  · rename_i xs k
    simp only [opMul] at p
    split at p
    · rename_i hz
      obtain ⟨a, vs, rfl, ha, la⟩ := r1
      exact .inr (.inr ⟨a, k, vs, rfl, r2, A.bs.hb _ _ ha, by omega, by omega, by rw [← la.len]; exact hz.2, Post.newL p A (la.flat_rep _)⟩)
    · exact p.elim
theorem ops_eq : OpS W (rEqD W.K) (eqD false) := by
  intro EX Fm Hb ia env σ H d1 d2 x y Q A r1 r2 p
  unfold eqD at p
  split at p
  · rename_i a b e1 e2
    by_cases c : (SeqAt.shaped a && SeqAt.shaped b) = true
    · rw [if_pos c] at p
      rw [Bool.and_eq_true] at c
      exact ⟨a, b, RdD.dp (RdD.mono A.bs.hb _ _ r1) e1, RdD.dp (RdD.mono A.bs.hb _ _ r2) e2, c.1, c.2, Post.imm p A rfl⟩
    · rw [if_neg c] at p
      exact p.elim
  · exact p.elim
theorem ops_ne : OpS W (rNeD W.K) (eqD true) := by
  intro EX Fm Hb ia env σ H d1 d2 x y Q A r1 r2 p
  unfold eqD at p
  split at p
  · rename_i a b e1 e2
    by_cases c : (SeqAt.shaped a && SeqAt.shaped b) = true
    · rw [if_pos c] at p
      rw [Bool.and_eq_true] at c
      exact ⟨a, b, RdD.dp (RdD.mono A.bs.hb _ _ r1) e1, RdD.dp (RdD.mono A.bs.hb _ _ r2) e2, c.1, c.2, Post.imm p A rfl⟩
    · rw [if_neg c] at p
      exact p.elim
  · exact p.elim
theorem ops_is : OpS W (fun x y H Q => y = .non ∧ Q (.bl (decide (x = .non))) H) opIs := by
  intro EX Fm Hb ia env σ H d1 d2 x y Q A r1 r2 p
  cases d2 <;> first
    | exact p.elim
    | skip
  refine ⟨r2, ?_⟩
  rw [← isNon_rd r1]
  exact Post.imm p A rfl
theorem ops_isNot : OpS W (fun x y H Q => y = .non ∧ Q (.bl (!decide (x = .non))) H) opIsNot := by
  intro EX Fm Hb ia env σ H d1 d2 x y Q A r1 r2 p
  cases d2 <;> first
    | exact p.elim
    | skip
  refine ⟨r2, ?_⟩
  rw [← isNon_rd r1]
  exact Post.imm p A rfl
end
end G


set_option maxRecDepth 100000
set_option maxHeartbeats 4000000
/-! Kern4: and, or, not, conditionals; tests; argument lists, displays; subscripts and slices; calls of built-ins and of defs. -/
namespace G
open PySem PySem.Spec PyProof.Rows L2
variable [TabT]

/-! ### truths -/
def dAnd (fa fb : DE) : DE := fun env => (fa env).bind fun p => match p.1 with
  | .imm (.bl true) => fb p.2
  | .imm (.bl false) => .ok (.imm (.bl false), p.2)
  | _ => .bad
def dOr (fa fb : DE) : DE := fun env => (fa env).bind fun p => match p.1 with
  | .imm (.bl true) => .ok (.imm (.bl true), p.2)
  | .imm (.bl false) => fb p.2
  | _ => .bad
def dNot (fa : DE) : DE := fun env => (fa env).bind fun p => match p.1 with
  | .imm (.bl b) => .ok (.imm (.bl (!b)), p.2)
  | _ => .bad
def tAndD (fa fb : DT) : DT := fun env => (fa env).bind fun p => if p.1 = true then fb p.2 else .ok (false, p.2)
def tOrD (fa fb : DT) : DT := fun env => (fa env).bind fun p => if p.1 = true then .ok (true, p.2) else fb p.2
def tNotD (fa : DT) : DT := fun env => (fa env).bind fun p => .ok (!p.1, p.2)
def dIf (t : DT) (fa fb : DE) : DE := fun env => (t env).bind fun p => if p.1 = true then fa p.2 else fb p.2
/-- the truth of any data -/
def truD : Dt → Option Bool
  | .non => some false
  | .bl b => some b
  | .int i => some (i != 0)
  | .str x => if x.length ≤ sizeLine then some ((x.length : Int) != 0) else none
  | .lst ds => some (!ds.isEmpty)
  | .tup ds => some (!ds.isEmpty)
  | _ => none
def asTru : Val × Env' → Res (Bool × Env')
  | (v, e) => match truD v.d with
    | some b => .ok (b, e)
    | none => .bad
def dTru (f : DE) : DT := fun env => (f env).bind asTru
section
variable {X : Cx} {EX : XK} {pos : Pos} {e a b c : Expr} {rest' : List Expr} {fa fb : DE} {ta tb : DT}
theorem se_and (ha : SE X EX a fa) (hb : SE X EX (.BoolOp .And (b :: rest') pos) fb) : SE X EX (.BoolOp .And (a :: b :: rest') pos) (dAnd fa fb) := pe_mono (pe_and ha hb) fun σ H Q ⟨Fm, Hb, ia, env, A, p⟩ =>
  ⟨Fm, Hb, ia, env, A, Post.bind p fun val e1 H1 Hb1 s1 A1 p1 v hv => by
    dsimp only at p1
    split at p1
    · cases (show v = V.bl true from hv)
      exact ⟨true, rfl, by rw [if_pos rfl]; exact ⟨Fm, Hb1, ia, e1, A1, p1⟩⟩
    · cases (show v = V.bl false from hv)
      exact ⟨false, rfl, by rw [if_neg Bool.false_ne_true]; exact Post.imm p1 A1 rfl⟩
    · exact p1.elim⟩
theorem se_or (ha : SE X EX a fa) (hb : SE X EX (.BoolOp .Or (b :: rest') pos) fb) : SE X EX (.BoolOp .Or (a :: b :: rest') pos) (dOr fa fb) := pe_mono (pe_or ha hb) fun σ H Q ⟨Fm, Hb, ia, env, A, p⟩ =>
  ⟨Fm, Hb, ia, env, A, Post.bind p fun val e1 H1 Hb1 s1 A1 p1 v hv => by
    dsimp only at p1
    split at p1
    · cases (show v = V.bl true from hv)
      exact ⟨true, rfl, by rw [if_pos rfl]; exact Post.imm p1 A1 rfl⟩
    · cases (show v = V.bl false from hv)
      exact ⟨false, rfl, by rw [if_neg Bool.false_ne_true]; exact ⟨Fm, Hb1, ia, e1, A1, p1⟩⟩
    · exact p1.elim⟩
theorem se_one {op : BoolOp} (ha : SE X EX a fa) : SE X EX (.BoolOp op [a] pos) fa := pe_one ha
theorem se_not (ha : SE X EX a fa) : SE X EX (.UnaryOp .Not a pos) (dNot fa) := pe_mono (pe_not ha) fun σ H Q ⟨Fm, Hb, ia, env, A, p⟩ =>
  ⟨Fm, Hb, ia, env, A, Post.bind p fun val e1 H1 Hb1 s1 A1 p1 v hv => by
    dsimp only at p1
    split at p1
    · rename_i x b
      cases (show v = V.bl b from hv)
      exact ⟨b, rfl, Post.imm p1 A1 rfl⟩
    · exact p1.elim⟩
theorem sw_and1 (ha : ST X EX a ta) : SW X EX (.BoolOp .And [a] pos) ta := pw_and1 ha
theorem sw_or1 (ha : ST X EX a ta) : SW X EX (.BoolOp .Or [a] pos) ta := pw_or1 ha
theorem sw_and (ha : ST X EX a ta) (hb : SW X EX (.BoolOp .And (b :: rest') pos) tb) : SW X EX (.BoolOp .And (a :: b :: rest') pos) (tAndD ta tb) := pw_mono (pw_and ha hb) fun σ H Q ⟨Fm, Hb, ia, env, A, p⟩ =>
  ⟨Fm, Hb, ia, env, A, Post.bind p fun k e1 H1 Hb1 s1 A1 p1 => by
    cases k with
    | true => exact iteT (⟨Fm, Hb1, ia, e1, A1, p1⟩)
    | false => exact iteF (p1 H1 Hb1 (Same.refl _) A1)⟩
theorem sw_or (ha : ST X EX a ta) (hb : SW X EX (.BoolOp .Or (b :: rest') pos) tb) : SW X EX (.BoolOp .Or (a :: b :: rest') pos) (tOrD ta tb) := pw_mono (pw_or ha hb) fun σ H Q ⟨Fm, Hb, ia, env, A, p⟩ =>
  ⟨Fm, Hb, ia, env, A, Post.bind p fun k e1 H1 Hb1 s1 A1 p1 => by
    cases k with
    | true => exact iteT (p1 H1 Hb1 (Same.refl _) A1)
    | false => exact iteF (⟨Fm, Hb1, ia, e1, A1, p1⟩)⟩
theorem st_not (ha : ST X EX a ta) : ST X EX (.UnaryOp .Not a pos) (tNotD ta) := pt_mono (pt_not ha) fun σ H Q ⟨Fm, Hb, ia, env, A, p⟩ =>
  ⟨Fm, Hb, ia, env, A, Post.bind p fun k e1 H1 Hb1 s1 A1 p1 => p1 H1 Hb1 (Same.refl _) A1⟩
theorem se_if (hc : ST X EX c ta) (ha : SE X EX a fa) (hb : SE X EX b fb) : SE X EX (.IfExp c a b pos) (dIf ta fa fb) := pe_mono (pe_ifExp hc ha hb) fun σ H Q ⟨Fm, Hb, ia, env, A, p⟩ =>
  ⟨Fm, Hb, ia, env, A, Post.bind p fun k e1 H1 Hb1 s1 A1 p1 => by
    cases k with
    | true => exact iteT (⟨Fm, Hb1, ia, e1, A1, p1⟩)
    | false => exact iteF (⟨Fm, Hb1, ia, e1, A1, p1⟩)⟩
theorem truV {W : Wd} {H : Hp} {d : Dt} {v : V} {k : Bool} (r : RdD W H d v) (h : truD d = some k) : TruV W.K v H k := by
  cases d with
  | non => cases (show v = .non from r); cases h; rfl
  | bl b => cases (show v = .bl b from r); cases h; rfl
  | int i => cases (show v = .int i from r); cases h; rfl
  | str x =>
    cases (show v = .str x from r)
    simp only [truD] at h
    split at h
    · rename_i hz
      cases h
      exact ⟨hz, rfl⟩
    · cases h
  | lst ds =>
    obtain ⟨a, vs, rfl, h1, h2⟩ := r
    cases h
    refine .inl ⟨vs, .inl (.inl h1), ?_⟩
    cases ds with
    | nil => cases (show vs = [] from h2); rfl
    | cons x y => obtain ⟨_, _, rfl, _⟩ := h2; rfl
  | tup ds =>
    obtain ⟨a, vs, rfl, h1, h2⟩ := r
    cases h
    refine .inr (.inl ⟨vs, sqt_of h1, ?_⟩)
    cases ds with
    | nil => cases (show vs = [] from h2); rfl
    | cons x y => obtain ⟨_, _, rfl, _⟩ := h2; rfl
  | scr _ => cases h
  | dct _ _ => cases h
  | dcf _ _ => cases h
  | obj _ _ _ => cases h
  | exn _ _ _ => cases h
theorem st_tru (ha : SE X EX a fa) (he : ∀ whole, isTrue a X.env whole = (do let v ← whole; standAt a.pos; holding [v] (truthy v))) : ST X EX a (dTru fa) := pt_mono (pt_truth ha he) fun σ H Q ⟨Fm, Hb, ia, env, A, p⟩ =>
  ⟨Fm, Hb, ia, env, A, Post.bindV p fun val e1 v H1 Hb1 s1 A1 r1 p1 => by
    simp only [asTru] at p1
    split at p1
    · rename_i k hk
      have t := truV (H := H1) (RdD.mono A1.bs.hb _ _ r1) hk
      exact ⟨k, t, p1 H1 Hb1 (Same.refl _) A1⟩
    · exact p1.elim⟩
/-- a op1 b op2 c -/
def dChain (g g' : Dt → Dt → Res Val) (fa fb fc : DE) : DE := fun env => (fa env).bind fun p => (fb p.2).bind fun q => match g p.1.d q.1.d with
  | .ok (.imm (.bl true)) => (fc q.2).bind fun r => (g' q.1.d r.1.d).map fun v => (v, r.2)
  | .ok (.imm (.bl false)) => .ok (.imm (.bl false), q.2)
  | _ => .bad
theorem rd_chain {W : Wd} {r r' : R2} {g g' : Dt → Dt → Res Val} {fc : DE} (hs : OpS W r g) (hs' : OpS W r' g') : ∀ σ H Q, rdE W EX (dChain g g' fa fb fc) σ H Q → tChain r r' (rdE W EX fa) (rdE W EX fb) (rdE W EX fc) σ H Q := fun σ H Q ⟨Fm, Hb, ia, env, A, p⟩ =>
  ⟨Fm, Hb, ia, env, A, Post.bindV p fun va e1 x H1 Hb1 s1 A1 r1 p1 => ⟨Fm, Hb1, ia, e1, A1, Post.bindV p1 fun vb e2 y H2 Hb2 s2 A2 r2 p2 => by
    dsimp only at p2
    refine hs EX Fm Hb2 ia e2 σ H2 _ _ x y _ A2 (RdD.mono s2 _ _ r1) r2 ?_
    split at p2
    · rename_i eg
      rw [eg]
      intro H3 Hb3 s3 A3 v hv
      cases (show v = V.bl true from hv)
      exact ⟨true, rfl, iteT ⟨Fm, Hb3, ia, e2, A3, Post.bindV (Post.mono s3 p2) fun vc e4 z H4 Hb4 s4 A4 r4 p4 => hs' EX Fm Hb4 ia e4 σ H4 _ _ y z Q A4 (RdD.mono (s3.trans s4) _ _ r2) r4 p4⟩⟩
    · rename_i eg
      rw [eg]
      intro H3 Hb3 s3 A3 v hv
      cases (show v = V.bl false from hv)
      exact ⟨false, rfl, iteF (p2 H3 Hb3 s3 A3 _ rfl)⟩
    · exact p2.elim⟩⟩
end
end G


set_option maxRecDepth 100000
set_option maxHeartbeats 4000000
/-! Kern5: argument lists, displays, subscripts, slices, built-ins on data. -/
namespace G
open PySem PySem.Spec PyProof.Rows L2
variable [TabT]

/-! ### arguments and displays -/
def aNil : DA := fun env => .ok ([], env)
def aCons (f : DE) (g : DA) : DA := fun env => (f env).bind fun p => (g p.2).bind fun q => .ok (p.1.d :: q.1, q.2)
def seqD : Dt → Option (List Dt)
  | .lst ds => some ds
  | .tup ds => some ds
  | .scr ns => some (ns.map .int)
  | _ => none
def aStar (f : DE) (g : DA) : DA := fun env => (f env).bind fun p => match seqD p.1.d with
  | some ds => (g p.2).bind fun q => .ok (ds ++ q.1, q.2)
  | none => .bad
def dTup (g : DA) : DE := fun env => (g env).bind fun p => if p.1.length ≤ sizeLine then .ok (.imm (.tup p.1), p.2) else .bad
def dLst (g : DA) : DE := fun env => (g env).bind fun p => if p.1.length ≤ sizeLine then .ok (.fresh (.lst p.1), p.2) else .bad
theorem seqD_rd {W : Wd} {H : Hp} {d : Dt} {v : V} {ds : List Dt} (r : RdD W H d v) (h : seqD d = some ds) : ∃ a vs, v = .ref a ∧ (SqL W.K H a vs ∨ SqT W.K H a vs) ∧ RdL W H ds vs := by
  cases d with
  | lst es =>
    cases h
    obtain ⟨a, vs, rfl, h1, h2⟩ := r
    exact ⟨a, vs, rfl, .inl (.inl (.inl h1)), h2⟩
  | tup es =>
    cases h
    obtain ⟨a, vs, rfl, h1, h2⟩ := r
    exact ⟨a, vs, rfl, .inr (sqt_of h1), h2⟩
  | scr ns =>
    cases h
    obtain ⟨a, rfl, h1⟩ := r
    exact ⟨a, _, rfl, .inl h1, RdL.ofInts ns⟩
  | _ => cases h
section
variable {X : Cx} {EX : XK} {pos p1 : Pos} {e a b c : Expr} {es : List Expr} {f fa fb : DE} {g : DA}
theorem sa_nil : SA X EX [] aNil := pa_mono pa_nil fun σ H Q ⟨Fm, Hb, ia, env, A, p⟩ => p H Hb (Same.refl _) A [] rfl
theorem sa_cons (ha : SE X EX e f) (hr : SA X EX es g) (hs : starEach (e :: es) X.env = (false, eval e X.env) :: starEach es X.env) : SA X EX (e :: es) (aCons f g) := pa_mono (pa_cons ha hr hs) fun σ H Q ⟨Fm, Hb, ia, env, A, p⟩ =>
  ⟨Fm, Hb, ia, env, A, Post.bindV p fun va e1 x H1 Hb1 s1 A1 r1 q1 => ⟨Fm, Hb1, ia, e1, A1, Post.bind q1 fun ds e2 H2 Hb2 s2 A2 q2 vs hv => q2 H2 Hb2 (Same.refl _) A2 (x :: vs) ⟨x, vs, rfl, RdD.mono s2 _ _ r1, hv⟩⟩⟩
theorem sa_star (ha : SE X EX e f) (hr : SA X EX es g) : SA X EX (.Starred e p1 :: es) (aStar f g) := pa_mono (StX.pa_star ha hr) fun σ H Q ⟨Fm, Hb, ia, env, A, p⟩ =>
  ⟨Fm, Hb, ia, env, A, Post.bindV p fun va e1 x H1 Hb1 s1 A1 r1 q1 => by
    dsimp only at q1
    split at q1
    · rename_i ds hd
      obtain ⟨a, vs, rfl, h1, h2⟩ := seqD_rd (RdD.mono A1.bs.hb _ _ r1) hd
      obtain ⟨a', vs', e', h1', h2'⟩ := seqD_rd r1 hd
      cases e'
      refine ⟨a, vs', rfl, ?_, Fm, Hb1, ia, e1, A1, Post.bind q1 fun es e2 H2 Hb2 s2 A2 q2 ws hw => q2 H2 Hb2 (Same.refl _) A2 (vs' ++ ws) ((RdL.mono s2 _ _ h2').append hw)⟩
      rcases h1' with h | h
      · exact .inr (same_l A1.bs.hb h)
      · exact .inl (same_t A1.bs.hb h)
    · exact q1.elim⟩
theorem se_tup {k : Nat} (ha : SA X EX es g) : SE X EX (.Tuple es k pos) (dTup g) := pe_mono (pe_tup ha) fun σ H Q ⟨Fm, Hb, ia, env, A, p⟩ =>
  ⟨Fm, Hb, ia, env, A, Post.bind p fun ds e1 H1 Hb1 s1 A1 q1 vs hv => by
    dsimp only at q1
    split at q1
    · rename_i hz
      exact ⟨by rw [← hv.len]; exact hz, Post.newT q1 A1 hv⟩
    · exact q1.elim⟩
theorem se_lst (ha : SA X EX es g) : SE X EX (.List es pos) (dLst g) := pe_mono (pe_lst ha) fun σ H Q ⟨Fm, Hb, ia, env, A, p⟩ =>
  ⟨Fm, Hb, ia, env, A, Post.bind p fun ds e1 H1 Hb1 s1 A1 q1 vs hv => by
    dsimp only at q1
    split at q1
    · rename_i hz
      exact ⟨by rw [← hv.len]; exact hz, Post.newL q1 A1 hv⟩
    · exact q1.elim⟩

/-! ### subscripts -/
theorem RdL.ixN {α : Type} (xs : List α) (i : Int) : atI xs i = (L2.ixN xs.length i).bind fun j => xs[j]? := rfl
theorem RdL.atI {W : Wd} {H : Hp} {ds : List Dt} {vs : List V} {k : Int} {d : Dt} (h : RdL W H ds vs) (e : L2.atI ds k = some d) : ∃ v, L2.atI vs k = some v ∧ RdD W H d v := by
  unfold L2.atI at e ⊢
  rw [← h.len]
  cases q : L2.ixN ds.length k with
  | none => rw [q] at e; cases e
  | some j =>
    rw [q] at e
    exact h.get (i := j) e
def opIx : Dt → Dt → Res Val
  | .lst ds, .int k => match L2.atI ds k with
    | some d => .ok (.imm d)
    | none => .bad
  | .tup ds, .int k => match L2.atI ds k with
    | some d => .ok (.imm d)
    | none => .bad
  | .str z, .int k => if z.length ≤ sizeLine then match L2.atI z.cps.toList k with
    | some c => .ok (.imm (.str ⟨#[c]⟩))
    | none => .bad else .bad
  | _, _ => .bad
theorem ops_ix {W : Wd} : OpS W (rIx W.K) opIx := by
  intro EX Fm Hb ia env σ H d1 d2 x y Q A r1 r2 p
  cases d1 <;> cases d2 <;> first
    | exact p.elim
    | skip
  · rename_i z k
    simp only [opIx] at p
    split at p
    · rename_i hz
      split at p
      · rename_i c hc
        exact .inr (.inr ⟨z, k, c, r1, r2, hz, hc, Post.imm p A rfl⟩)
      · exact p.elim
    · exact p.elim
  · rename_i ds k
    simp only [opIx] at p
    split at p
    · rename_i d hd
      obtain ⟨a, vs, rfl, h1, h2⟩ := r1
      obtain ⟨v, h3, h4⟩ := h2.atI hd
      exact .inl ⟨a, vs, k, v, rfl, r2, .inl (.inl (A.bs.hb _ _ h1)), h3, Post.imm p A h4⟩
    · exact p.elim
  · rename_i ds k
    simp only [opIx] at p
    split at p
    · rename_i d hd
      obtain ⟨a, vs, rfl, h1, h2⟩ := r1
      obtain ⟨v, h3, h4⟩ := h2.atI hd
      exact .inr (.inl ⟨a, vs, k, v, rfl, r2, sqt_of (A.bs.hb _ _ h1), h3, Post.imm p A h4⟩)
    · exact p.elim
theorem se_ix (ha : SE X EX a fa) (hb : SE X EX b fb) (hs : PlainIx b) : SE X EX (.Subscript a b pos) (dBin opIx fa fb) := pe_mono (pe_ix ix_seq ha hb hs) (rd_bin ops_ix)
/-- what a slot holds, owned or not -/
def slotD : Slot → Option Dt
  | .un => none
  | .imm d => some d
  | .own d => some d
  | .io d => some d
/-- an item of what a name holds, which is not given up -/
def dIxS (i : Nat) (fb : DE) : DE := fun env => if (env[i]?.bind slotD).isNone then .bad else (fb env).bind fun q => match q.2[i]?.bind slotD with
  | some d => (opIx d q.1.d).map fun v => (v, q.2)
  | none => .bad
theorem slot_val {W : Wd} {Fm Hb H : Hp} {ia : Option Addr} {env : Env'} {σ : L2.St} (A : Agr W Fm Hb ia env σ H) {i : Nat} {d : Dt} (h : env[i]?.bind slotD = some d) :
    ∃ v, σ[i]? = some (some v) ∧ (RdD W Hb d v ∨ ∃ a, v = .ref a ∧ OwnAt W Hb H a d) := by
  cases q : env[i]? with
  | none => rw [q] at h; cases h
  | some s =>
    rw [q] at h
    cases s with
    | un => cases h
    | imm d' =>
      cases h
      obtain ⟨v, h1, h2⟩ := A.imm i d q
      exact ⟨v, h1, .inl h2⟩
    | own d' =>
      cases h
      obtain ⟨a, h1, h2, h3, h4⟩ := A.own i d (.inl q)
      exact ⟨_, h1, .inr ⟨a, rfl, h4⟩⟩
    | io d' =>
      cases h
      obtain ⟨a, h1, h2, h3, h4⟩ := A.own i d (.inr q)
      exact ⟨_, h1, .inr ⟨a, rfl, h4⟩⟩
theorem se_ixS {i : Nat} (ha : PE X a (tVar i)) (hb : SE X EX b fb) (hs : PlainIx b) : SE X EX (.Subscript a b pos) (dIxS i fb) := pe_mono (pe_ix ix_seq ha hb hs) fun σ H Q ⟨Fm, Hb, ia, env, A, p⟩ => by
  unfold dIxS at p
  split at p
  · exact p.elim
  · rename_i hn
    obtain ⟨d0, hd0⟩ := Option.isSome_iff_exists.mp (by
      cases q : env[i]?.bind slotD with
      | none => rw [q] at hn; exact absurd rfl hn
      | some d => rfl : (env[i]?.bind slotD).isSome = true)
    obtain ⟨v0, hv0, _⟩ := slot_val A hd0
    refine ⟨v0, hv0, Fm, Hb, ia, env, A, Post.bindV p fun vb e2 y H2 Hb2 s2 A2 r2 p2 => ?_⟩
    dsimp only at p2
    split at p2
    · rename_i d hd
      obtain ⟨v1, hv1, hr⟩ := slot_val A2 hd
      rw [hv0] at hv1
      cases hv1
      rcases hr with hr | ⟨a, rfl, ho⟩
      · exact ops_ix (W := wd X) EX Fm Hb2 ia e2 σ H2 d _ v0 y Q A2 hr r2 p2
      · cases d with
        | lst ds =>
          obtain ⟨vs, h1, h2⟩ := ho
          cases hk : vb.d with
          | int k =>
            rw [hk] at p2 r2
            simp only [opIx] at p2
            split at p2
            · rename_i x hx
              obtain ⟨w, h3, h4⟩ := h2.atI hx
              exact .inl ⟨a, vs, k, w, rfl, r2, .inl (.inl h1), h3, Post.imm p2 A2 h4⟩
            · exact p2.elim
          | _ => rw [hk] at p2; exact p2.elim
        | dct ks ds => exact (show False from by
            unfold opIx at p2
            exact p2).elim
        | _ => exact ho.elim
    · exact p2.elim

/-! ### slices -/
abbrev DO := Env' → Res (Option Int × Env')
abbrev GO (Q : Option Int → Hp → Prop) : Option Int → Env' → Hp → Hp → Prop := fun b _ _ H => Q b H
def rdO (W : Wd) (EX : XK) (f : DO) : TO := fun σ H Q => ∃ Fm Hb ia env, Agr W Fm Hb ia env σ H ∧ Post W EX Fm Hb ia σ (GO Q) (f env)
abbrev SO (X : Cx) (EX : XK) (e : Option Expr) (f : DO) : Prop := PO X e (rdO (wd X) EX f)
theorem po_mono {X : Cx} {e : Option Expr} {t t' : TO} (h : PO X e t) (w : ∀ σ H Q, t' σ H Q → t σ H Q) : PO X e t' := ⟨fun pins s σ H Q I q => h.run pins s σ H Q I (w σ H Q q)⟩
def oNone : DO := fun env => .ok (none, env)
def asI : Val × Env' → Res (Option Int × Env')
  | (.imm (.int i), e) => .ok (some i, e)
  | _ => .bad
def oSome (f : DE) : DO := fun env => (f env).bind asI
theorem so_none : SO X EX none oNone := po_mono po_none fun σ H Q ⟨Fm, Hb, ia, env, A, p⟩ => p H Hb (Same.refl _) A
theorem so_some (ha : SE X EX a fa) : SO X EX (some a) (oSome fa) := po_mono (po_some ha) fun σ H Q ⟨Fm, Hb, ia, env, A, p⟩ =>
  ⟨Fm, Hb, ia, env, A, Post.bind p fun val e1 H1 Hb1 s1 A1 q1 v hv => by
    unfold asI at q1
    split at q1
    · rename_i i e' q
      cases q
      cases (show v = V.int i from hv)
      exact ⟨i, rfl, q1 H1 Hb1 (Same.refl _) A1⟩
    · exact q1.elim⟩
def cutG {α : Type} (xs : List α) (lo hi : Option Int) : List α := (xs.drop (HT.sIx xs.length 0 lo)).take (HT.sIx xs.length xs.length hi - HT.sIx xs.length 0 lo)
theorem RdL.cut {W : Wd} {H : Hp} {ds : List Dt} {vs : List V} (h : RdL W H ds vs) (lo hi : Option Int) : RdL W H (cutG ds lo hi) (cutV vs lo hi) := by
  unfold cutG cutV
  rw [h.len]
  exact (h.drop _).take _
def slD : Dt → Option Int → Option Int → Res Val
  | .lst ds, lo, hi => .ok (.fresh (.lst (cutG ds lo hi)))
  | .scr ns, lo, hi => .ok (.fresh (.lst (cutG (ns.map .int) lo hi)))
  | .tup ds, lo, hi => .ok (.imm (.tup (cutG ds lo hi)))
  | _, _, _ => .bad
def rSlAll (K : PySem.W.Frag) : V → Option Int → Option Int → Hp → VK → Prop := fun x lo hi H Q => rSlL K x lo hi H Q ∨ rSlA K x lo hi H Q
theorem sl_all : SlR X (rSlAll X.K) := sl_list.or sl_tupA
def dSl (fa : DE) (fl fh : DO) : DE := fun env => (fa env).bind fun p => (fl p.2).bind fun q => (fh q.2).bind fun r => (slD p.1.d q.1 r.1).map fun v => (v, r.2)
theorem cut_whole {α : Type} {xs : List α} {lo hi : Option Int} (h : HT.sIx xs.length 0 lo = 0 ∧ HT.sIx xs.length xs.length hi = xs.length) : cutG xs lo hi = xs := by
  unfold cutG
  rw [h.1, h.2, List.drop_zero, Nat.sub_zero, List.take_length]
theorem se_sl {lo hi : Option Expr} {fl fh : DO} (ha : SE X EX a fa) (hl : SO X EX lo fl) (hh : SO X EX hi fh) : SE X EX (.Subscript a (.Slice lo hi none p1) pos) (dSl fa fl fh) := pe_mono (pe_slice sl_all ha hl hh) fun σ H Q ⟨Fm, Hb, ia, env, A, p⟩ =>
  ⟨Fm, Hb, ia, env, A, Post.bindV p fun va e1 x H1 Hb1 s1 A1 r1 q1 => ⟨Fm, Hb1, ia, e1, A1, Post.bind q1 fun l e2 H2 Hb2 s2 A2 q2 => ⟨Fm, Hb2, ia, e2, A2, Post.bind q2 fun u e3 H3 Hb3 s3 A3 q3 => by
    have r3 := RdD.mono (s2.trans s3) _ _ r1
    dsimp only at q3
    generalize va.d = d at q3 r3
    cases d with
    | lst ds =>
      obtain ⟨a, vs, rfl, h1, h2⟩ := r3
      exact .inl ⟨a, vs, rfl, .inl (.inl (A3.bs.hb _ _ h1)), Post.newL q3 A3 (h2.cut l u)⟩
    | scr ns =>
      obtain ⟨a, rfl, h1⟩ := r3
      exact .inl ⟨a, _, rfl, same_l A3.bs.hb h1, Post.newL q3 A3 ((RdL.ofInts ns).cut l u)⟩
    | tup ds =>
      obtain ⟨a, vs, rfl, h1, h2⟩ := r3
      refine .inr ⟨a, vs, rfl, sqt_of (A3.bs.hb _ _ h1), fun w => ?_, fun w => Post.newT q3 A3 (h2.cut l u)⟩
      have e : cutG ds l u = ds := cut_whole (by rw [h2.len]; exact w)
      rw [show slD (.tup ds) l u = .ok (.imm (.tup ds)) by show Res.ok (Val.imm (Dt.tup (cutG ds l u))) = _; rw [e]] at q3
      exact Post.imm q3 A3 ⟨a, vs, rfl, h1, h2⟩
    | _ => exact q3.elim⟩⟩⟩

/-! ### calls of built-ins -/
def CaS (W : Wd) (r : List V → Hp → VK → Prop) (g : List Dt → Res Val) : Prop := ∀ EX Fm Hb ia env σ H ds vs Q, Agr W Fm Hb ia env σ H → RdL W Hb ds vs → Post W EX Fm Hb ia σ (GE W Fm σ Q) ((g ds).map fun v => (v, env)) → r vs H Q
def dCallB (g : List Dt → Res Val) (fa : DA) : DE := fun env => (fa env).bind fun p => (g p.1).map fun v => (v, p.2)
theorem rd_cb {W : Wd} {r : List V → Hp → VK → Prop} {h : List Dt → Res Val} (hs : CaS W r h) : ∀ σ H Q, rdE W EX (dCallB h g) σ H Q → tCB r (rdA W EX g) σ H Q := fun σ H Q ⟨Fm, Hb, ia, env, A, p⟩ =>
  ⟨Fm, Hb, ia, env, A, Post.bind p fun ds e1 H1 Hb1 s1 A1 q1 vs hv => hs EX Fm Hb1 ia e1 σ H1 ds vs Q A1 hv q1⟩
end
end G


set_option maxRecDepth 100000
set_option maxHeartbeats 4000000
/-! Kern6: the built-ins' tables on data. -/
namespace G
open PySem PySem.Spec PyProof.Rows L2
variable [TabT]

/-! ### sum, max, min of a tuple of ints -/
section
variable {prog : Program} {w : World} {A : Around} {E : Value → Shared → Prop} {s : Shared} {l : Addr} {xs : Array (Int × Tok)}
theorem tup_iter {Q : Value → Shared → Prop} (ht : s.heap.IsTuple l (intItems xs))
    (h : ∀ s2 : Shared, s2 = { s with heap := s.heap.push { cls := .type "tuple_iterator", data := .fields #[.ref l, .int 0 0] } } →
      (s2.heap.IsTupleIter s.heap.objs.size l 0 ∧ s2.heap.IsTuple l (intItems xs)) → (∀ b ∈ [s.heap.objs.size, l], b < s2.heap.objs.size) → l ≠ s.heap.objs.size → Q (.ref s.heap.objs.size) s2) :
    wpAny (model prog w) A (pyIter (.ref l)) Q E s := by
  have lt : l < s.heap.objs.size := by
    obtain ⟨_, e, _⟩ := id ht
    exact Heap.lt_size e
  refine wpAny_pyIter_tuple ht (h _ rfl ⟨⟨_, Heap.get?_push_size _ rfl, rfl, rfl⟩, ht.at fun o e => Heap.get?_push_of_some _ e⟩ (fun b hb => ?_) (Nat.ne_of_lt lt))
  show b < (s.heap.push _).objs.size
  rw [Heap.size_push]
  simp only [List.mem_cons, List.not_mem_nil, or_false] at hb
  rcases hb with rfl | rfl
  · exact Nat.lt_succ_self _
  · exact Nat.lt_succ_of_lt lt
theorem tup_old {h' : Heap} (hk : ∀ b o, b ∉ [s.heap.objs.size] → (s.heap.push { cls := .type "tuple_iterator", data := .fields #[.ref l, .int 0 0] }).get? b = some o → h'.get? b = some o) :
    ∀ b o, s.heap.get? b = some o → h'.get? b = some o := fun b o e =>
  hk b o (fun hm => absurd (List.mem_singleton.mp hm ▸ Heap.lt_size e) (Nat.lt_irrefl _)) (Heap.get?_push_of_some _ e)
theorem tup_sum {Q : Value → Shared → Prop} (hh : A.handled = none) (ht : s.heap.IsTuple l (intItems xs))
    (h : ∀ h' tk t', (∀ b o, s.heap.get? b = some o → h'.get? b = some o) → Q (.int (preSum (numAt xs) xs.size) t') { s with heap := h', toks := tk }) : wpAny (model prog w) A (call (.builtin "sum") [.ref l]) Q E s := by
  refine call_sum_walkG (tup_iter ht fun s2 e st hfp hne => ?_)
  subst e
  refine ⟨_, _, _, _, _, _, numAt xs, rfl, Walks.tuple (A := A.in1) hh _ l hne (intItems xs), st, hfp, (fun _ _ hv => intItems_at hv), fun h' tk t' hk => ?_⟩
  have := h h' tk t' (tup_old hk)
  simpa [intItems] using this
theorem tup_max {Q : Value → Shared → Prop} (hh : A.handled = none) (ht : s.heap.IsTuple l (intItems xs)) (hne : 0 < xs.size)
    (h : ∀ v h' tk, (intItems xs)[argBest (fun i j => decide (numAt xs i > numAt xs j)) (xs.size - 1)]? = some v → (∀ b o, s.heap.get? b = some o → h'.get? b = some o) → Q v { s with heap := h', toks := tk }) :
    wpAny (model prog w) A (call (.builtin "max") [.ref l]) Q E s := by
  refine call_max_walk (tup_iter ht fun s2 e st hfp hn => ?_)
  subst e
  refine ⟨_, _, _, _, _, _, _, rfl, Walks.tuple (A := A.in1) hh _ l hn (intItems xs), st, hfp, by simpa [intItems] using hne, CmpOf.ints_gt (numAt xs) (fun _ _ hv => intItems_at hv), fun v h' tk hP hk => ?_⟩
  exact h v h' tk (by simpa [intItems] using hP) (tup_old hk)
theorem tup_min {Q : Value → Shared → Prop} (hh : A.handled = none) (ht : s.heap.IsTuple l (intItems xs)) (hne : 0 < xs.size)
    (h : ∀ v h' tk, (intItems xs)[argBest (fun i j => decide (numAt xs i < numAt xs j)) (xs.size - 1)]? = some v → (∀ b o, s.heap.get? b = some o → h'.get? b = some o) → Q v { s with heap := h', toks := tk }) :
    wpAny (model prog w) A (call (.builtin "min") [.ref l]) Q E s := by
  refine call_min_walk (tup_iter ht fun s2 e st hfp hn => ?_)
  subst e
  refine ⟨_, _, _, _, _, _, _, rfl, Walks.tuple (A := A.in1) hh _ l hn (intItems xs), st, hfp, by simpa [intItems] using hne, CmpOf.ints_lt (numAt xs) (fun _ _ hv => intItems_at hv), fun v h' tk hP hk => ?_⟩
  exact h v h' tk (by simpa [intItems] using hP) (tup_old hk)
end
section
variable {X : Cx}
def rSumT (K : PySem.W.Frag) : List V → Hp → VK → Prop := fun vs H Q => ∃ (a : Addr) (ns : List Int), vs = [V.ref a] ∧ SqT K H a (ns.map V.int) ∧ Q (.int ns.sum) H
def rBestT (K : PySem.W.Frag) (le : Int → Int → Prop) : List V → Hp → VK → Prop := fun vs H Q => ∃ (a : Addr) (ns : List Int), vs = [V.ref a] ∧ SqT K H a (ns.map V.int) ∧ 0 < ns.length ∧ ∀ m, m ∈ ns → (∀ y, y ∈ ns → le y m) → Q (.int m) H
theorem sumT_ok (hc : X.calm = true) : CallR X (.builtin "sum") (rSumT X.K) := by
  intro pins s σ H xs us Q I r h
  obtain ⟨a, ns, rfl, hS, q⟩ := h
  obtain ⟨u, rfl, rx⟩ := vals1 r
  cases rx
  obtain ⟨its, rv, ht, hz⟩ := I.tuple hS
  have hi := Vals.ints rv
  obtain ⟨zs, e⟩ := hi.allInts.items
  have hn : numsOf (intItems zs).toList = ns := by rw [← e]; exact hi.numsOf
  rw [nums_intItems] at hn
  have ht' : s.heap.IsTuple a (intItems zs) := by rw [← e]; exact ht
  refine tup_sum (I.ok.hd hc) ht' fun h' tk t' hk => ⟨.int ns.sum, H, I.kept (t' := tk) hk, ⟨t', ?_⟩, q⟩
  rw [preSum_eq, List.take_of_length_le (by simp), hn]
theorem maxT_ok (hc : X.calm = true) : CallR X (.builtin "max") (rBestT X.K fun y m => y ≤ m) := by
  intro pins s σ H xs us Q I r h
  obtain ⟨a, ns, rfl, hS, hne, q⟩ := h
  obtain ⟨u, rfl, rx⟩ := vals1 r
  cases rx
  obtain ⟨its, rv, ht, hz⟩ := I.tuple hS
  have hi := Vals.ints rv
  obtain ⟨zs, e⟩ := hi.allInts.items
  have hn : numsOf (intItems zs).toList = ns := by rw [← e]; exact hi.numsOf
  rw [nums_intItems] at hn
  subst hn
  have ht' : s.heap.IsTuple a (intItems zs) := by rw [← e]; exact ht
  have hsz : 0 < zs.size := by simpa using hne
  refine tup_max (I.ok.hd hc) ht' hsz fun v h' tk hv hk => ?_
  obtain ⟨t, rfl⟩ := intItems_at hv
  obtain ⟨b1, b2⟩ := argBest_gt (numAt zs) (zs.size - 1)
  refine ⟨.int _, H, I.kept (t' := tk) hk, ⟨t, rfl⟩, q _ ?_ fun y hy => ?_⟩
  · rw [numAt_eq]
    exact PySem.getD_mem (by rw [List.length_map, Array.length_toList]; omega)
  · obtain ⟨j, hj, rfl⟩ := mem_getD hy
    rw [List.length_map, Array.length_toList] at hj
    rw [← numAt_eq]
    exact b2 j (by omega)
theorem minT_ok (hc : X.calm = true) : CallR X (.builtin "min") (rBestT X.K fun y m => m ≤ y) := by
  intro pins s σ H xs us Q I r h
  obtain ⟨a, ns, rfl, hS, hne, q⟩ := h
  obtain ⟨u, rfl, rx⟩ := vals1 r
  cases rx
  obtain ⟨its, rv, ht, hz⟩ := I.tuple hS
  have hi := Vals.ints rv
  obtain ⟨zs, e⟩ := hi.allInts.items
  have hn : numsOf (intItems zs).toList = ns := by rw [← e]; exact hi.numsOf
  rw [nums_intItems] at hn
  subst hn
  have ht' : s.heap.IsTuple a (intItems zs) := by rw [← e]; exact ht
  have hsz : 0 < zs.size := by simpa using hne
  refine tup_min (I.ok.hd hc) ht' hsz fun v h' tk hv hk => ?_
  obtain ⟨t, rfl⟩ := intItems_at hv
  obtain ⟨b1, b2⟩ := argBest_lt (numAt zs) (zs.size - 1)
  refine ⟨.int _, H, I.kept (t' := tk) hk, ⟨t, rfl⟩, q _ ?_ fun y hy => ?_⟩
  · rw [numAt_eq]
    exact PySem.getD_mem (by rw [List.length_map, Array.length_toList]; omega)
  · obtain ⟨j, hj, rfl⟩ := mem_getD hy
    rw [List.length_map, Array.length_toList] at hj
    rw [← numAt_eq]
    exact b2 j (by omega)
end

/-! ### ints, bools of data -/
def intsD : List Dt → Option (List Int)
  | [] => some []
  | .int i :: ds => (intsD ds).map (i :: ·)
  | _ => none
theorem intsD_map : ∀ {ds : List Dt} {ns : List Int}, intsD ds = some ns → ds = ns.map .int
  | [], ns, e => by cases e; rfl
  | d :: ds, ns, e => by
    cases d <;> simp only [intsD, Option.map_eq_some_iff, reduceCtorEq] at e
    obtain ⟨ms, e1, rfl⟩ := e
    rw [intsD_map e1]
    rfl
@[simp] theorem intsD_ints : ∀ ns : List Int, intsD (ns.map .int) = some ns
  | [] => rfl
  | n :: ns => by
    show (intsD (ns.map .int)).map (n :: ·) = _
    rw [intsD_ints ns]
    rfl
def blsD : List Dt → Option (List Bool)
  | [] => some []
  | .bl i :: ds => (blsD ds).map (i :: ·)
  | _ => none
theorem blsD_map : ∀ {ds : List Dt} {ns : List Bool}, blsD ds = some ns → ds = ns.map .bl
  | [], ns, e => by cases e; rfl
  | d :: ds, ns, e => by
    cases d <;> simp only [blsD, Option.map_eq_some_iff, reduceCtorEq] at e
    obtain ⟨ms, e1, rfl⟩ := e
    rw [blsD_map e1]
    rfl
@[simp] theorem blsD_bls : ∀ ns : List Bool, blsD (ns.map .bl) = some ns
  | [] => rfl
  | n :: ns => by
    show (blsD (ns.map .bl)).map (n :: ·) = _
    rw [blsD_bls ns]
    rfl
theorem RdL.bls {W : Wd} {H : Hp} : ∀ {ns : List Bool} {vs : List V}, RdL W H (ns.map .bl) vs → vs = ns.map V.bl
  | [], _, h => h
  | n :: ns, _, h => by
    obtain ⟨v, r, rfl, h2, h3⟩ := h
    rw [show v = V.bl n from h2, RdL.bls h3]
    rfl
theorem RdL.one {W : Wd} {H : Hp} {d : Dt} {vs : List V} (h : RdL W H [d] vs) : ∃ v, vs = [v] ∧ RdD W H d v := by
  obtain ⟨v, r, rfl, h2, h3⟩ := h
  cases (show r = [] from h3)
  exact ⟨v, rfl, h2⟩
theorem RdL.two {W : Wd} {H : Hp} {d e : Dt} {vs : List V} (h : RdL W H [d, e] vs) : ∃ v w, vs = [v, w] ∧ RdD W H d v ∧ RdD W H e w := by
  obtain ⟨v, r, rfl, h2, h3⟩ := h
  obtain ⟨w, rfl, h4⟩ := RdL.one h3
  exact ⟨v, w, rfl, h2, h4⟩

def bInt : List Dt → Res Val
  | [.int i] => vI i
  | [.bl b] => vI (if b then 1 else 0)
  | _ => .bad
def bBool : List Dt → Res Val
  | [.int i] => vB (i != 0)
  | [.bl b] => vB b
  | _ => .bad
def bAbs : List Dt → Res Val
  | [.int i] => vI (if i < 0 then -i else i)
  | _ => .bad
def lenD : Dt → Option Nat
  | .lst ds => some ds.length
  | .tup ds => some ds.length
  | .scr ns => some ns.length
  | .str x => if x.length ≤ sizeLine then some x.length else none
  | _ => none
def bLen : List Dt → Res Val
  | [d] => match lenD d with
    | some n => vI n
    | none => .bad
  | _ => .bad
def bTuple : List Dt → Res Val
  | [.lst ds] => .ok (.imm (.tup ds))
  | [.tup ds] => .ok (.imm (.tup ds))
  | _ => .bad
def bList : List Dt → Res Val
  | [.lst ds] => .ok (.fresh (.lst ds))
  | [.tup ds] => .ok (.fresh (.lst ds))
  | _ => .bad
def bSum : List Dt → Res Val
  | [.lst ds] => match intsD ds with
    | some ns => vI ns.sum
    | none => .bad
  | [.tup ds] => match intsD ds with
    | some ns => vI ns.sum
    | none => .bad
  | _ => .bad
def bestOf (f : List Int → Option Int) (ns : List Int) : Res Val := match f ns with
  | some m => vI m
  | none => .bad
def bMax : List Dt → Res Val
  | [.lst ds] => match intsD ds with
    | some ns => bestOf List.max? ns
    | none => .bad
  | [.tup ds] => match intsD ds with
    | some ns => bestOf List.max? ns
    | none => .bad
  | [.int i, .int j] => vI (if j > i then j else i)
  | _ => .bad
def bMin : List Dt → Res Val
  | [.lst ds] => match intsD ds with
    | some ns => bestOf List.min? ns
    | none => .bad
  | [.tup ds] => match intsD ds with
    | some ns => bestOf List.min? ns
    | none => .bad
  | [.int i, .int j] => vI (if j < i then j else i)
  | _ => .bad
def bAll : List Dt → Res Val
  | [.lst ds] => match blsD ds with
    | some ns => vB (ns.all id)
    | none => .bad
  | _ => .bad
def bAny : List Dt → Res Val
  | [.lst ds] => match blsD ds with
    | some ns => vB (ns.any id)
    | none => .bad
  | _ => .bad

section
variable {W : Wd} {X : Cx}
theorem cas_int : CaS W (fun xs H Q => (∃ i, xs = [.int i] ∧ Q (.int i) H) ∨ ∃ k, xs = [.bl k] ∧ Q (.int (if k then 1 else 0)) H) bInt := by
  intro EX Fm Hb ia env σ H ds vs Q A r p
  unfold bInt at p
  split at p
  · obtain ⟨v, rfl, h⟩ := r.one
    cases (show v = V.int _ from h)
    exact .inl ⟨_, rfl, Post.imm p A rfl⟩
  · obtain ⟨v, rfl, h⟩ := r.one
    cases (show v = V.bl _ from h)
    exact .inr ⟨_, rfl, Post.imm p A rfl⟩
  · exact p.elim
theorem cas_bool : CaS W (fun xs H Q => (∃ i, xs = [.int i] ∧ Q (.bl (i != 0)) H) ∨ ∃ k, xs = [.bl k] ∧ Q (.bl k) H) bBool := by
  intro EX Fm Hb ia env σ H ds vs Q A r p
  unfold bBool at p
  split at p
  · obtain ⟨v, rfl, h⟩ := r.one
    cases (show v = V.int _ from h)
    exact .inl ⟨_, rfl, Post.imm p A rfl⟩
  · obtain ⟨v, rfl, h⟩ := r.one
    cases (show v = V.bl _ from h)
    exact .inr ⟨_, rfl, Post.imm p A rfl⟩
  · exact p.elim
theorem cas_abs : CaS W (fun xs H Q => ∃ i, xs = [.int i] ∧ Q (.int (if i < 0 then -i else i)) H) bAbs := by
  intro EX Fm Hb ia env σ H ds vs Q A r p
  unfold bAbs at p
  split at p
  · obtain ⟨v, rfl, h⟩ := r.one
    cases (show v = V.int _ from h)
    exact ⟨_, rfl, Post.imm p A rfl⟩
  · exact p.elim
theorem lenD_rd {H : Hp} {d : Dt} {v : V} {n : Nat} (r : RdD W H d v) (h : lenD d = some n) : LenV W.K v H n := by
  cases d with
  | lst ds =>
    cases h
    obtain ⟨a, vs, rfl, h1, h2⟩ := r
    exact .inl ⟨vs, .inl (.inl h1), h2.len⟩
  | tup ds =>
    cases h
    obtain ⟨a, vs, rfl, h1, h2⟩ := r
    exact .inr ⟨vs, sqt_of h1, h2.len⟩
  | scr ns =>
    cases h
    obtain ⟨a, rfl, h1⟩ := r
    exact .inl ⟨_, h1, by rw [List.length_map]⟩
  | str x =>
    cases (show v = V.str x from r)
    simp only [lenD] at h
    split at h
    · rename_i hz
      cases h
      exact ⟨hz, rfl⟩
    · cases h
  | _ => cases h
theorem cas_len : CaS W (fun xs H Q => ∃ x n, xs = [x] ∧ LenV W.K x H n ∧ Q (.int n) H) bLen := by
  intro EX Fm Hb ia env σ H ds vs Q A r p
  unfold bLen at p
  split at p
  · obtain ⟨v, rfl, h⟩ := r.one
    split at p
    · rename_i n hn
      exact ⟨v, n, rfl, lenD_rd (RdD.mono A.bs.hb _ _ h) hn, Post.imm p A rfl⟩
    · exact p.elim
  · exact p.elim
theorem cas_tuple : CaS W (fun xs H Q => ∃ p ys, xs = [.ref p] ∧ ((SqL W.K H p ys ∧ ∀ l, H l = none → Q (.ref l) (upd H l (.tup ys))) ∨ (SqT W.K H p ys ∧ Q (.ref p) H))) bTuple := by
  intro EX Fm Hb ia env σ H ds vs Q A r p
  unfold bTuple at p
  split at p
  · obtain ⟨v, rfl, h⟩ := r.one
    obtain ⟨a, vs, rfl, h1, h2⟩ := h
    exact ⟨a, vs, rfl, .inl ⟨.inl (.inl (A.bs.hb _ _ h1)), Post.newT p A h2⟩⟩
  · obtain ⟨v, rfl, h⟩ := r.one
    obtain ⟨a, vs, rfl, h1, h2⟩ := h
    exact ⟨a, vs, rfl, .inr ⟨sqt_of (A.bs.hb _ _ h1), Post.imm p A ⟨a, vs, rfl, h1, h2⟩⟩⟩
  · exact p.elim
theorem cas_list : CaS W (fun xs H Q => ∃ p ys, xs = [.ref p] ∧ (SqL W.K H p ys ∨ SqT W.K H p ys) ∧ ∀ l, H l = none → Q (.ref l) (upd H l (.lst ys))) bList := by
  intro EX Fm Hb ia env σ H ds vs Q A r p
  unfold bList at p
  split at p
  · obtain ⟨v, rfl, h⟩ := r.one
    obtain ⟨a, vs, rfl, h1, h2⟩ := h
    exact ⟨a, vs, rfl, .inl (.inl (.inl (A.bs.hb _ _ h1))), Post.newL p A h2⟩
  · obtain ⟨v, rfl, h⟩ := r.one
    obtain ⟨a, vs, rfl, h1, h2⟩ := h
    exact ⟨a, vs, rfl, .inr (sqt_of (A.bs.hb _ _ h1)), Post.newL p A h2⟩
  · exact p.elim
def rSumAll (K : PySem.W.Frag) : List V → Hp → VK → Prop := fun vs H Q => rSum K vs H Q ∨ rSumT K vs H Q
theorem sum_all (hc : X.calm = true) : CallR X (.builtin "sum") (rSumAll X.K) := (cr_sum hc).or (sumT_ok hc)
theorem cas_sum : CaS W (rSumAll W.K) bSum := by
  intro EX Fm Hb ia env σ H ds vs Q A r p
  unfold bSum at p
  split at p
  · obtain ⟨v, rfl, h⟩ := r.one
    split at p
    · rename_i ns hn
      obtain ⟨a, vs, rfl, h1, h2⟩ := h
      rw [intsD_map hn] at h2
      obtain rfl := h2.ints
      exact .inl ⟨a, ns, rfl, .inl (.inl (A.bs.hb _ _ h1)), Post.imm p A rfl⟩
    · exact p.elim
  · obtain ⟨v, rfl, h⟩ := r.one
    split at p
    · rename_i ns hn
      obtain ⟨a, vs, rfl, h1, h2⟩ := h
      rw [intsD_map hn] at h2
      obtain rfl := h2.ints
      exact .inr ⟨a, ns, rfl, sqt_of (A.bs.hb _ _ h1), Post.imm p A rfl⟩
    · exact p.elim
  · exact p.elim
def rMaxAll (K : PySem.W.Frag) : List V → Hp → VK → Prop := fun vs H Q => rMax K vs H Q ∨ (rBestT K (fun y m => y ≤ m) vs H Q ∨ (fun xs H Q => ∃ i j, xs = [V.int i, .int j] ∧ Q (.int (if j > i then j else i)) H) vs H Q)
def rMinAll (K : PySem.W.Frag) : List V → Hp → VK → Prop := fun vs H Q => rMin K vs H Q ∨ (rBestT K (fun y m => m ≤ y) vs H Q ∨ (fun xs H Q => ∃ i j, xs = [V.int i, .int j] ∧ Q (.int (if j < i then j else i)) H) vs H Q)
theorem max_all (hc : X.calm = true) : CallR X (.builtin "max") (rMaxAll X.K) := (cr_max hc).or ((maxT_ok hc).or (call_max2 hc))
theorem min_all (hc : X.calm = true) : CallR X (.builtin "min") (rMinAll X.K) := (cr_min hc).or ((minT_ok hc).or (call_min2 hc))
theorem max_pos {ns : List Int} {m : Int} (h : ns.max? = some m) : 0 < ns.length := by
  cases ns with
  | nil => cases h
  | cons a b => exact Nat.succ_pos _
theorem min_pos {ns : List Int} {m : Int} (h : ns.min? = some m) : 0 < ns.length := by
  cases ns with
  | nil => cases h
  | cons a b => exact Nat.succ_pos _
theorem max_is {ns : List Int} {m k : Int} (h : ns.max? = some m) (h1 : k ∈ ns) (h2 : ∀ y ∈ ns, y ≤ k) : k = m := by
  obtain ⟨h3, h4⟩ := List.max?_eq_some_iff.mp h
  have := h4 k h1
  have := h2 m h3
  omega
theorem min_is {ns : List Int} {m k : Int} (h : ns.min? = some m) (h1 : k ∈ ns) (h2 : ∀ y ∈ ns, k ≤ y) : k = m := by
  obtain ⟨h3, h4⟩ := List.min?_eq_some_iff.mp h
  have := h4 k h1
  have := h2 m h3
  omega
theorem cas_max : CaS W (rMaxAll W.K) bMax := by
  intro EX Fm Hb ia env σ H ds vs Q A r p
  unfold bMax at p
  split at p
  · obtain ⟨v, rfl, h⟩ := r.one
    split at p
    · rename_i ns hn
      unfold bestOf at p
      split at p
      · rename_i m hm
        obtain ⟨a, vs, rfl, h1, h2⟩ := h
        rw [intsD_map hn] at h2
        obtain rfl := h2.ints
        exact .inl ⟨a, ns, rfl, .inl (.inl (A.bs.hb _ _ h1)), max_pos hm, fun k k1 k2 => by rw [max_is hm k1 k2]; exact Post.imm p A rfl⟩
      · exact p.elim
    · exact p.elim
  · obtain ⟨v, rfl, h⟩ := r.one
    split at p
    · rename_i ns hn
      unfold bestOf at p
      split at p
      · rename_i m hm
        obtain ⟨a, vs, rfl, h1, h2⟩ := h
        rw [intsD_map hn] at h2
        obtain rfl := h2.ints
        exact .inr (.inl ⟨a, ns, rfl, sqt_of (A.bs.hb _ _ h1), max_pos hm, fun k k1 k2 => by rw [max_is hm k1 k2]; exact Post.imm p A rfl⟩)
      · exact p.elim
    · exact p.elim
  · obtain ⟨v, w, rfl, h1, h2⟩ := r.two
    cases (show v = V.int _ from h1)
    cases (show w = V.int _ from h2)
    exact .inr (.inr ⟨_, _, rfl, Post.imm p A rfl⟩)
  · exact p.elim
theorem cas_min : CaS W (rMinAll W.K) bMin := by
  intro EX Fm Hb ia env σ H ds vs Q A r p
  unfold bMin at p
  split at p
  · obtain ⟨v, rfl, h⟩ := r.one
    split at p
    · rename_i ns hn
      unfold bestOf at p
      split at p
      · rename_i m hm
        obtain ⟨a, vs, rfl, h1, h2⟩ := h
        rw [intsD_map hn] at h2
        obtain rfl := h2.ints
        exact .inl ⟨a, ns, rfl, .inl (.inl (A.bs.hb _ _ h1)), min_pos hm, fun k k1 k2 => by rw [min_is hm k1 k2]; exact Post.imm p A rfl⟩
      · exact p.elim
    · exact p.elim
  · obtain ⟨v, rfl, h⟩ := r.one
    split at p
    · rename_i ns hn
      unfold bestOf at p
      split at p
      · rename_i m hm
        obtain ⟨a, vs, rfl, h1, h2⟩ := h
        rw [intsD_map hn] at h2
        obtain rfl := h2.ints
        exact .inr (.inl ⟨a, ns, rfl, sqt_of (A.bs.hb _ _ h1), min_pos hm, fun k k1 k2 => by rw [min_is hm k1 k2]; exact Post.imm p A rfl⟩)
      · exact p.elim
    · exact p.elim
  · obtain ⟨v, w, rfl, h1, h2⟩ := r.two
    cases (show v = V.int _ from h1)
    cases (show w = V.int _ from h2)
    exact .inr (.inr ⟨_, _, rfl, Post.imm p A rfl⟩)
  · exact p.elim
theorem cas_all : CaS W (rAll W.K) bAll := by
  intro EX Fm Hb ia env σ H ds vs Q A r p
  unfold bAll at p
  split at p
  · obtain ⟨v, rfl, h⟩ := r.one
    split at p
    · rename_i ns hn
      obtain ⟨a, vs, rfl, h1, h2⟩ := h
      rw [blsD_map hn] at h2
      obtain rfl := h2.bls
      exact ⟨a, ns, rfl, .inl (.inl (A.bs.hb _ _ h1)), Post.imm p A rfl⟩
    · exact p.elim
  · exact p.elim
theorem cas_any : CaS W (rAny W.K) bAny := by
  intro EX Fm Hb ia env σ H ds vs Q A r p
  unfold bAny at p
  split at p
  · obtain ⟨v, rfl, h⟩ := r.one
    split at p
    · rename_i ns hn
      obtain ⟨a, vs, rfl, h1, h2⟩ := h
      rw [blsD_map hn] at h2
      obtain rfl := h2.bls
      exact ⟨a, ns, rfl, .inl (.inl (A.bs.hb _ _ h1)), Post.imm p A rfl⟩
    · exact p.elim
  · exact p.elim
end
end G


set_option maxRecDepth 100000
set_option maxHeartbeats 4000000
/-! Kern7: what a def promises on data; how it is called; how its body keeps the promise. -/
namespace G
open PySem PySem.Spec PyProof.Rows L2
variable [TabT]

abbrev FR := Res (Val × Option Dt)
def ValF (W : Wd) (Fm Hb H : Hp) (io : Option Addr) : Val → V → Prop
  | .imm d, v => RdD W Hb d v
  | .fresh d, v => ∃ p, v = .ref p ∧ Hb p = none ∧ Fm p = none ∧ OwnAt W Hb H p d ∧ io ≠ some p
def OutF (W : Wd) (Hb H : Hp) : Option Addr → Option Dt → Prop
  | none, none => True
  | some a, some d => Hb a = none ∧ OwnAt W Hb H a d
  | _, _ => False
def PostF (W : Wd) (E : XK) (Fm Hb : Hp) (io : Option Addr) (Q : VK) : FR → Prop
  | .ok (val, out) => ∀ v H' Hb', Same Hb Hb' → Bse Fm Hb' H' → ValF W Fm Hb' H' io val v → OutF W Hb' H' io out → Q v H'
  | .err x => ∀ c dx H' Hb', Same Hb Hb' → Bse Fm Hb' H' → ErrAt W Hb' H' x c dx → E c dx H'
  | .bad => False
def ArgF (W : Wd) (Fm Hb H : Hp) (io : Bool) (ds : List Dt) (vs : List V) (ia : Option Addr) : Prop :=
  match io with
  | false => ia = none ∧ RdL W Hb ds vs
  | true => ∃ a d dr vr, ds = d :: dr ∧ vs = .ref a :: vr ∧ ia = some a ∧ Hb a = none ∧ Fm a = none ∧ OwnAt W Hb H a d ∧ RdL W Hb dr vr
def spF (W : Wd) (n : Nat) (io : Bool) (F : List Dt → FR) : Sp := fun vs H Q E => ∃ Fm Hb ds ia, Bse Fm Hb H ∧ vs.length = n ∧ ArgF W Fm Hb H io ds vs ia ∧ PostF W E Fm Hb ia Q (F ds)

/-- as FnOk, where nothing is being shown (repr) around the call; a def may let errors out -/
structure FnG (P : Program) (w : World) (K : PySem.W.Frag) (mg : Str → Option Value) (base : Heap) (k : Nat) (f : Addr) (fd : FuncData) (ps : List Str) (sp : Sp) : Prop where
  len : ∀ vs H Q E, sp vs H Q E → vs.length = ps.length
  run : ∀ (A : Around) (outer : List Env) (s : Shared) (H : Hp) (args : Args) (us : List Value) (vs : List V) (Q : VK) (E : XK), A.guards = some [] → Room k A → Env0 P w K mg base A outer s H →
    BindsTo s fd args (ps.zip us) → Vals vs us → sp vs H Q E → codeAny (model P w) A (.call (.ref f) args) (CR (L2.CX P w) outer P w H s Q E) s
theorem FnG.mono {P : Program} {w : World} {K : PySem.W.Frag} {mg : Str → Option Value} {base : Heap} {j k : Nat} {f : Addr} {fd : FuncData} {ps : List Str} {sp : Sp} (F : FnG P w K mg base j f fd ps sp) (h : j ≤ k) : FnG P w K mg base k f fd ps sp where
  len := F.len
  run := fun A outer s H args us vs Q E hg hr => F.run A outer s H args us vs Q E hg (hr.mono h)

/-- where a parameter's value comes from: a place among the positional values, among the keywords', a default -/
inductive Src where
  | pos (i : Nat) | kw (j : Nat) | cst (j : Nat) (v : V)
def Src.v (vs zs : List V) : Src → V
  | .pos i => (vs[i]?).getD .non
  | .kw j => (zs[j]?).getD .non
  | .cst _ v => v
def Src.d (ds es : List Dt) : Src → Dt
  | .pos i => (ds[i]?).getD .non
  | .kw j => (es[j]?).getD .non
  | .cst _ v => (flatD v).getD .non
def Src.ok (n m : Nat) : Src → Bool
  | .pos i => decide (i < n)
  | .kw j => decide (j < m)
  | .cst _ v => (flatD v).isSome
structure Shape where
  np : Nat
  ks : List Str
  src : List Src
structure ShapeOk (K : PySem.W.Frag) (fd : FuncData) (ps : List Str) (sh : Shape) (g : List Value → List Value → List Value) : Prop where
  to : ∀ (s : Shared) (us ws : List Value), K.In s.heap → us.length = sh.np → ws.length = sh.ks.length → BindsTo s fd ⟨us, sh.ks.zip ws⟩ (ps.zip (g us ws))
  rel : ∀ {vs : List V} {us : List Value} {zs : List V} {ws : List Value}, Vals vs us → Vals zs ws → vs.length = sh.np → zs.length = sh.ks.length → Vals (sh.src.map (Src.v vs zs)) (g us ws)
theorem src_rd {W : Wd} {H : Hp} {ds es : List Dt} {vs zs : List V} (h1 : RdL W H ds vs) (h2 : RdL W H es zs) : ∀ {src : List Src}, (src.all (Src.ok ds.length es.length)) = true → RdL W H (src.map (Src.d ds es)) (src.map (Src.v vs zs))
  | [], _ => rfl
  | x :: src, h => by
    rw [List.all_cons, Bool.and_eq_true] at h
    refine ⟨_, _, rfl, ?_, src_rd h1 h2 h.2⟩
    cases x with
    | pos i =>
      have hi : i < ds.length := of_decide_eq_true h.1
      obtain ⟨v, e1, e2⟩ := h1.get (List.getElem?_eq_getElem hi)
      show RdD W H ((ds[i]?).getD .non) ((vs[i]?).getD .non)
      rw [e1, List.getElem?_eq_getElem hi]
      exact e2
    | kw i =>
      have hi : i < es.length := of_decide_eq_true h.1
      obtain ⟨v, e1, e2⟩ := h2.get (List.getElem?_eq_getElem hi)
      show RdD W H ((es[i]?).getD .non) ((zs[i]?).getD .non)
      rw [e1, List.getElem?_eq_getElem hi]
      exact e2
    | cst j v =>
      obtain ⟨d, e⟩ := Option.isSome_iff_exists.mp (show (flatD v).isSome = true from h.1)
      show RdD W H ((flatD v).getD .non) v
      rw [e]
      exact flatD_rd e

/-! ### calls -/
section
variable {W : Wd} {EX : XK} {Fm Hb H : Hp} {ia : Option Addr} {env : Env'} {σ : L2.St} {Q : VK} {n : Nat} {F : List Dt → FR}
open Classical in
/-- what the callee may not touch: foreign things, and what this body owns (but what slot i lends) -/
noncomputable def lend (Fm H : Hp) (env : Env') (σ : L2.St) (i : Option Nat) : Hp := fun a => if ∃ j d, some j ≠ i ∧ Owns env j d ∧ σ[j]? = some (some (.ref a)) then H a else Fm a
theorem lend_yes {i : Option Nat} {j : Nat} {d : Dt} {a : Addr} (h1 : some j ≠ i) (h2 : Owns env j d) (h3 : σ[j]? = some (some (.ref a))) : lend Fm H env σ i a = H a := if_pos ⟨j, d, h1, h2, h3⟩
theorem lend_cases (i : Option Nat) (a : Addr) : (∃ j d, some j ≠ i ∧ Owns env j d ∧ σ[j]? = some (some (.ref a)) ∧ lend Fm H env σ i a = H a) ∨ ((∀ j d, some j ≠ i → Owns env j d → σ[j]? ≠ some (some (.ref a))) ∧ lend Fm H env σ i a = Fm a) := by
  by_cases h : ∃ j d, some j ≠ i ∧ Owns env j d ∧ σ[j]? = some (some (.ref a))
  · obtain ⟨j, d, h1, h2, h3⟩ := id h
    exact .inl ⟨j, d, h1, h2, h3, if_pos h⟩
  · exact .inr ⟨fun j d h1 h2 h3 => h ⟨j, d, h1, h2, h3⟩, if_neg h⟩
theorem lend_bse (A : Agr W Fm Hb ia env σ H) (i : Option Nat) : Bse (lend Fm H env σ i) Hb H where
  hb := A.bs.hb
  fm := fun a o e => by
    rcases lend_cases (Fm := Fm) (H := H) (env := env) (σ := σ) i a with ⟨_, _, _, _, _, z⟩ | ⟨_, z⟩
    · rw [z] at e
      exact e
    · rw [z] at e
      exact A.bs.fm a o e
  dj := fun a o e => by
    rcases lend_cases (Fm := Fm) (H := H) (env := env) (σ := σ) i a with ⟨j, d, h1, h2, h3, z⟩ | ⟨_, z⟩
    · obtain ⟨b, g1, g2, _⟩ := A.own j d h2
      rw [h3] at g1
      cases g1
      exact g2
    · rw [z] at e
      exact A.bs.dj a o e
  nt := fun a vs e => by
    rcases lend_cases (Fm := Fm) (H := H) (env := env) (σ := σ) i a with ⟨j, d, h1, h2, h3, z⟩ | ⟨_, z⟩
    · obtain ⟨b, g1, _, _, g4⟩ := A.own j d h2
      rw [h3] at g1
      cases g1
      rw [z] at e
      exact g4.ld e
    · rw [z] at e
      exact A.bs.nt a vs e
  tb := A.bs.tb
  nb := A.bs.nb
theorem lend_back (A : Agr W Fm Hb ia env σ H) {i : Option Nat} {Hb' H' : Hp} (b : Bse (lend Fm H env σ i) Hb' H') : Bse Fm Hb' H' where
  hb := b.hb
  fm := fun a o e => b.fm a o (by
    rcases lend_cases (Fm := Fm) (H := H) (env := env) (σ := σ) i a with ⟨j, d, h1, h2, h3, z⟩ | ⟨_, z⟩
    · obtain ⟨b', g1, _, g3, _⟩ := A.own j d h2
      rw [h3] at g1
      cases g1
      rw [g3] at e
      cases e
    · rw [z]
      exact e)
  dj := fun a o e => b.dj a o (by
    rcases lend_cases (Fm := Fm) (H := H) (env := env) (σ := σ) i a with ⟨j, d, h1, h2, h3, z⟩ | ⟨_, z⟩
    · obtain ⟨b', g1, _, g3, _⟩ := A.own j d h2
      rw [h3] at g1
      cases g1
      rw [g3] at e
      cases e
    · rw [z]
      exact e)
  nt := A.bs.nt
  tb := b.tb
  nb := b.nb
theorem lend_own (A : Agr W Fm Hb ia env σ H) {i : Option Nat} {Hb' H' : Hp} (s : Same Hb Hb') (b : Bse (lend Fm H env σ i) Hb' H') {j : Nat} {d : Dt} (hj : some j ≠ i) (h : Owns env j d) :
    ∃ a, σ[j]? = some (some (.ref a)) ∧ Hb' a = none ∧ Fm a = none ∧ OwnAt W Hb' H' a d := by
  obtain ⟨a, g1, g2, g3, g4⟩ := A.own j d h
  have z := lend_yes (Fm := Fm) (H := H) hj h g1
  obtain ⟨o, ho⟩ := g4.there
  exact ⟨a, g1, b.dj a o (by rw [z]; exact ho), g3, g4.move s fun o' ho' => b.fm a o' (by rw [z]; exact ho')⟩
theorem agr_after (A : Agr W Fm Hb ia env σ H) {Hb' H' : Hp} (s : Same Hb Hb') (b : Bse (lend Fm H env σ none) Hb' H') : Agr W Fm Hb' ia env σ H' where
  bs := lend_back A b
  len := A.len
  imm := fun i d e => by
    obtain ⟨v, h1, h2⟩ := A.imm i d e
    exact ⟨v, h1, RdD.mono s _ _ h2⟩
  own := fun i d e => lend_own A s b (fun z => nomatch z) e
  inj := A.inj
  io := A.io
  ioh := A.ioh
theorem lend_fresh {i : Option Nat} {p : Addr} (A : Agr W Fm Hb ia env σ H) (h : lend Fm H env σ i p = none) : Fm p = none ∧ ∀ j d, some j ≠ i → Owns env j d → σ[j]? ≠ some (some (.ref p)) := by
  refine ⟨?_, fun j d hj ho z => ?_⟩
  · rcases lend_cases (Fm := Fm) (H := H) (env := env) (σ := σ) i p with ⟨j, d, h1, h2, h3, z⟩ | ⟨_, z⟩
    · obtain ⟨b', g1, _, g3, _⟩ := A.own j d h2
      rw [h3] at g1
      cases g1
      exact g3
    · rw [z] at h
      exact h
  · obtain ⟨b', g1, _, _, g4⟩ := A.own j d ho
    rw [z] at g1
    cases g1
    obtain ⟨o, ho'⟩ := g4.there
    rw [lend_yes (Fm := Fm) (H := H) hj ho z, ho'] at h
    cases h
/-- the callee's answer, in the caller's words -/
def asRes (env : Env') : FR → Res (Val × Env')
  | .ok (v, none) => .ok (v, env)
  | .ok (_, some _) => .bad
  | .err x => .err x
  | .bad => .bad
theorem call_sp (A : Agr W Fm Hb ia env σ H) {ds : List Dt} {vs : List V} (r : RdL W Hb ds vs) (hn : vs.length = n) (p : Post W EX Fm Hb ia σ (GE W Fm σ Q) (asRes env (F ds))) : spF W n false F vs H Q EX := by
  refine ⟨lend Fm H env σ none, Hb, ds, none, lend_bse A none, hn, ⟨rfl, r⟩, ?_⟩
  cases hF : F ds with
  | ok q =>
    obtain ⟨val, out⟩ := q
    rw [hF] at p
    intro v H' Hb' s b hv ho
    cases out with
    | some d => exact p.elim
    | none =>
      have A' := agr_after A s b
      refine p H' Hb' s A' v ?_
      cases val with
      | imm d => exact hv
      | fresh d =>
        obtain ⟨q, rfl, h1, h2, h3, _⟩ := hv
        obtain ⟨h4, h5⟩ := lend_fresh A h2
        exact ⟨q, rfl, h1, h4, h3, fun i x o => h5 i x (fun z => nomatch z) o⟩
  | err x =>
    rw [hF] at p
    exact fun c dx H' Hb' s b e => p c dx H' Hb' s (lend_back A b) e
  | bad =>
    rw [hF] at p
    exact p.elim
/-- a lent slot -/
def asResIo (env : Env') (i : Nat) (mk : Dt → Slot) : FR → Res (Val × Env')
  | .ok (v, some d) => .ok (v, env.set i (mk d))
  | .ok (_, none) => .bad
  | .err x => .err x
  | .bad => .bad
theorem call_spIo (A : Agr W Fm Hb ia env σ H) {i : Nat} {d : Dt} {a : Addr} {mk : Dt → Slot} (hs : (env[i]? = some (.own d) ∧ mk = Slot.own) ∨ (env[i]? = some (.io d) ∧ mk = Slot.io)) (ha : σ[i]? = some (some (.ref a))) {ds : List Dt} {vs : List V} (r : RdL W Hb ds vs) (hn : vs.length + 1 = n)
    (p : Post W EX Fm Hb ia σ (GE W Fm σ Q) (asResIo env i mk (F (d :: ds)))) : spF W n true F (.ref a :: vs) H Q EX := by
  have hO : Owns env i d := by
    rcases hs with ⟨h, _⟩ | ⟨h, _⟩
    · exact .inl h
    · exact .inr h
  obtain ⟨a', g1, g2, g3, g4⟩ := A.own i d hO
  rw [ha] at g1
  cases g1
  have na : lend Fm H env σ (some i) a = none := by
    rcases lend_cases (Fm := Fm) (H := H) (env := env) (σ := σ) (some i) a with ⟨j, e, h1, h2, h3, z⟩ | ⟨_, z⟩
    · exact absurd (congrArg some (A.inj j i e d a h2 hO h3 ha)) h1
    · rw [z]
      exact g3
  refine ⟨lend Fm H env σ (some i), Hb, d :: ds, some a, lend_bse A (some i), hn, ⟨a, d, ds, vs, rfl, rfl, rfl, g2, na, g4, r⟩, ?_⟩
  cases hF : F (d :: ds) with
  | ok q =>
    obtain ⟨val, out⟩ := q
    rw [hF] at p
    intro v H' Hb' s b hv ho
    cases out with
    | none => exact ho.elim
    | some d' =>
      obtain ⟨o1, o2⟩ := ho
      have hl : i < env.length := by
        rcases hO with h | h <;> exact (List.getElem?_eq_some_iff.mp h).1
      have key : ∀ j e, Owns (env.set i (mk d')) j e → (i = j ∧ e = d') ∨ (i ≠ j ∧ Owns env j e) := fun j e g => by
        rcases g with g | g
        · rcases get_set g with ⟨z, q, _⟩ | ⟨ne, q⟩
          · rcases hs with ⟨_, rfl⟩ | ⟨_, rfl⟩
            · cases q; exact .inl ⟨z, rfl⟩
            · cases q
          · exact .inr ⟨ne, .inl q⟩
        · rcases get_set g with ⟨z, q, _⟩ | ⟨ne, q⟩
          · rcases hs with ⟨_, rfl⟩ | ⟨_, rfl⟩
            · cases q
            · cases q; exact .inl ⟨z, rfl⟩
          · exact .inr ⟨ne, .inr q⟩
      have A' : Agr W Fm Hb' ia (env.set i (mk d')) σ H' := {
        bs := lend_back A b
        len := by rw [List.length_set]; exact A.len
        imm := fun j e g => by
          rcases get_set g with ⟨_, q, _⟩ | ⟨ne, q⟩
          · rcases hs with ⟨_, rfl⟩ | ⟨_, rfl⟩ <;> cases q
          · obtain ⟨v, h1, h2⟩ := A.imm j e q
            exact ⟨v, h1, RdD.mono s _ _ h2⟩
        own := fun j e g => by
          rcases key j e g with ⟨rfl, rfl⟩ | ⟨ne, g⟩
          · exact ⟨a, ha, o1, g3, o2⟩
          · exact lend_own A s b (fun z => ne (Option.some.inj z).symm) g
        inj := fun j k e e' b' x1 x2 y1 y2 => by
          rcases key j e x1 with ⟨rfl, rfl⟩ | ⟨n1, k1⟩
          · rcases key k e' x2 with ⟨rfl, rfl⟩ | ⟨n2, k2⟩
            · rfl
            · exact A.inj i k d e' b' hO k2 y1 y2
          · rcases key k e' x2 with ⟨rfl, rfl⟩ | ⟨n2, k2⟩
            · exact A.inj j i e d b' k1 hO y1 y2
            · exact A.inj j k e e' b' k1 k2 y1 y2
        io := fun j e g => by
          rcases get_set g with ⟨rfl, q, _⟩ | ⟨ne, q⟩
          · rcases hs with ⟨_, rfl⟩ | ⟨hs, rfl⟩
            · cases q
            · exact A.io i d hs
          · exact A.io j e q
        ioh := fun b' e => by
          obtain ⟨d'', g⟩ := A.ioh b' e
          by_cases z : i = 0
          · subst z
            rcases hs with ⟨hs, _⟩ | ⟨hs, rfl⟩
            · rw [hs] at g; cases g
            · exact ⟨d', List.getElem?_set_self hl⟩
          · exact ⟨d'', by rw [List.getElem?_set_ne z]; exact g⟩ }
      refine p H' Hb' s A' v ?_
      cases val with
      | imm d => exact hv
      | fresh e =>
        obtain ⟨q, rfl, h1, h2, h3, h6⟩ := hv
        obtain ⟨h4, h5⟩ := lend_fresh A h2
        refine ⟨q, rfl, h1, h4, h3, fun j x o z => ?_⟩
        rcases key j x o with ⟨rfl, rfl⟩ | ⟨ne, o⟩
        · rw [ha] at z
          cases z
          exact h6 rfl
        · exact h5 j x (fun y => ne (Option.some.inj y).symm) o z
  | err x =>
    rw [hF] at p
    exact fun c dx H' Hb' s b e => p c dx H' Hb' s (lend_back A b) e
  | bad =>
    rw [hF] at p
    exact p.elim
end
end G


set_option maxRecDepth 100000
set_option maxHeartbeats 4000000
/-! Kern8: calls of defs, and what a def's body makes of its promise. -/
namespace G
open PySem PySem.Spec PyProof.Rows L2
variable [TabT]

/-! ### argument lists without stars -/
def isStar : Expr → Bool
  | .Starred _ _ => true
  | _ => false
theorem star_no {e : Expr} {es : List Expr} {env : Env} (h : isStar e = false) : starEach (e :: es) env = (false, eval e env) :: starEach es env := by
  cases e <;> first
    | rfl
    | cases h
theorem star_none {env : Env} {pos : Pos} : ∀ {es : List Expr}, es.all (fun e => !isStar e) = true → (backTo pos (starEach es env)).any (·.1) = false
  | [], _ => rfl
  | e :: es, h => by
    rw [List.all_cons, Bool.and_eq_true] at h
    rw [star_no (by simpa using h.1)]
    show (false || (backTo pos (starEach es env)).any (·.1)) = false
    rw [star_none h.2]
    rfl
def kwName (k : Keyword) : Str := k.arg.getD Str.empty
def kwsOk (kws : List Keyword) : Bool := kws.all fun k => k.arg.isSome
theorem kw_all {env : Env} {pos : Pos} : ∀ {kws : List Keyword}, kwsOk kws = true → (backToKw pos (keywordEach kws env)).all (·.1.isSome) = true ∧ (backToKw pos (keywordEach kws env)).any (·.1.isNone) = false ∧ (backToKw pos (keywordEach kws env)).filterMap (·.1) = kws.map kwName
  | [], _ => ⟨rfl, rfl, rfl⟩
  | ⟨nm, v, p⟩ :: kws, h => by
    obtain ⟨h1, h2⟩ := (Bool.and_eq_true _ _).mp (show (nm.isSome && kwsOk kws) = true from h)
    obtain ⟨x, rfl⟩ := Option.isSome_iff_exists.mp h1
    obtain ⟨i1, i2, i3⟩ := kw_all (env := env) (pos := pos) h2
    refine ⟨?_, ?_, ?_⟩
    · show (true && (backToKw pos (keywordEach kws env)).all (·.1.isSome)) = true
      rw [i1]
      rfl
    · show (false || (backToKw pos (keywordEach kws env)).any (·.1.isNone)) = false
      rw [i2]
      rfl
    · show x :: (backToKw pos (keywordEach kws env)).filterMap (·.1) = x :: kws.map kwName
      rw [i3]
abbrev SK (X : Cx) (EX : XK) (kws : List Keyword) (f : DA) : Prop := PK X kws (rdA (wd X) EX f)
theorem pk_mono {X : Cx} {e : List Keyword} {t t' : TA} (h : PK X e t) (w : ∀ σ H Q, t' σ H Q → t σ H Q) : PK X e t' := ⟨fun pos pins s σ H Q I q => h.run pos pins s σ H Q I (w σ H Q q)⟩
section
variable {X : Cx} {EX : XK} {pos p kpos : Pos} {e : Expr} {es : List Expr} {kws : List Keyword} {f : DE} {g gk : DA} {nm : Option Str}
theorem sk_nil : SK X EX [] aNil := pk_mono pk_nil fun σ H Q ⟨Fm, Hb, ia, env, A, p⟩ => p H Hb (Same.refl _) A [] rfl
theorem sk_cons (ha : SE X EX e f) (hr : SK X EX kws g) : SK X EX (⟨nm, e, kpos⟩ :: kws) (aCons f g) := pk_mono (pk_cons ha hr) fun σ H Q ⟨Fm, Hb, ia, env, A, p⟩ =>
  ⟨Fm, Hb, ia, env, A, Post.bindV p fun va e1 x H1 Hb1 s1 A1 r1 q1 => ⟨Fm, Hb1, ia, e1, A1, Post.bind q1 fun ds e2 H2 Hb2 s2 A2 q2 vs hv => q2 H2 Hb2 (Same.refl _) A2 (x :: vs) ⟨x, vs, rfl, RdD.mono s2 _ _ r1, hv⟩⟩⟩

/-! ### built-ins by name -/
theorem se_callB {x : Str} {id : String} {r : List V → Hp → VK → Prop} {h : List Dt → Res Val} (hc : CallR X (.builtin id) r) (hs : CaS (wd X) r h) (hg : Gl X x) (hm : X.mg x = none) (hv : bootBuiltins x = some (.builtin id)) (ha : SA X EX (e :: es) g)
    (hn : x ≠ "__name__") (hdb : (x == ("__debug__" : Str)) = false) (hst : (e :: es).all (fun e => !isStar e) = true) : SE X EX (.Call (.Name x p) (e :: es) [] pos) (dCallB h g) := by
  rw [List.all_cons, Bool.and_eq_true] at hst
  exact pe_mono (pe_callB hc hg hm hv ha hn hdb (star_no (by simpa using hst.1)) (star_none hst.2)) (rd_cb hs)
theorem se_callTy {x : Str} {id : String} {r : List V → Hp → VK → Prop} {h : List Dt → Res Val} (hc : CallR X (.type id) r) (hs : CaS (wd X) r h) (hg : Gl X x) (hm : X.mg x = none) (hv : bootBuiltins x = some (.type id)) (ha : SA X EX (e :: es) g)
    (hn : x ≠ "__name__") (hdb : (x == ("__debug__" : Str)) = false) (hst : (e :: es).all (fun e => !isStar e) = true) : SE X EX (.Call (.Name x p) (e :: es) [] pos) (dCallB h g) := by
  rw [List.all_cons, Bool.and_eq_true] at hst
  exact pe_mono (pe_callTy hc hg hm hv ha hn hdb (star_no (by simpa using hst.1)) (star_none hst.2)) (rd_cb hs)

/-! ### defs -/
section
variable {k n : Nat} {a : Addr} {fd : FuncData} {ps : List Str} {sp : Sp} {F : List Dt → FR} {x : Str} {sh : Shape} {gv : List Value → List Value → List Value}
theorem run_g {pins : List (Addr × Obj)} {σ : L2.St} {H : Hp} {s : Shared} {Q : VK} {us ws : List Value} {zs : List V} {kw : List (Str × Value)} (F : FnG X.prog X.w X.K X.mg X.base k a fd ps sp) (hg : X.A.guards = some []) (hr : Room k X.A) (hx : Passes (L2.CX X.prog X.w) X EX)
    (I : Inv X pins σ H s) (hb : BindsTo s fd ⟨us, kw⟩ (ps.zip ws)) (rz : Vals zs ws) (h : sp zs H Q EX) : wpAny (model X.prog X.w) X.A (call (.ref a) us kw) (EP X pins σ Q) X.xe s := by
  refine wpAny_call (codeAny_mono (F.run X.A X.stack s H ⟨us, kw⟩ ws zs Q EX hg hr I.env0 hb rz h) fun res s1 hq => ?_)
  cases res with
  | error e => exact hx pins σ H s e s1 I hq
  | ok fl =>
    cases fl with
    | ret u => exact I.after hq
    | next => exact hq.elim
    | brk => exact hq.elim
    | cont => exact hq.elim
def dCall (F : List Dt → FR) (sh : Shape) (g gk : DA) : DE := fun env => (g env).bind fun p => (gk p.2).bind fun q =>
  if p.1.length = sh.np ∧ q.1.length = sh.ks.length ∧ sh.src.all (Src.ok sh.np sh.ks.length) = true then asRes q.2 (F (sh.src.map (Src.d p.1 q.1))) else .bad
theorem rd_call {W : Wd} {V2 : List V → List V → L2.St → Hp → VK → Prop} (hV : ∀ vs zs σ H Q, vs.length = sh.np → zs.length = sh.ks.length → spF W n false F (sh.src.map (Src.v vs zs)) H Q EX → V2 vs zs σ H Q) (hl : sh.src.length = n) :
    ∀ σ H Q, rdE W EX (dCall F sh g gk) σ H Q → rdA W EX g σ H fun vs H1 => rdA W EX gk σ H1 fun zs H2 => V2 vs zs σ H2 Q := fun σ H Q ⟨Fm, Hb, ia, env, A, p⟩ =>
  ⟨Fm, Hb, ia, env, A, Post.bind p fun ds e1 H1 Hb1 s1 A1 q1 vs hv => ⟨Fm, Hb1, ia, e1, A1, Post.bind q1 fun es e2 H2 Hb2 s2 A2 q2 zs hz => by
    dsimp only at q2
    split at q2
    · rename_i hc
      have r1 := RdL.mono s2 _ _ hv
      refine hV vs zs σ H2 Q (by rw [← hv.len]; exact hc.1) (by rw [← hz.len]; exact hc.2.1) ?_
      exact call_sp A2 (src_rd r1 hz (by rw [hc.1, hc.2.1]; exact hc.2.2)) (by rw [List.length_map]; exact hl) q2
    · exact q2.elim⟩⟩
theorem se_call (Fo : FnG X.prog X.w X.K X.mg X.base k a fd ps (spF (wd X) n false F)) (so : ShapeOk X.K fd ps sh gv) (hl : sh.src.length = n) (hgd : X.A.guards = some []) (hr : Room k X.A) (hx : Passes (L2.CX X.prog X.w) X EX) (hg : Gl X x) (hm : X.mg x = some (.ref a)) (hk : PySem.W.keepIn X.K (.ref a) = true)
    (hdb : (x == ("__debug__" : Str)) = false) (ha : SA X EX es g) (hkw : SK X EX kws gk) (hst : es.all (fun e => !isStar e) = true) (hko : kwsOk kws = true) (hks : kws.map kwName = sh.ks) (hn0 : es = [] → g = aNil) (hk0 : kws = [] → gk = aNil) :
    SE X EX (.Call (.Name x p) es kws pos) (dCall F sh g gk) := by
  refine ⟨fun pins s σ H Q I h => ?_⟩
  have h' := rd_call (W := wd X) (EX := EX) (g := g) (gk := gk) (V2 := fun vs zs σ H Q => vs.length = sh.np ∧ zs.length = sh.ks.length ∧ spF (wd X) n false F (sh.src.map (Src.v vs zs)) H Q EX) (fun vs zs σ H Q a b c => ⟨a, b, c⟩) hl σ H Q h
  refine wpAny_Call_Name_kw (ld_glob I hg hm ?_ hdb)
  obtain ⟨k1, k2, k3⟩ := kw_all (env := X.env) (pos := pos) hko
  have fin : ∀ {vs zs : List V} {us ws : List Value} {H2 : Hp} {s2 : Shared}, Inv X pins σ H2 s2 → Vals vs us → Vals zs ws → (vs.length = sh.np ∧ zs.length = sh.ks.length ∧ spF (wd X) n false F (sh.src.map (Src.v vs zs)) H2 Q EX) →
      wpAny (model X.prog X.w) X.A (call (.ref a) us (sh.ks.zip ws)) (EP X pins σ Q) X.xe s2 := fun {vs zs us ws H2 s2} I2 r1 r2 hq =>
    run_g Fo hgd hr hx I2 (so.to s2 us ws I2.kIn (by rw [← r1.length]; exact hq.1) (by rw [← r2.length]; exact hq.2.1)) (so.rel r1 r2 hq.1 hq.2.1) hq.2.2
  have nil_of : ∀ {σ : L2.St} {H : Hp} {Q : List V → Hp → Prop}, rdA (wd X) EX aNil σ H Q → Q [] H := fun ⟨Fm, Hb, ia, env, A, p⟩ => p _ Hb (Same.refl _) A [] rfl
  cases es with
  | nil =>
    obtain rfl := hn0 rfl
    have h1 := nil_of h'
    cases kws with
    | nil =>
      obtain rfl := hk0 rfl
      have e0 : sh.ks = [] := by rw [← hks]; rfl
      have q := fin (us := []) (ws := []) I .nil .nil (nil_of h1)
      rw [e0] at q
      exact PySem.W.callWith_K0 I.kIn hk q
    | cons kw kws =>
      refine PySem.W.callWith_KW0 (h₀ := X.base) I.ok.mod.kin hk k1 (thn (hkw.run pos pins s σ H _ I h1) fun ws s2 ⟨zs, H2, I2, r2, hq⟩ => ⟨I2.kIn, ?_⟩) (by rw [k2]; rfl)
      rw [k3, hks]
      exact fin (us := []) I2 .nil r2 hq
  | cons e es =>
    rw [List.all_cons, Bool.and_eq_true] at hst
    have he : isStar e = false := by simpa using hst.1
    cases kws with
    | nil =>
      obtain rfl := hk0 rfl
      have e0 : sh.ks = [] := by rw [← hks]; rfl
      refine PySem.W.callWith_K (h₀ := X.base) I.ok.mod.kin hk (thn (ha.run pos pins s σ H _ I h') fun us s1 ⟨vs, H1, I1, r1, hq⟩ => ⟨I1.kIn, ?_⟩) (star_no he) (star_none hst.2)
      have q := fin (ws := []) I1 r1 .nil (nil_of hq)
      rw [e0] at q
      exact q
    | cons kw kws =>
      refine PySem.W.callWith_KW (h₀ := X.base) I.ok.mod.kin hk k1 (thn (ha.run pos pins s σ H _ I h') fun us s1 ⟨vs, H1, I1, r1, hq⟩ => ?_) ?_ (star_no he)
      · refine thn (hkw.run pos pins s1 σ H1 _ I1 hq) fun ws s2 ⟨zs, H2, I2, r2, hq⟩ => ⟨I2.kIn, ?_⟩
        rw [k3, hks]
        exact fin I2 r1 r2 hq
      · rw [k2, star_no he]
        show ((false || (backTo pos (starEach es X.env)).any (·.1)) || false) = false
        rw [star_none hst.2]
        rfl
/-- the first argument is lent -/
def asIo (i : Nat) (env : Env') (n : Nat) (F : List Dt → FR) (ds : List Dt) : Res (Val × Env') := if ds.length + 1 = n then match env[i]? with
  | some (.own d) => asResIo env i Slot.own (F (d :: ds))
  | some (.io d) => asResIo env i Slot.io (F (d :: ds))
  | _ => .bad else .bad
def isOwn : Slot → Bool
  | .own _ => true
  | .io _ => true
  | _ => false
def dCallIo (i n : Nat) (F : List Dt → FR) (g : DA) : DE := fun env => if (env[i]?.map isOwn) = some true then (g env).bind fun p => asIo i p.2 n F p.1 else .bad
theorem se_callIo {i : Nat} {ex : Expr} (Fo : FnG X.prog X.w X.K X.mg X.base k a fd ps (spF (wd X) n true F)) (hb : ∀ (s : Shared) (us : List Value), X.K.In s.heap → us.length = n → BindsTo s fd ⟨us, []⟩ (ps.zip us)) (hgd : X.A.guards = some []) (hr : Room k X.A) (hx : Passes (L2.CX X.prog X.w) X EX) (hg : Gl X x) (hm : X.mg x = some (.ref a))
    (hk : PySem.W.keepIn X.K (.ref a) = true) (hdb : (x == ("__debug__" : Str)) = false) (h0 : PE X ex (tVar i)) (ha : SA X EX es g) (hst : (ex :: es).all (fun e => !isStar e) = true) : SE X EX (.Call (.Name x p) (ex :: es) [] pos) (dCallIo i n F g) := by
  rw [List.all_cons, Bool.and_eq_true] at hst
  have he : isStar ex = false := by simpa using hst.1
  have hA : PA X (ex :: es) (tCons (tVar i) (rdA (wd X) EX g)) := pa_cons h0 ha (star_no he)
  refine ⟨fun pins s σ H Q I h => ?_⟩
  have key : tCons (tVar i) (rdA (wd X) EX g) σ H fun vs H1 => spF (wd X) n true F vs H1 Q EX := by
    obtain ⟨Fm, Hb, ia, env, A, p⟩ := h
    unfold dCallIo at p
    split at p
    · rename_i ho
      obtain ⟨sl, h1, h2⟩ := Option.map_eq_some_iff.mp ho
      obtain ⟨d, hd⟩ : ∃ d, Owns env i d := by
        cases sl with
        | own d => exact ⟨d, .inl h1⟩
        | io d => exact ⟨d, .inr h1⟩
        | un => cases h2
        | imm d => cases h2
      obtain ⟨b, g1, _⟩ := A.own i d hd
      refine ⟨.ref b, g1, Fm, Hb, ia, env, A, Post.bind p fun ds e1 H1 Hb1 s1 A1 q1 vs hv => ?_⟩
      dsimp only [asIo] at q1
      split at q1
      · rename_i hn
        have hn' : vs.length + 1 = n := by rw [← hv.len]; exact hn
        split at q1
        · rename_i d' hd'
          exact call_spIo A1 (.inl ⟨hd', rfl⟩) g1 hv hn' q1
        · rename_i d' hd'
          exact call_spIo A1 (.inr ⟨hd', rfl⟩) g1 hv hn' q1
        · exact q1.elim
      · exact q1.elim
    · exact p.elim
  refine wpAny_Call_Name_kw (ld_glob I hg hm ?_ hdb)
  refine PySem.W.callWith_K (h₀ := X.base) I.ok.mod.kin hk (thn (hA.run pos pins s σ H _ I key) fun us s1 ⟨vs, H1, I1, r1, hq⟩ => ⟨I1.kIn, ?_⟩) (star_no he) (star_none hst.2)
  obtain ⟨_, _, _, _, _, hl, _⟩ := id hq
  exact run_g Fo hgd hr hx I1 (hb s1 us I1.kIn (by rw [← r1.length]; exact hl)) r1 hq
end
end
end G


set_option maxRecDepth 100000
set_option maxHeartbeats 4000000
/-! Kern9: statements, targets, loops. -/
namespace G
open PySem PySem.Spec PyProof.Rows L2
variable [TabT]

/-! ### targets -/
abbrev DG := Dt → Env' → Res Env'
abbrev DGs := List Dt → Env' → Res Env'
/-- a slot that may be stored to -/
def canSet (env : Env') (i : Nat) : Bool := match env[i]? with
  | none => false
  | some (.io _) => false
  | some _ => true
def gSet (i : Nat) : DG := fun d env => if canSet env i then .ok (env.set i (.imm d)) else .bad
def gsNil : DGs := fun ds env => match ds with
  | [] => .ok env
  | _ :: _ => .bad
def gsCons (g : DG) (h : DGs) : DGs := fun ds env => match ds with
  | [] => .bad
  | d :: r => (g d env).bind fun e => h r e
def gTupD (n : Nat) (h : DGs) : DG := fun d env => match d with
  | .tup ds => if ds.length = n then h ds env else .bad
  | _ => .bad
/-- what is wanted behind a target's store; ts: the slots that it may store to -/
def PostG (W : Wd) (Fm Hb : Hp) (ia : Option Addr) (ts : List Nat) (σ : L2.St) (H : Hp) (Q : L2.St → Hp → Prop) : Res Env' → Prop
  | .ok e => ∀ σ', (∀ vs : List Nat, (∀ t ∈ ts, t ∈ vs) → wipe σ' vs = wipe σ vs) → Agr W Fm Hb ia e σ' H → Q σ' H
  | _ => False
def rdG (W : Wd) (ts : List Nat) (g : DG) : TG := fun x σ H Q => ∃ Fm Hb ia env d, Agr W Fm Hb ia env σ H ∧ RdD W Hb d x ∧ PostG W Fm Hb ia ts σ H Q (g d env)
def rdGs (W : Wd) (ts : List Nat) (g : DGs) : TGs := fun xs σ H Q => ∃ Fm Hb ia env ds, Agr W Fm Hb ia env σ H ∧ RdL W Hb ds xs ∧ PostG W Fm Hb ia ts σ H Q (g ds env)
theorem pg_mono {X : Cx} {e : Expr} {t t' : TG} (h : PG X e t) (w : ∀ x σ H Q, t' x σ H Q → t x σ H Q) : PG X e t' := ⟨fun pins s σ H v u Q I r q => h.run pins s σ H v u Q I r (w v σ H Q q)⟩
theorem pgs_mono {X : Cx} {e : List Expr} {t t' : TGs} (h : PGs X e t) (w : ∀ x σ H Q, t' x σ H Q → t x σ H Q) : PGs X e t' := ⟨fun pins s σ H v u Q I r q => h.run pins s σ H v u Q I r (w v σ H Q q)⟩
abbrev SG (X : Cx) (e : Expr) (ts : List Nat) (g : DG) : Prop := PG X e (rdG (wd X) ts g)
abbrev SGs (X : Cx) (e : List Expr) (ts : List Nat) (g : DGs) : Prop := PGs X e (rdGs (wd X) ts g)
theorem wipe_at {σ : L2.St} {i : Nat} : ∀ {vs : List Nat}, i ∈ vs → ∀ o, (wipe σ vs)[i]? = some o → o = none
  | [], h, _, _ => by cases h
  | v :: vs, h, o, e => by
    unfold wipe at e
    by_cases hv : v = i
    · subst hv
      by_cases hl : v < (wipe σ vs).length
      · rw [List.getElem?_set_self hl] at e
        exact (Option.some.inj e).symm
      · rw [List.getElem?_eq_none (by rw [List.length_set]; omega)] at e
        cases e
    · rw [List.getElem?_set_ne hv] at e
      rcases List.mem_cons.mp h with z | z
      · exact absurd z.symm hv
      · exact wipe_at z o e
theorem wipe_out' {σ : L2.St} {i : Nat} : ∀ {vs : List Nat}, i ∉ vs → (wipe σ vs)[i]? = σ[i]? := wipe_out
theorem wipe_ext {σ σ' : L2.St} {vs : List Nat} (hl : σ'.length = σ.length) (h : ∀ i, i ∉ vs → σ'[i]? = σ[i]?) : wipe σ' vs = wipe σ vs := by
  apply List.ext_getElem?
  intro i
  by_cases hi : i ∈ vs
  · have e1 : (wipe σ' vs).length = (wipe σ vs).length := by rw [wipe_length, wipe_length, hl]
    cases q : (wipe σ vs)[i]? with
    | none => exact List.getElem?_eq_none (by rw [e1]; exact List.getElem?_eq_none_iff.mp q)
    | some o =>
      have z := wipe_at hi o q
      subst z
      have hi' : i < (wipe σ' vs).length := by rw [e1]; exact (List.getElem?_eq_some_iff.mp q).1
      have q' := List.getElem?_eq_getElem hi'
      rw [q']
      rw [wipe_at hi _ q']
  · rw [wipe_out hi, wipe_out hi]
    exact h i hi
theorem wipe_set {σ : L2.St} {i : Nat} {o : Option V} {vs : List Nat} (h : i ∈ vs) : wipe (σ.set i o) vs = wipe σ vs :=
  wipe_ext (by rw [List.length_set]) fun j hj => List.getElem?_set_ne (fun z => hj (by rw [← z]; exact h))
theorem canSet_ok {env : Env'} {i : Nat} (h : canSet env i = true) : i < env.length ∧ ∀ e, env[i]? ≠ some (.io e) := by
  unfold canSet at h
  split at h
  · cases h
  · cases h
  · rename_i s hne hs
    refine ⟨(List.getElem?_eq_some_iff.mp hs).1, fun e q => ?_⟩
    rw [hs] at q
    exact hne e (Option.some.inj q)
section
variable {X : Cx} {EX : XK} {pos : Pos} {e a b c : Expr} {es : List Expr} {fa fb : DE} {ta tb : DT} {ts ts' : List Nat} {g : DG} {h : DGs}
theorem sg_name {i : Nat} (hp : PG X e (gName i)) (hi : i ∈ ts) : SG X e ts (gSet i) := pg_mono hp fun x σ H Q ⟨Fm, Hb, ia, env, d, A, r, p⟩ => by
  unfold gSet at p
  split at p
  · rename_i hc
    obtain ⟨h1, h2⟩ := canSet_ok hc
    exact p _ (fun vs hvs => wipe_set (hvs i hi)) (A.setImm h1 h2 r)
  · exact p.elim
theorem sgs_nil : SGs X [] ts gsNil := pgs_mono pgs_nil fun xs σ H Q ⟨Fm, Hb, ia, env, ds, A, r, p⟩ => by
  cases ds with
  | nil => exact ⟨r, p σ (fun _ _ => rfl) A⟩
  | cons _ _ => exact p.elim
theorem sgs_cons (h1 : SG X e ts g) (h2 : SGs X es ts h) (hs : (assignEach (e :: es) X.env).map (·.2) = assign e X.env :: (assignEach es X.env).map (·.2)) : SGs X (e :: es) ts (gsCons g h) := pgs_mono (pgs_cons h1 h2 hs) fun xs σ H Q ⟨Fm, Hb, ia, env, ds, A, r, p⟩ => by
  cases ds with
  | nil => exact p.elim
  | cons d ds =>
    obtain ⟨v, vr, rfl, r1, r2⟩ := r
    refine ⟨v, vr, rfl, Fm, Hb, ia, env, d, A, r1, ?_⟩
    have p' : PostG (wd X) Fm Hb ia ts σ H Q ((g d env).bind fun e => h ds e) := p
    cases q : g d env with
    | ok e1 =>
      rw [q] at p'
      intro σ1 w1 A1
      refine ⟨Fm, Hb, ia, e1, ds, A1, r2, ?_⟩
      have p2 : PostG (wd X) Fm Hb ia ts σ H Q (h ds e1) := p'
      cases q2 : h ds e1 with
      | ok e2 =>
        rw [q2] at p2
        exact fun σ2 w2 A2 => p2 σ2 (fun vs hvs => (w2 vs hvs).trans (w1 vs hvs)) A2
      | err x => rw [q2] at p2; exact p2.elim
      | bad => rw [q2] at p2; exact p2.elim
    | err x => rw [q] at p'; exact p'.elim
    | bad => rw [q] at p'; exact p'.elim
theorem sg_tup {n k : Nat} (hc : X.calm = true) (h1 : SGs X es ts h) (hn : (assignEach es X.env).length = n) (hst : (assignEach es X.env).findIdx? (·.1) = none) : SG X (.Tuple es k pos) ts (gTupD n h) := pg_mono (pg_tup hc h1 hn hst) fun x σ H Q ⟨Fm, Hb, ia, env, d, A, r, p⟩ => by
  cases d <;> first
    | exact p.elim
    | skip
  rename_i ds
  obtain ⟨a, vs, rfl, r1, r2⟩ := r
  unfold gTupD at p
  dsimp only at p
  split at p
  · rename_i hn'
    exact ⟨a, vs, rfl, sqt_of (A.bs.hb _ _ r1), by rw [← r2.len]; exact hn', Fm, Hb, ia, env, ds, A, r2, p⟩
  · exact p.elim

/-! ### statements -/
def sNext : DS := fun env => .ok (.nx, env)
def sBad : DS := fun _ => .bad
def sBreak : DS := fun env => .ok (.bk, env)
def sCont : DS := fun env => .ok (.ct, env)
def seqK (g : DS) : Fl × Env' → Res (Fl × Env')
  | (.nx, e) => g e
  | (.rt v, e) => .ok (.rt v, e)
  | (.bk, e) => .ok (.bk, e)
  | (.ct, e) => .ok (.ct, e)
def sSeq (f g : DS) : DS := fun env => (f env).bind (seqK g)
def sIf (t : DT) (f g : DS) : DS := fun env => (t env).bind fun p => if p.1 = true then f p.2 else g p.2
def sRet (f : DE) : DS := fun env => (f env).bind fun p => .ok (.rt p.1, p.2)
def sRetN : DS := fun env => .ok (.rt (.imm .non), env)
def sExpr (f : DE) : DS := fun env => (f env).bind fun p => .ok (.nx, p.2)
def setVal (i : Nat) : Val × Env' → Res (Fl × Env')
  | (v, e) => if canSet e i then match v with
    | .imm d => .ok (.nx, e.set i (.imm d))
    | .fresh d => .ok (.nx, e.set i (.own d)) else .bad
def sSet (i : Nat) (f : DE) : DS := fun env => (f env).bind (setVal i)
def gDone : Res Env' → Res (Fl × Env')
  | .ok e => .ok (.nx, e)
  | _ => .bad
def sAsg (g : DG) (f : DE) : DS := fun env => (f env).bind fun p => gDone (g p.1.d p.2)
/-- two names at once -/
def sPar (i j : Nat) (f : DA) : DS := fun env => (f env).bind fun p => match p.1 with
  | [d, d'] => if canSet p.2 i && canSet p.2 j then .ok (.nx, (p.2.set i (.imm d)).set j (.imm d')) else .bad
  | _ => .bad
variable {f f1 f2 : DS} {st : Stmt} {sts : List Stmt}
theorem ss_next (h : PS X st tNext) : SS X EX st sNext := ps_mono h fun D σ H ⟨Fm, Hb, ia, env, A, p⟩ => p σ H Hb (Same.refl _) A
theorem ss_break (h : PS X st tBreak) : SS X EX st sBreak := ps_mono h fun D σ H ⟨Fm, Hb, ia, env, A, p⟩ => p σ H Hb (Same.refl _) A
theorem ss_cont (h : PS X st tCont) : SS X EX st sCont := ps_mono h fun D σ H ⟨Fm, Hb, ia, env, A, p⟩ => p σ H Hb (Same.refl _) A
theorem ss_bad : SS X EX st sBad := ps_mono ps_never fun D σ H ⟨Fm, Hb, ia, env, A, p⟩ => p.elim
theorem sss_nil : SSs X EX [] sNext := pss_mono pss_nil fun D σ H ⟨Fm, Hb, ia, env, A, p⟩ => p σ H Hb (Same.refl _) A
theorem seq_post {W : Wd} {Fm Hb : Hp} {ia : Option Addr} {D : Ends} {r : Res (Fl × Env')} (p : PostS W EX Fm Hb ia D (r.bind (seqK f2))) : PostS W EX Fm Hb ia { D with nx := rdS W EX f2 D } r := by
  cases r with
  | ok q =>
    obtain ⟨fl, e⟩ := q
    cases fl with
    | nx => exact fun σ' H' Hb' s A => ⟨Fm, Hb', ia, e, A, PostS.mono s p⟩
    | rt v => exact fun σ' H' Hb' s A => p σ' H' Hb' s A
    | bk => exact fun σ' H' Hb' s A => p σ' H' Hb' s A
    | ct => exact fun σ' H' Hb' s A => p σ' H' Hb' s A
  | err x => exact p
  | bad => exact p.elim
theorem sss_cons (h1 : SS X EX st f1) (h2 : SSs X EX sts f2) : SSs X EX (st :: sts) (sSeq f1 f2) := pss_mono (pss_cons h1 h2) fun D σ H ⟨Fm, Hb, ia, env, A, p⟩ => ⟨Fm, Hb, ia, env, A, seq_post p⟩
theorem sss_one (h1 : SS X EX st f1) : SSs X EX [st] f1 := pss_one h1
theorem ss_if {p q : List Stmt} (hc : ST X EX c ta) (h1 : SSs X EX p f1) (h2 : SSs X EX q f2) : SS X EX (.If c p q pos) (sIf ta f1 f2) := ps_mono (ps_if hc h1 h2) fun D σ H ⟨Fm, Hb, ia, env, A, p⟩ =>
  ⟨Fm, Hb, ia, env, A, Post.bindS p fun k e1 H1 Hb1 s1 A1 q1 => by
    cases k with
    | true => exact iteT ⟨Fm, Hb1, ia, e1, A1, q1⟩
    | false => exact iteF ⟨Fm, Hb1, ia, e1, A1, q1⟩⟩
theorem ss_ret (ha : SE X EX e fa) : SS X EX (.Return (some e) pos) (sRet fa) := ps_mono (ps_ret ha) fun D σ H ⟨Fm, Hb, ia, env, A, p⟩ =>
  ⟨Fm, Hb, ia, env, A, Post.bindS p fun val e1 H1 Hb1 s1 A1 q1 v hv => q1 σ H1 Hb1 (Same.refl _) A1 v hv⟩
theorem ss_retN : SS X EX (.Return none pos) sRetN := ps_mono ps_retN fun D σ H ⟨Fm, Hb, ia, env, A, p⟩ => p σ H Hb (Same.refl _) A _ rfl
theorem ss_expr (ha : SE X EX e fa) (hs : swapsWith e none pos.line X.env = pure false) : SS X EX (.Expr e pos) (sExpr fa) := ps_mono (ps_expr ha hs) fun D σ H ⟨Fm, Hb, ia, env, A, p⟩ =>
  ⟨Fm, Hb, ia, env, A, Post.bindS p fun val e1 H1 Hb1 s1 A1 q1 v hv => q1 σ H1 Hb1 (Same.refl _) A1⟩
theorem rd_set {W : Wd} {i : Nat} : ∀ D σ H, rdS W EX (sSet i fa) D σ H → tAsg (rdE W EX fa) (gName i) D σ H := fun D σ H ⟨Fm, Hb, ia, env, A, p⟩ =>
  ⟨Fm, Hb, ia, env, A, Post.bindS p fun val e1 H1 Hb1 s1 A1 q1 v hv => by
    unfold setVal at q1
    dsimp only at q1
    split at q1
    · rename_i hc
      obtain ⟨h1, h2⟩ := canSet_ok hc
      cases val with
      | imm d => exact q1 _ H1 Hb1 (Same.refl _) (A1.setImm h1 h2 hv)
      | fresh d =>
        obtain ⟨p, rfl, g1, g2, g3, g4⟩ := hv
        exact q1 _ H1 Hb1 (Same.refl _) (A1.setOwn h1 h2 g1 g2 g3 g4)
    · exact q1.elim⟩
theorem ss_set {i : Nat} (h : PS X st (tAsg (rdE (wd X) EX fa) (gName i))) : SS X EX st (sSet i fa) := ps_mono h rd_set
theorem ss_asg (hg : SG X a ts g) (ha : SE X EX e fa) (hs : swapsWithSole [a] e pos.line X.env = pure false) (hw : swappedStores [a] e X.env = pure none) (h1 : (assignEach [a] X.env).map (·.2) = [assign a X.env]) : SS X EX (.Assign [a] e pos) (sAsg g fa) := ps_mono (ps_asg ha hg hs hw h1) fun D σ H ⟨Fm, Hb, ia, env, A, p⟩ =>
  ⟨Fm, Hb, ia, env, A, Post.bindVS p fun val e1 v H1 Hb1 s1 A1 r1 q1 => ⟨Fm, Hb1, ia, e1, val.d, A1, r1, by
    dsimp only at q1
    cases q : g val.d e1 with
    | ok e2 =>
      rw [q] at q1
      exact fun σ' _ A2 => q1 σ' H1 Hb1 (Same.refl _) A2
    | err x => rw [q] at q1; exact q1.elim
    | bad => rw [q] at q1; exact q1.elim⟩⟩
end
end G


set_option maxRecDepth 100000
set_option maxHeartbeats 4000000
/-! Kern10: stores into lists; two names at once; while, for; what is walked. -/
namespace G
open PySem PySem.Spec PyProof.Rows L2
variable [TabT]

/-! ### stores into what a name owns -/
def slotWr (i : Nat) (env : Env') (f : Dt → Option Dt) : Res (Fl × Env') := match env[i]? with
  | some (.own d) => match f d with
    | some d' => .ok (.nx, env.set i (.own d'))
    | none => .bad
  | some (.io d) => match f d with
    | some d' => .ok (.nx, env.set i (.io d'))
    | none => .bad
  | _ => .bad
def addD (x : Dt) : Dt → Option Dt
  | .lst ds => if ds.length < sizeLine then some (.lst (ds ++ [x])) else none
  | _ => none
def extD (x : Dt) : Dt → Option Dt
  | .lst ds => match x with
    | .lst es => if ds.length + es.length ≤ sizeLine then some (.lst (ds ++ es)) else none
    | _ => none
  | _ => none
def putD (k x : Dt) : Dt → Option Dt
  | .lst ds => match k with
    | .int n => match L2.ixN ds.length n with
      | some j => some (.lst (ds.set j x))
      | none => none
    | _ => none
  | _ => none
def isLst : Slot → Bool
  | .own (.lst _) => true
  | .io (.lst _) => true
  | _ => false
def sApp (i : Nat) (f : DE) : DS := fun env => if (env[i]?.map isLst) = some true then (f env).bind fun p => slotWr i p.2 (addD p.1.d) else .bad
def sExt (i : Nat) (f : DE) : DS := fun env => if (env[i]?.map isLst) = some true then (f env).bind fun p => slotWr i p.2 (extD p.1.d) else .bad
def sPut (i : Nat) (fb f : DE) : DS := fun env => (f env).bind fun p => if (p.2[i]?.map isLst) = some true then (fb p.2).bind fun q => slotWr i q.2 (putD q.1.d p.1.d) else .bad
section
variable {W : Wd} {EX : XK} {Fm Hb H : Hp} {ia : Option Addr} {env : Env'} {σ : L2.St} {D : Ends}
/-- a list that a name owns -/
theorem lst_at (A : Agr W Fm Hb ia env σ H) {i : Nat} (h : (env[i]?.map isLst) = some true) : ∃ a vs, σ[i]? = some (some (.ref a)) ∧ H a = some (.lst vs) := by
  obtain ⟨s, h1, h2⟩ := Option.map_eq_some_iff.mp h
  cases s with
  | own d =>
    cases d <;> first
      | cases h2
      | skip
    obtain ⟨a, g1, _, _, vs, g2, _⟩ := A.own i _ (.inl h1)
    exact ⟨a, vs, g1, g2⟩
  | io d =>
    cases d <;> first
      | cases h2
      | skip
    obtain ⟨a, g1, _, _, vs, g2, _⟩ := A.own i _ (.inr h1)
    exact ⟨a, vs, g1, g2⟩
  | un => cases h2
  | imm d => cases h2
theorem slot_wr {f : Dt → Option Dt} {i : Nat} (A : Agr W Fm Hb ia env σ H) (p : PostS W EX Fm Hb ia D (slotWr i env f)) :
    ∃ a d d' mk, σ[i]? = some (some (.ref a)) ∧ f d = some d' ∧ OwnAt W Hb H a d ∧ (∀ o, OwnAt W Hb (upd H a o) a d' → Agr W Fm Hb ia (env.set i mk) σ (upd H a o)) ∧ PostS W EX Fm Hb ia D (.ok (.nx, env.set i mk)) := by
  unfold slotWr at p
  split at p
  · rename_i d hd
    cases q : f d with
    | some d' =>
      rw [q] at p
      obtain ⟨a, g1, g2, g3, g4⟩ := A.own i d (.inl hd)
      exact ⟨a, d, d', .own d', g1, q, g4, fun o ho => A.write (d := d) (.inl hd) (.inl ⟨hd, rfl⟩) g1 ho, p⟩
    | none => rw [q] at p; exact p.elim
  · rename_i d hd
    cases q : f d with
    | some d' =>
      rw [q] at p
      obtain ⟨a, g1, g2, g3, g4⟩ := A.own i d (.inr hd)
      exact ⟨a, d, d', .io d', g1, q, g4, fun o ho => A.write (d := d) (.inr hd) (.inr ⟨hd, rfl⟩) g1 ho, p⟩
    | none => rw [q] at p; exact p.elim
  · exact p.elim
end
section
variable {X : Cx} {EX : XK} {pos : Pos} {e a b c : Expr} {es : List Expr} {fa fb : DE} {st : Stmt}
theorem ss_app {i : Nat} (h : PS X st (tDrop (tBM X.K "list" rAppend (tVar i) (tCons (rdE (wd X) EX fa) tNil)))) : SS X EX st (sApp i fa) := ps_mono h fun D σ H ⟨Fm, Hb, ia, env, A, p⟩ => by
  unfold sApp at p
  split at p
  · rename_i ho
    obtain ⟨a, vs, g1, g2⟩ := lst_at A ho
    refine ⟨.ref a, g1, .inl ⟨rfl, vs, .inl (.inl g2)⟩, Fm, Hb, ia, env, A, Post.bindVS p fun val e1 v H1 Hb1 s1 A1 r1 q1 => ?_⟩
    obtain ⟨a', d, d', mk, k1, k2, k3, k4, k5⟩ := slot_wr A1 q1
    rw [g1] at k1
    cases k1
    cases d <;> first
      | cases k2
      | skip
    rename_i ds
    simp only [addD] at k2
    split at k2
    · rename_i hz
      cases k2
      obtain ⟨ws, w1, w2⟩ := k3
      refine ⟨a, ws, v, rfl, rfl, w1, by rw [← w2.len]; exact hz, ?_⟩
      exact k5 σ _ Hb1 (Same.refl _) (k4 _ ⟨_, upd_same, w2.append ⟨v, [], rfl, r1, rfl⟩⟩)
    · cases k2
  · exact p.elim
theorem ss_ext {i : Nat} (h : PS X st (tDrop (tBM X.K "list" rExtend (tVar i) (tCons (rdE (wd X) EX fa) tNil)))) : SS X EX st (sExt i fa) := ps_mono h fun D σ H ⟨Fm, Hb, ia, env, A, p⟩ => by
  unfold sExt at p
  split at p
  · rename_i ho
    obtain ⟨a, vs, g1, g2⟩ := lst_at A ho
    refine ⟨.ref a, g1, .inl ⟨rfl, vs, .inl (.inl g2)⟩, Fm, Hb, ia, env, A, Post.bindVS p fun val e1 v H1 Hb1 s1 A1 r1 q1 => ?_⟩
    obtain ⟨a', d, d', mk, k1, k2, k3, k4, k5⟩ := slot_wr A1 q1
    rw [g1] at k1
    cases k1
    cases d <;> first
      | cases k2
      | skip
    rename_i ds
    dsimp only at k2 r1
    generalize val.d = x at k2 r1
    cases x <;> first
      | cases k2
      | skip
    rename_i es
    simp only [extD] at k2
    split at k2
    · rename_i hz
      cases k2
      obtain ⟨ws, w1, w2⟩ := k3
      obtain ⟨b, zs, rfl, z1, z2⟩ := r1
      refine ⟨a, b, ws, zs, rfl, rfl, w1, A1.bs.hb _ _ z1, by rw [← w2.len, ← z2.len]; exact hz, ?_⟩
      exact k5 σ _ Hb1 (Same.refl _) (k4 _ ⟨_, upd_same, w2.append z2⟩)
    · cases k2
  · exact p.elim
theorem ss_put {i : Nat} (h : PS X st (tAsg (rdE (wd X) EX fa) (gSub (tVar i) (rdE (wd X) EX fb) rSetL))) : SS X EX st (sPut i fb fa) := ps_mono h fun D σ H ⟨Fm, Hb, ia, env, A, p⟩ =>
  ⟨Fm, Hb, ia, env, A, Post.bindVS p fun val e1 v H1 Hb1 s1 A1 r1 q1 => by
    dsimp only at q1
    split at q1
    · rename_i ho
      obtain ⟨a, vs, g1, g2⟩ := lst_at A1 ho
      refine ⟨.ref a, g1, Fm, Hb1, ia, e1, A1, Post.bindVS q1 fun vk e2 k H2 Hb2 s2 A2 r2 q2 => ?_⟩
      obtain ⟨a', d, d', mk, k1, k2, k3, k4, k5⟩ := slot_wr A2 q2
      rw [g1] at k1
      cases k1
      cases d <;> first
        | cases k2
        | skip
      rename_i ds
      dsimp only at k2 r2
      generalize vk.d = x at k2 r2
      cases x <;> first
        | cases k2
        | skip
      rename_i n
      simp only [putD] at k2
      split at k2
      · rename_i j hj
        cases k2
        obtain ⟨ws, w1, w2⟩ := k3
        refine ⟨a, ws, n, j, rfl, r2, w1, by rw [← w2.len]; exact hj, ?_⟩
        exact k5 σ _ Hb2 (Same.refl _) (k4 _ ⟨_, upd_same, w2.set (RdD.mono s2 _ _ r1) j⟩)
      · cases k2
    · exact q1.elim⟩
theorem ss_par {i j : Nat} {g : DA} (hij : i ≠ j) (h : PS X st (tPar i j (rdA (wd X) EX g))) : SS X EX st (sPar i j g) := ps_mono h fun D σ H ⟨Fm, Hb, ia, env, A, p⟩ =>
  ⟨Fm, Hb, ia, env, A, Post.bindS p fun ds e1 H1 Hb1 s1 A1 q1 vs hv => by
    dsimp only at q1
    split at q1
    · rename_i d d'
      split at q1
      · rename_i hc
        rw [Bool.and_eq_true] at hc
        obtain ⟨v, w, rfl, r1, r2⟩ := hv.two
        obtain ⟨c1, c2⟩ := canSet_ok hc.1
        obtain ⟨c3, c4⟩ := canSet_ok hc.2
        refine ⟨v, w, rfl, ?_⟩
        exact q1 _ H1 Hb1 (Same.refl _) ((A1.setImm c1 c2 r1).setImm (by rw [List.length_set]; exact c3) (fun x => by rw [List.getElem?_set_ne hij]; exact c4 x) r2)
      · exact q1.elim
    · exact q1.elim⟩
/-- x op= e -/
def sAug (i : Nat) (g : Dt → Dt → Res Val) (f : DE) : DS := fun env => match env[i]? with
  | some (.imm d) => (f env).bind fun p => if canSet p.2 i then match g d p.1.d with
    | .ok (.imm r) => .ok (.nx, p.2.set i (.imm r))
    | _ => .bad else .bad
  | _ => .bad
theorem ss_augI {i : Nat} {f : Int → Int → Int} {g : Dt → Dt → Res Val} (hg : ∀ x y r, g x y = .ok r → ∃ a b, x = .int a ∧ y = .int b ∧ r = .imm (.int (f a b))) (h : PS X st (tAug i (rdE (wd X) EX fa) (ipI f))) : SS X EX st (sAug i g fa) := ps_mono h fun D σ H ⟨Fm, Hb, ia, env, A, p⟩ => by
  unfold sAug at p
  split at p
  · rename_i d hd
    obtain ⟨x, h1, h2⟩ := A.imm i d hd
    refine ⟨x, h1, Fm, Hb, ia, env, A, Post.bindVS p fun val e1 v H1 Hb1 s1 A1 r1 q1 => ?_⟩
    dsimp only at q1
    split at q1
    · rename_i hc
      obtain ⟨c1, c2⟩ := canSet_ok hc
      split at q1
      · rename_i r hr
        obtain ⟨a, b, rfl, e2, e3⟩ := hg _ _ _ hr
        cases e3
        rw [e2] at r1
        exact ⟨a, b, h2, r1, q1 _ H1 Hb1 (Same.refl _) (A1.setImm c1 c2 rfl)⟩
      · exact q1.elim
    · exact q1.elim
  · exact p.elim

/-! ### while -/
def sWhile (t : DT) (f : DS) : Nat → DS
  | 0 => fun _ => .bad
  | n + 1 => fun env => (t env).bind fun p => if p.1 = true then (f p.2).bind fun q => match q.1 with
    | .nx => sWhile t f n q.2
    | .ct => sWhile t f n q.2
    | .bk => .ok (.nx, q.2)
    | .rt v => .ok (.rt v, q.2) else .ok (.nx, p.2)
variable {t : DT} {f : DS} {body : List Stmt}
theorem loop_post {W : Wd} {Fm Hb : Hp} {ia : Option Addr} {D : Ends} {N : L2.St → Hp → Prop} {k : Env' → Res (Fl × Env')} {r : Res (Fl × Env')} (p : PostS W EX Fm Hb ia D (r.bind fun q => match q.1 with
    | .nx => k q.2
    | .ct => k q.2
    | .bk => .ok (.nx, q.2)
    | .rt v => .ok (.rt v, q.2)))
    (h : ∀ e σ' H' Hb', Same Hb Hb' → Agr W Fm Hb' ia e σ' H' → PostS W EX Fm Hb' ia D (k e) → N σ' H') : PostS W EX Fm Hb ia { D with nx := N, ct := N, bk := D.nx } r := by
  cases r with
  | ok q =>
    obtain ⟨fl, e⟩ := q
    cases fl with
    | nx => exact fun σ' H' Hb' s A => h e σ' H' Hb' s A (PostS.mono s p)
    | rt v => exact fun σ' H' Hb' s A => p σ' H' Hb' s A
    | bk => exact fun σ' H' Hb' s A => p σ' H' Hb' s A
    | ct => exact fun σ' H' Hb' s A => h e σ' H' Hb' s A (PostS.mono s p)
  | err x => exact p
  | bad => exact p.elim
theorem ss_while {n : Nat} (hp : PassesOwn (model X.prog X.w) X.A X.env X.xe) (hc : ST X EX c t) (hb : SSs X EX body f) : SS X EX (.While c body [] pos) (sWhile t f n) := ps_mono (ps_while hp hc hb) fun D σ H ⟨Fm, Hb, ia, env, A, p⟩ =>
  ⟨fun m σ' H' => ∃ Hb' e, Agr (wd X) Fm Hb' ia e σ' H' ∧ PostS (wd X) EX Fm Hb' ia D (sWhile t f m e), ⟨n, Hb, env, A, p⟩, fun m σ1 H1 ⟨Hb1, e1, A1, p1⟩ => by
    cases m with
    | zero => exact p1.elim
    | succ m =>
      refine ⟨Fm, Hb1, ia, e1, A1, Post.bindS p1 fun k e2 H2 Hb2 s2 A2 q2 => ?_⟩
      cases k with
      | true =>
        refine iteT ⟨fun σ' H' => ∃ Hb' e, Agr (wd X) Fm Hb' ia e σ' H' ∧ PostS (wd X) EX Fm Hb' ia D (sWhile t f m e), fun σ' H' h => ⟨m, Nat.lt_succ_self _, h⟩, Fm, Hb2, ia, e2, A2, ?_⟩
        exact loop_post q2 fun e σ' H' Hb' s A p => ⟨Hb', e, A, p⟩
      | false => exact iteF (q2 σ1 H2 Hb2 (Same.refl _) A2)⟩

/-! ### what is walked -/
/-- the base may grow by tuples that stand -/
def Gro (Hb H Hb1 : Hp) : Prop := Same Hb Hb1 ∧ ∀ a o, Hb1 a = some o → Hb a = some o ∨ ((∃ vs, o = .tup vs) ∧ H a = some o)
theorem Gro.refl {Hb H : Hp} : Gro Hb H Hb := ⟨Same.refl _, fun _ _ h => .inl h⟩
theorem Gro.agr {W : Wd} {Fm Hb H Hb1 : Hp} {ia : Option Addr} {env : Env'} {σ : L2.St} (g : Gro Hb H Hb1) (A : Agr W Fm Hb ia env σ H) : Agr W Fm Hb1 ia env σ H where
  bs := {
    hb := fun a o e => by
      rcases g.2 a o e with h | ⟨_, h⟩
      · exact A.bs.hb a o h
      · exact h
    fm := A.bs.fm
    dj := fun a o e => by
      cases q : Hb1 a with
      | none => rfl
      | some o' =>
        rcases g.2 a o' q with h | ⟨⟨vs, rfl⟩, h⟩
        · rw [A.bs.dj a o e] at h
          cases h
        · rw [A.bs.fm a o e] at h
          cases h
          exact absurd rfl ((A.bs.nt a _ e).ntup vs)
    nt := A.bs.nt
    tb := A.bs.tb
    nb := fun a ps e => by
      rcases g.2 a _ e with h | ⟨⟨vs, h⟩, _⟩
      · exact A.bs.nb a ps h
      · cases h }
  len := A.len
  imm := fun i d e => by
    obtain ⟨v, h1, h2⟩ := A.imm i d e
    exact ⟨v, h1, RdD.mono g.1 _ _ h2⟩
  own := fun i d e => by
    obtain ⟨a, h1, h2, h3, h4⟩ := A.own i d e
    refine ⟨a, h1, ?_, h3, h4.move g.1 fun _ h => h⟩
    cases q : Hb1 a with
    | none => rfl
    | some o =>
      rcases g.2 a o q with h | ⟨⟨vs, rfl⟩, h⟩
      · rw [h2] at h
        cases h
      · exact absurd h (h4.ntup vs)
  inj := A.inj
  io := A.io
  ioh := A.ioh
/-- the i-th turn gives d: the heap stays, or a new tuple is laid; tuples that stood may come to light -/
def Yl (W : Wd) (Hb H : Hp) (d : Dt) (x : V) (H' : Hp) : Prop := ∃ Hb1, Gro Hb H Hb1 ∧ ((H' = H ∧ RdD W Hb1 d x) ∨ ∃ T vs es, x = .ref T ∧ H T = none ∧ H' = upd H T (.tup vs) ∧ d = .tup es ∧ RdL W Hb1 es vs)
theorem Yl.stay {W : Wd} {Hb H : Hp} {d : Dt} {x : V} (r : RdD W Hb d x) : Yl W Hb H d x H := ⟨Hb, Gro.refl, .inl ⟨rfl, r⟩⟩
theorem Yl.laid {W : Wd} {Hb H : Hp} {T : Addr} {vs : List V} {es : List Dt} (h : H T = none) (r : RdL W Hb es vs) : Yl W Hb H (.tup es) (.ref T) (upd H T (.tup vs)) := ⟨Hb, Gro.refl, .inr ⟨T, vs, es, rfl, h, rfl, rfl, r⟩⟩
structure Yields (W : Wd) (Fm Hb0 : Hp) (J : It) (ds : List Dt) : Prop where
  go : ∀ i Hb H, i < ds.length → Same Hb0 Hb → Bse Fm Hb H → J.go i H
  stop : ∀ Hb H, Same Hb0 Hb → Bse Fm Hb H → J.stop ds.length H
  yld : ∀ i d Hb H x H', ds[i]? = some d → Same Hb0 Hb → Bse Fm Hb H → J.yld i H x H' → Yl W Hb H d x H'
/-- iter walks the data that it tells -/
def SI (X : Cx) (EX : XK) (tg iter : Expr) (it : DA) : Prop := ∃ wi, PI X tg iter wi ∧ ∀ Fm Hb ia σ env H (R : It → Hp → Prop), Agr (wd X) Fm Hb ia env σ H →
  Post (wd X) EX Fm Hb ia σ (fun ds e Hb1 H1 => ∀ J, Yields (wd X) Fm Hb1 J ds → R J H1) (it env) → wi σ H R
theorem Yl.agr {W : Wd} {Fm Hb H H' : Hp} {ia : Option Addr} {env : Env'} {σ : L2.St} {d : Dt} {x : V} (y : Yl W Hb H d x H') (A : Agr W Fm Hb ia env σ H) : ∃ Hb', Same Hb Hb' ∧ Agr W Fm Hb' ia env σ H' ∧ RdD W Hb' d x := by
  obtain ⟨Hb1, g, y⟩ := y
  have A := g.agr A
  rcases y with ⟨rfl, r⟩ | ⟨T, vs, es, rfl, hT, rfl, rfl, r⟩
  · exact ⟨Hb1, g.1, A, r⟩
  · have hn := A.bs.hb.free hT
    exact ⟨upd Hb1 T (.tup vs), g.1.trans (same_lay hn), A.lay hT (fun _ z => nomatch z), T, vs, rfl, upd_same, RdL.mono (same_lay hn) _ _ r⟩
def sLoop (g : DG) (f : DS) : List Dt → DS
  | [] => fun env => .ok (.nx, env)
  | d :: ds => fun env => match g d env with
    | .ok e => (f e).bind fun q => match q.1 with
      | .nx => sLoop g f ds q.2
      | .ct => sLoop g f ds q.2
      | .bk => .ok (.nx, q.2)
      | .rt v => .ok (.rt v, q.2)
    | _ => .bad
def sFor (it : DA) (g : DG) (f : DS) : DS := fun env => (it env).bind fun p => sLoop g f p.1 p.2
theorem ss_for {tg iter : Expr} {it : DA} {g : DG} {ts : List Nat} (hp : PassesOwn (model X.prog X.w) X.A X.env X.xe) (hc : X.calm = true) (hi : SI X EX tg iter it) (hg : SG X tg ts g) (hb : SSs X EX body f) (hs : ∀ x, foldedSetIterable iter X.env x = pure x) : SS X EX (.For tg iter body [] pos) (sFor it g f) := by
  obtain ⟨wi, h1, h2⟩ := hi
  refine ps_mono (ps_for hp hc h1 hg hb hs) fun D σ H ⟨Fm, Hb, ia, env, A, p⟩ => ?_
  refine h2 Fm Hb ia σ env H _ A (Post.bindS p fun ds e1 H1 Hb1 s1 A1 q1 J y => ?_)
  dsimp only at q1
  refine ⟨fun i m σ' H' => m = ds.length - i ∧ i ≤ ds.length ∧ ∃ Hb' e, Same Hb1 Hb' ∧ Agr (wd X) Fm Hb' ia e σ' H' ∧ PostS (wd X) EX Fm Hb' ia D (sLoop g f (ds.drop i) e), ⟨ds.length, rfl, Nat.zero_le _, Hb1, e1, Same.refl _, A1, q1⟩, ?_⟩
  rintro i m σ2 H2 ⟨rfl, hi, Hb2, e2, s2, A2, p2⟩
  by_cases hlt : i < ds.length
  · right
    have hd : ds.drop i = ds[i] :: ds.drop (i + 1) := List.drop_eq_getElem_cons hlt
    refine ⟨y.go i Hb2 H2 hlt s2 A2.bs, fun σ' H' => ∃ Hb' e, Same Hb1 Hb' ∧ Agr (wd X) Fm Hb' ia e σ' H' ∧ PostS (wd X) EX Fm Hb' ia D (sLoop g f (ds.drop (i + 1)) e), ?_, ?_⟩
    · rintro σ' H' ⟨Hb', e, x1, x2, x3⟩
      exact ⟨ds.length - (i + 1), by omega, rfl, by omega, Hb', e, x1, x2, x3⟩
    · intro x H3 hy
      obtain ⟨Hb3, s3, A3, r3⟩ := (y.yld i ds[i] Hb2 H2 x H3 (List.getElem?_eq_getElem hlt) s2 A2.bs hy).agr A2
      rw [hd] at p2
      have p3 := PostS.mono s3 p2
      refine ⟨Fm, Hb3, ia, e2, ds[i], A3, r3, ?_⟩
      unfold sLoop at p3
      cases q : g ds[i] e2 with
      | ok e3 =>
        rw [q] at p3
        intro σ3 _ A4
        refine ⟨Fm, Hb3, ia, e3, A4, loop_post p3 fun e σ' H' Hb' s A p => ⟨Hb', e, (s2.trans s3).trans s, A, p⟩⟩
      | err z => rw [q] at p3; exact p3.elim
      | bad => rw [q] at p3; exact p3.elim
  · left
    have e : i = ds.length := by omega
    subst e
    rw [List.drop_length] at p2
    exact ⟨y.stop Hb2 H2 s2 A2.bs, p2 σ2 H2 Hb2 (Same.refl _) A2⟩
end
end G


set_option maxRecDepth 100000
set_option maxHeartbeats 4000000
/-! Kern11: what is walked (lists, tuples, ranges); list comprehensions. -/
namespace G
open PySem PySem.Spec PyProof.Rows L2
variable [TabT]

/-! ### walks -/
theorem yields_l {W : Wd} {Fm Hb : Hp} {a : Addr} {vs : List V} {ds : List Dt} (h : SqL W.K Hb a vs) (r : RdL W Hb ds vs) : Yields W Fm Hb (Itl W.K a) ds where
  go := fun i Hb' H hi s b => by
    obtain ⟨v, h1, _⟩ := r.get (List.getElem?_eq_getElem hi)
    exact ⟨vs, v, same_l b.hb (same_l s h), h1⟩
  stop := fun Hb' H s b => ⟨vs, same_l b.hb (same_l s h), by rw [← r.len]; exact Nat.le_refl _⟩
  yld := fun i d Hb' H x H' hd s b y => by
    obtain ⟨e, y⟩ := y
    obtain ⟨v, h1, h2⟩ := r.get hd
    have := y vs (same_l b.hb (same_l s h))
    rw [h1] at this
    cases this
    subst e
    exact Yl.stay (RdD.mono s _ _ h2)
theorem yields_t {W : Wd} {Fm Hb : Hp} {a : Addr} {vs : List V} {ds : List Dt} (h : SqT W.K Hb a vs) (r : RdL W Hb ds vs) : Yields W Fm Hb (Itt W.K a) ds where
  go := fun i Hb' H hi s b => by
    obtain ⟨v, h1, _⟩ := r.get (List.getElem?_eq_getElem hi)
    exact ⟨vs, v, same_t b.hb (same_t s h), h1⟩
  stop := fun Hb' H s b => ⟨vs, same_t b.hb (same_t s h), by rw [← r.len]; exact Nat.le_refl _⟩
  yld := fun i d Hb' H x H' hd s b y => by
    obtain ⟨e, y⟩ := y
    obtain ⟨v, h1, h2⟩ := r.get hd
    have := y vs (same_t b.hb (same_t s h))
    rw [h1] at this
    cases this
    subst e
    exact Yl.stay (RdD.mono s _ _ h2)
def rngD (lo : Int) (n : Nat) : List Dt := (List.range n).map fun i => .int (lo + (i : Nat))
theorem rngD_len (lo : Int) (n : Nat) : (rngD lo n).length = n := by
  unfold rngD
  rw [List.length_map, List.length_range]
theorem yields_r {W : Wd} {Fm Hb : Hp} (lo : Int) (n : Nat) : Yields W Fm Hb (Itr lo n) (rngD lo n) where
  go := fun i Hb' H hi s b => by rw [rngD_len] at hi; exact hi
  stop := fun Hb' H s b => by rw [rngD_len]; exact Nat.le_refl _
  yld := fun i d Hb' H x H' hd s b y => by
    obtain ⟨e, e'⟩ := y
    subst e
    refine Yl.stay ?_
    unfold rngD at hd
    rw [List.getElem?_map] at hd
    obtain ⟨j, hj, rfl⟩ := Option.map_eq_some_iff.mp hd
    obtain ⟨hl, e2⟩ := List.getElem?_eq_some_iff.mp hj
    rw [List.getElem_range] at e2
    subst e2
    exact e'
theorem pi_either {X : Cx} {tg e : Expr} {w1 w2 : TI} (h1 : PI X tg e w1) (h2 : PI X tg e w2) : PI X tg e (fun σ H R => w1 σ H R ∨ w2 σ H R) := ⟨fun pins s σ H R I h => by
  rcases h with h | h
  · exact h1.run pins s σ H R I h
  · exact h2.run pins s σ H R I h⟩
def itSeq (f : DE) : DA := fun env => (f env).bind fun p => match seqD p.1.d with
  | some ds => .ok (ds, p.2)
  | none => .bad
def int62 (j : Int) : Bool := decide (j.natAbs < 2 ^ 62)
theorem int62_le {j : Int} (h : int62 j = true) : -(2 ^ 62) ≤ j ∧ j < 2 ^ 62 := by
  have := of_decide_eq_true h
  omega
def itRng1 (g : DA) : DA := fun env => (g env).bind fun p => match p.1 with
  | [.int j] => if int62 j = true then .ok (rngD 0 j.toNat, p.2) else .bad
  | _ => .bad
def itRng2 (g : DA) : DA := fun env => (g env).bind fun p => match p.1 with
  | [.int i, .int j] => if int62 i = true ∧ int62 j = true then .ok (rngD i (j - i).toNat, p.2) else .bad
  | _ => .bad
section
variable {X : Cx} {EX : XK} {pos p1 : Pos} {tg e a b c l : Expr} {es : List Expr} {f fa fb : DE} {g : DA}
theorem si_seq (hl : SE X EX l f) : SI X EX tg l (itSeq f) := by
  refine ⟨_, pi_either (pi_list hl) (pi_tup hl), fun Fm Hb ia σ env H R A p => ?_⟩
  unfold itSeq at p
  cases q : f env with
  | err x =>
    rw [q] at p
    exact .inl ⟨Fm, Hb, ia, env, A, by rw [q]; exact p⟩
  | bad => rw [q] at p; exact p.elim
  | ok r =>
    obtain ⟨val, e1⟩ := r
    rw [q, Res.bind_ok] at p
    dsimp only at p
    have tup : ∀ es, val.d = .tup es → iTup X.K (rdE (wd X) EX f) σ H R := fun es hd => by
      rw [hd] at p
      refine ⟨Fm, Hb, ia, env, A, ?_⟩
      rw [q]
      refine fun H1 Hb1 s1 A1 => GE.use (fun d Hb2 v ed s2 A2 r2 => ?_) A1
      subst ed
      rw [hd] at r2
      obtain ⟨a, vs, rfl, h1, h2⟩ := r2
      exact ⟨a, rfl, ⟨vs, sqt_of (A2.bs.hb _ _ h1)⟩, p H1 Hb2 (s1.trans s2) A2 _ (yields_t (W := wd X) (sqt_of h1) h2)⟩
    have lst : ∀ ds, seqD val.d = some ds → (∀ es, val.d ≠ .tup es) → iList X.K (rdE (wd X) EX f) σ H R := fun ds hd hn => by
      rw [hd] at p
      refine ⟨Fm, Hb, ia, env, A, ?_⟩
      rw [q]
      refine fun H1 Hb1 s1 A1 => GE.use (fun d Hb2 v ed s2 A2 r2 => ?_) A1
      subst ed
      have r3 : ∃ a vs, v = .ref a ∧ SqL X.K Hb2 a vs ∧ RdL (wd X) Hb2 ds vs := by
        generalize val.d = d at hd hn r2
        cases d with
        | lst es =>
          cases hd
          obtain ⟨a, vs, rfl, h1, h2⟩ := r2
          exact ⟨a, vs, rfl, .inl (.inl h1), h2⟩
        | scr ns =>
          cases hd
          obtain ⟨a, rfl, h1⟩ := r2
          exact ⟨a, _, rfl, h1, RdL.ofInts ns⟩
        | tup es => exact absurd rfl (hn es)
        | _ => cases hd
      obtain ⟨a, vs, rfl, h1, h2⟩ := r3
      exact ⟨a, rfl, ⟨vs, same_l A2.bs.hb h1⟩, p H1 Hb2 (s1.trans s2) A2 _ (yields_l (W := wd X) h1 h2)⟩
    cases hd : seqD val.d with
    | none => rw [hd] at p; exact p.elim
    | some ds =>
      cases hk : val.d with
      | tup es => exact .inr (tup es hk)
      | _ => exact .inl (lst ds hd fun es z => by rw [hk] at z; cases z)
theorem si_rng1 (hg : Gl X "range") (hm : X.mg "range" = none) (ha : SA X EX [a] g) (hs : isStar a = false) : SI X EX tg (.Call (.Name "range" p1) [a] [] pos) (itRng1 g) := by
  refine ⟨_, pi_range1 hg hm ha (star_no hs), fun Fm Hb ia σ env H R A p => ?_⟩
  refine ⟨Fm, Hb, ia, env, A, Post.bind p fun ds e1 H1 Hb1 s1 A1 q1 vs hv => ?_⟩
  dsimp only at q1
  split at q1
  · rename_i j
    split at q1
    · rename_i hj
      have hj := int62_le hj
      obtain ⟨v, r, rfl, h1, h2⟩ := hv
      cases (show v = V.int j from h1)
      cases (show r = [] from h2)
      exact ⟨j, rfl, hj.1, hj.2, q1 H1 Hb1 (Same.refl _) A1 _ (yields_r 0 j.toNat)⟩
    · exact q1.elim
  · exact q1.elim
theorem si_rng2 (hg : Gl X "range") (hm : X.mg "range" = none) (ha : SA X EX [a, b] g) (hs : isStar a = false) (hs2 : isStar b = false) : SI X EX tg (.Call (.Name "range" p1) [a, b] [] pos) (itRng2 g) := by
  refine ⟨_, pi_range2 hg hm ha (by rw [star_no hs, star_no hs2]; rfl) (star_no hs2), fun Fm Hb ia σ env H R A p => ?_⟩
  refine ⟨Fm, Hb, ia, env, A, Post.bind p fun ds e1 H1 Hb1 s1 A1 q1 vs hv => ?_⟩
  dsimp only at q1
  split at q1
  · rename_i i j
    split at q1
    · rename_i hj
      have h1 := int62_le hj.1
      have h2 := int62_le hj.2
      obtain ⟨v, w, rfl, r1, r2⟩ := hv.two
      cases (show v = V.int i from r1)
      cases (show w = V.int j from r2)
      exact ⟨i, j, rfl, ⟨h1.1, h1.2, h2.1, h2.2⟩, q1 H1 Hb1 (Same.refl _) A1 _ (yields_r i (j - i).toNat)⟩
    · exact q1.elim
  · exact q1.elim
end

/-! ### list comprehensions -/
def Res.hard {α : Type} : Res α → Res α
  | .err _ => .bad
  | r => r
def wipeE (env : Env') : List Nat → Env'
  | [] => env
  | v :: vs => (wipeE env vs).set v .un
def backE (e0 e : Env') : List Nat → Env'
  | [] => e
  | v :: vs => (backE e0 e vs).set v (e0[v]?.getD .un)
def lcOk (env : Env') (vs : List Nat) : Bool := vs.all fun v => match env[v]? with
  | some .un => true
  | some (.imm _) => true
  | _ => false
def lcTurn (vs : List Nat) (g : DG) (t : DT) (f : DE) (d : Dt) (env : Env') : Res (Option Dt × Env') := ((g d env).bind t).hard.bind fun p =>
  if p.1 = true then (f p.2).hard.bind fun q => .ok (some q.1.d, wipeE q.2 vs) else .ok (none, wipeE p.2 vs)
def lcLoop (vs : List Nat) (g : DG) (t : DT) (f : DE) : List Dt → DA
  | [] => fun env => .ok ([], env)
  | d :: ds => fun env => (lcTurn vs g t f d env).bind fun p => (lcLoop vs g t f ds p.2).bind fun q => .ok (p.1.toList ++ q.1, q.2)
def dLc (vs : List Nat) (it : DA) (g : DG) (t : DT) (f : DE) : DE := fun env => (it env).bind fun p =>
  if lcOk p.2 vs = true ∧ p.1.length ≤ sizeLine then (lcLoop vs g t f p.1 (wipeE p.2 vs)).hard.bind fun q => .ok (.fresh (.lst q.1), backE p.2 q.2 vs) else .bad
def dYes : DT := fun env => .ok (true, env)

theorem wipeE_len (env : Env') : ∀ vs, (wipeE env vs).length = env.length
  | [] => rfl
  | v :: vs => by unfold wipeE; rw [List.length_set, wipeE_len env vs]
theorem backE_len (e0 e : Env') : ∀ vs, (backE e0 e vs).length = e.length
  | [] => rfl
  | v :: vs => by unfold backE; rw [List.length_set, backE_len e0 e vs]
theorem backE_out {e0 e : Env'} {i : Nat} : ∀ {vs : List Nat}, i ∉ vs → (backE e0 e vs)[i]? = e[i]?
  | [], _ => rfl
  | v :: vs, h => by
    unfold backE
    rw [List.getElem?_set_ne fun z => h (by rw [z]; exact List.mem_cons_self)]
    exact backE_out fun z => h (List.mem_cons_of_mem _ z)
theorem backE_in {e0 e : Env'} {i : Nat} {s : Slot} : ∀ {vs : List Nat}, i ∈ vs → (backE e0 e vs)[i]? = some s → s = e0[i]?.getD .un
  | [], h, _ => by cases h
  | v :: vs, h, q => by
    unfold backE at q
    by_cases hv : v = i
    · subst hv
      rcases get_set q with ⟨_, e, _⟩ | ⟨ne, _⟩
      · exact e
      · exact absurd rfl ne
    · rw [List.getElem?_set_ne hv] at q
      rcases List.mem_cons.mp h with z | z
      · exact absurd z.symm hv
      · exact backE_in z q
theorem lcOk_at {env : Env'} {vs : List Nat} (h : lcOk env vs = true) {i : Nat} (hi : i ∈ vs) : env[i]? = some .un ∨ ∃ d, env[i]? = some (.imm d) := by
  have h' := List.all_eq_true.mp h i hi
  revert h'
  cases q : env[i]? with
  | none => intro h'; cases h'
  | some s =>
    cases s with
    | un => intro _; exact .inl rfl
    | imm d => intro _; exact .inr ⟨d, rfl⟩
    | own d => intro h'; cases h'
    | io d => intro h'; cases h'
section
variable {W : Wd} {Fm Hb Hb' H H' : Hp} {ia : Option Addr} {env env' : Env'} {σ : L2.St} {vs : List Nat} {D : Addr} {o o' : HO}
theorem Agr.wipeAll (A : Agr W Fm Hb ia env σ H) : ∀ {vs : List Nat}, (∀ a, ia = some a → 0 ∉ vs) → Agr W Fm Hb ia (wipeE env vs) (wipe σ vs) H
  | [], _ => A
  | v :: vs, h => by
    have A' := Agr.wipeAll A (vs := vs) fun a e z => h a e (List.mem_cons_of_mem _ z)
    exact A'.forget fun e z => by
      obtain ⟨h0, a, ha, _⟩ := A'.io v e z
      exact h a ha (by rw [h0]; exact List.mem_cons_self)
theorem Agr.alien (A : Agr W Fm Hb ia env σ H) (nt : LD o) (h1 : Hb D = none) (ho : H D = some o) (h2 : ∀ i d, Owns env i d → σ[i]? ≠ some (some (.ref D))) : Agr W (upd Fm D o) Hb ia env σ H where
  bs := ⟨A.bs.hb, fun a u e => by
    by_cases ha : a = D
    · subst ha
      rw [upd_same] at e
      rw [← e]
      exact ho
    · rw [upd_ne ha] at e
      exact A.bs.fm a u e, fun a u e => by
    by_cases ha : a = D
    · rw [ha]; exact h1
    · rw [upd_ne ha] at e
      exact A.bs.dj a u e, fun a vs e => by
    by_cases ha : a = D
    · subst ha
      rw [upd_same] at e
      rw [← Option.some.inj e]
      exact nt
    · rw [upd_ne ha] at e
      exact A.bs.nt a vs e, A.bs.tb, A.bs.nb⟩
  len := A.len
  imm := A.imm
  own := fun i d e => by
    obtain ⟨a, g1, g2, g3, g4⟩ := A.own i d e
    exact ⟨a, g1, g2, by rw [upd_ne fun z => h2 i d e (by rw [← z]; exact g1)]; exact g3, g4⟩
  inj := A.inj
  io := A.io
  ioh := A.ioh
theorem Bse.unalien (b : Bse (upd Fm D o) Hb H) (h : Fm D = none) : Bse Fm Hb H := ⟨b.hb, fun a u e => b.fm a u (by rw [upd_ne (ne_of_none e h)]; exact e), fun a u e => b.dj a u (by rw [upd_ne (ne_of_none e h)]; exact e), fun a vs e => b.nt a vs (by rw [upd_ne (ne_of_none e h)]; exact e), b.tb, b.nb⟩
theorem upd_none {a : Addr} (h : (upd Fm D o) a = none) : a ≠ D ∧ Fm a = none := by
  by_cases ha : a = D
  · rw [ha, upd_same] at h; cases h
  · rw [upd_ne ha] at h; exact ⟨ha, h⟩
theorem Agr.unalien (A : Agr W (upd Fm D o) Hb ia env σ H) (h : Fm D = none) : Agr W Fm Hb ia env σ H where
  bs := A.bs.unalien h
  len := A.len
  imm := A.imm
  own := fun i d e => by
    obtain ⟨a, g1, g2, g3, g4⟩ := A.own i d e
    exact ⟨a, g1, g2, (upd_none g3).2, g4⟩
  inj := A.inj
  io := A.io
  ioh := A.ioh
theorem Agr.alienSet (A : Agr W (upd Fm D o) Hb ia env σ H) (nt : LD o') (h : Fm D = none) : Agr W (upd Fm D o') Hb ia env σ (upd H D o') where
  bs := by
    have hb := A.bs.dj D o upd_same
    refine ⟨fun a u e => ?_, fun a u e => ?_, fun a u e => ?_, fun a vs e => ?_, tabs_wri A.bs.tb fun u hu => ?_, A.bs.nb⟩
    · rw [upd_ne (ne_of_none e hb)]; exact A.bs.hb a u e
    · by_cases ha : a = D
      · subst ha; rw [upd_same] at e ⊢; exact e
      · rw [upd_ne ha] at e ⊢
        exact A.bs.fm a u (by rw [upd_ne ha]; exact e)
    · by_cases ha : a = D
      · rw [ha]; exact hb
      · rw [upd_ne ha] at e
        exact A.bs.dj a u (by rw [upd_ne ha]; exact e)
    · by_cases ha : a = D
      · subst ha
        rw [upd_same] at e
        rw [← Option.some.inj e]
        exact nt
      · rw [upd_ne ha] at e
        exact A.bs.nt a vs (by rw [upd_ne ha]; exact e)
    · have e1 := A.bs.fm D o upd_same
      rw [hu] at e1
      rw [Option.some.inj e1]
      exact A.bs.nt D o upd_same
  len := A.len
  imm := A.imm
  own := fun i d e => by
    obtain ⟨a, g1, g2, g3, g4⟩ := A.own i d e
    obtain ⟨ne, g3⟩ := upd_none g3
    exact ⟨a, g1, g2, by rw [upd_ne ne]; exact g3, g4.move (Same.refl _) fun u e => by rw [upd_ne ne]; exact e⟩
  inj := A.inj
  io := A.io
  ioh := A.ioh
theorem Agr.back (A : Agr W Fm Hb ia env σ H) (s : Same Hb Hb') (B : Agr W Fm Hb' ia env' (wipe σ vs) H') (h : lcOk env vs = true) : Agr W Fm Hb' ia (backE env env' vs) σ H' := by
  have key : ∀ i sl, (backE env env' vs)[i]? = some sl → (i ∈ vs ∧ (sl = .un ∨ ∃ d, sl = .imm d ∧ env[i]? = some (.imm d))) ∨ (i ∉ vs ∧ env'[i]? = some sl ∧ (wipe σ vs)[i]? = σ[i]?) := fun i sl q => by
    by_cases hi : i ∈ vs
    · have e := backE_in hi q
      rcases lcOk_at h hi with z | ⟨d, z⟩
      · rw [z] at e; exact .inl ⟨hi, .inl e⟩
      · rw [z] at e; exact .inl ⟨hi, .inr ⟨d, e, z⟩⟩
    · rw [backE_out hi] at q
      exact .inr ⟨hi, q, wipe_out hi⟩
  have keyO : ∀ i d, Owns (backE env env' vs) i d → i ∉ vs ∧ Owns env' i d ∧ (wipe σ vs)[i]? = σ[i]? := fun i d q => by
    rcases q with q | q
    · rcases key i _ q with ⟨_, z | ⟨_, z, _⟩⟩ | ⟨z1, z2, z3⟩
      · cases z
      · cases z
      · exact ⟨z1, .inl z2, z3⟩
    · rcases key i _ q with ⟨_, z | ⟨_, z, _⟩⟩ | ⟨z1, z2, z3⟩
      · cases z
      · cases z
      · exact ⟨z1, .inr z2, z3⟩
  exact {
    bs := B.bs
    len := by rw [backE_len, B.len, wipe_length]
    imm := fun i d q => by
      rcases key i _ q with ⟨_, z | ⟨d', z, y⟩⟩ | ⟨z1, z2, z3⟩
      · cases z
      · cases z
        obtain ⟨v, h1, h2⟩ := A.imm i d y
        exact ⟨v, h1, RdD.mono s _ _ h2⟩
      · rw [← z3]
        exact B.imm i d z2
    own := fun i d q => by
      obtain ⟨z1, z2, z3⟩ := keyO i d q
      rw [← z3]
      exact B.own i d z2
    inj := fun i j d d' a q1 q2 e1 e2 => by
      obtain ⟨_, z2, z3⟩ := keyO i d q1
      obtain ⟨_, y2, y3⟩ := keyO j d' q2
      exact B.inj i j d d' a z2 y2 (by rw [z3]; exact e1) (by rw [y3]; exact e2)
    io := fun i d q => by
      rcases key i _ q with ⟨_, z | ⟨_, z, _⟩⟩ | ⟨z1, z2, z3⟩
      · cases z
      · cases z
      · rw [← z3]; exact B.io i d z2
    ioh := fun a e => by
      obtain ⟨d, q⟩ := B.ioh a e
      refine ⟨d, ?_⟩
      have h0 : 0 ∉ vs := fun z => by
        obtain ⟨d', q'⟩ := A.ioh a e
        rcases lcOk_at h z with y | ⟨_, y⟩
        · rw [q'] at y; cases y
        · rw [q'] at y; cases y
      rw [backE_out h0]
      exact q }
theorem wipe_twice (σ : L2.St) (vs : List Nat) : wipe (wipe σ vs) vs = wipe σ vs := wipe_ext (wipe_length _ _) fun i hi => wipe_out hi
end
abbrev EN : XK := fun _ _ _ => False
theorem hard_ok {α : Type} {r : Res α} {x : α} (h : r.hard = .ok x) : r = .ok x := by
  cases r with
  | ok y => exact h
  | err _ => cases h
  | bad => cases h
theorem bind_okE {α β : Type} {r : Res α} {k : α → Res β} {y : β} (h : r.bind k = .ok y) : ∃ x, r = .ok x ∧ k x = .ok y := by
  cases r with
  | ok x => exact ⟨x, rfl, h⟩
  | err _ => cases h
  | bad => cases h
theorem rd_lc {W : Wd} {EX : XK} {wi : TI} {it : DA} {vs : List Nat} {g : DG} {t : DT} {f : DE}
    (hi : ∀ Fm Hb ia σ env H (R : It → Hp → Prop), Agr W Fm Hb ia env σ H → Post W EX Fm Hb ia σ (fun ds e Hb1 H1 => ∀ J, Yields W Fm Hb1 J ds → R J H1) (it env) → wi σ H R) :
    ∀ σ H Q, rdE W EX (dLc vs it g t f) σ H Q → tLc wi (rdG W vs g) (rdT W EN t) (rdE W EN f) vs σ H Q := fun σ H Q ⟨Fm, Hb, ia, env, A, p⟩ => by
  refine hi Fm Hb ia σ env H _ A (Post.bind p fun ds e H1 Hb1 s1 A1 q1 J y D hD => ?_)
  dsimp only at q1
  split at q1
  · rename_i hc
    obtain ⟨hok, hz⟩ := hc
    cases hL : (lcLoop vs g t f ds (wipeE e vs)).hard with
    | err x => rw [hL] at q1; cases hq : lcLoop vs g t f ds (wipeE e vs) <;> rw [hq] at hL <;> cases hL
    | bad => rw [hL] at q1; exact q1.elim
    | ok r =>
      obtain ⟨all, ef⟩ := r
      rw [hL, Res.bind_ok] at q1
      have hL := hard_ok hL
      obtain ⟨hDb, hDf⟩ := A1.bs.free hD
      have h0 : ∀ a, ia = some a → 0 ∉ vs := fun a ea z => by
        obtain ⟨d', q'⟩ := A1.ioh a ea
        rcases lcOk_at hok z with y | ⟨_, y⟩
        · rw [q'] at y; cases y
        · rw [q'] at y; cases y
      have B0 := A1.wipeAll h0
      have B1 := Agr.alien (o := .lst []) (B0.put hDb hDf (Wri.new hD) (B0.apart hD) (o := .lst [])) trivial hDb upd_same (B0.apart hD)
      refine ⟨fun i m H' => m = ds.length - i ∧ i ≤ ds.length ∧ ∃ Hb' ew acc av rest, Same Hb1 Hb' ∧ Agr W (upd Fm D (.lst av)) Hb' ia ew (wipe σ vs) H' ∧ RdL W Hb' acc av ∧ av.length ≤ i ∧ lcLoop vs g t f (ds.drop i) ew = .ok (rest, ef) ∧ acc ++ rest = all,
        ⟨ds.length, rfl, Nat.zero_le _, Hb1, wipeE e vs, [], [], all, Same.refl _, B1, rfl, Nat.zero_le _, hL, rfl⟩, ?_⟩
      rintro i m H2 ⟨rfl, hi, Hb2, ew, acc, av, rest, s2, A2, ra, hl, hlo, hall⟩
      by_cases hlt : i < ds.length
      · refine .inr ⟨y.go i Hb2 H2 hlt s2 (A2.bs.unalien hDf), fun H' => ∃ Hb' ew acc av rest, Same Hb1 Hb' ∧ Agr W (upd Fm D (.lst av)) Hb' ia ew (wipe σ vs) H' ∧ RdL W Hb' acc av ∧ av.length ≤ i + 1 ∧ lcLoop vs g t f (ds.drop (i + 1)) ew = .ok (rest, ef) ∧ acc ++ rest = all, ?_, ?_⟩
        · rintro H' ⟨Hb', ew', acc', av', rest', x1, x2, x3, x4, x5, x6⟩
          exact ⟨ds.length - (i + 1), by omega, rfl, by omega, Hb', ew', acc', av', rest', x1, x2, x3, x4, x5, x6⟩
        · intro x H3 hy
          obtain ⟨Hb3, s3, A3, r3⟩ := (y.yld i ds[i] Hb2 H2 x H3 (List.getElem?_eq_getElem hlt) s2 (A2.bs.unalien hDf) hy).agr A2
          rw [show ds.drop i = ds[i] :: ds.drop (i + 1) from List.drop_eq_getElem_cons hlt] at hlo
          unfold lcLoop at hlo
          obtain ⟨⟨od, e4⟩, ht, hlo⟩ := bind_okE hlo
          obtain ⟨⟨rest', e5⟩, hr, hlo⟩ := bind_okE hlo
          cases hlo
          unfold lcTurn at ht
          obtain ⟨⟨bb, e6⟩, hgt, ht⟩ := bind_okE ht
          obtain ⟨e7, hg, htt⟩ := bind_okE (hard_ok hgt)
          refine ⟨_, Hb3, ia, ew, ds[i], A3, r3, ?_⟩
          rw [hg]
          intro σ4 w4 A4
          have w4' : wipe σ4 vs = wipe σ vs := (w4 vs fun _ h => h).trans (wipe_twice σ vs)
          refine ⟨w4', _, Hb3, ia, e7, A4, ?_⟩
          rw [htt]
          intro H5 Hb5 s5 A5
          cases bb with
          | false =>
            cases ht
            have A6 := A5.wipeAll h0
            rw [w4'] at A6
            exact ⟨Hb5, _, acc, av, rest', (s2.trans s3).trans s5, A6, RdL.mono (s3.trans s5) _ _ ra, by omega, hr, hall⟩
          | true =>
            obtain ⟨⟨val, e8⟩, hf, ht⟩ := bind_okE ht
            cases ht
            have hf := hard_ok hf
            refine ⟨_, Hb5, ia, e6, A5, ?_⟩
            rw [hf]
            refine fun H6 Hb6 s6 A6 => GE.use (fun dd Hb7 v ed s7 A7 r7 => ?_) A6
            have hD7 : H6 D = some (.lst av) := A7.bs.fm D _ upd_same
            refine ⟨av, hD7, by omega, ?_⟩
            have A8 := (Agr.alienSet (o' := .lst (av ++ [v])) A7 trivial hDf).wipeAll h0
            rw [w4'] at A8
            refine ⟨Hb7, _, acc ++ [dd], _, rest', (((s2.trans s3).trans s5).trans s6).trans s7, A8, (RdL.mono (((s3.trans s5).trans s6).trans s7) _ _ ra).append ⟨v, [], rfl, r7, rfl⟩, by rw [List.length_append]; simp; omega, hr, ?_⟩
            rw [← hall, List.append_assoc, ← ed]
            rfl
      · have e' : i = ds.length := by omega
        subst e'
        rw [List.drop_length] at hlo
        cases hlo
        rw [List.append_nil] at hall
        subst hall
        have A3 := A2.unalien hDf
        refine .inl ⟨y.stop Hb2 H2 s2 A3.bs, ?_⟩
        have A4 := A1.back s2 A3 hok
        refine q1 H2 Hb2 s2 A4 _ ⟨D, rfl, A2.bs.dj D _ upd_same, hDf, ⟨av, A2.bs.fm D _ upd_same, ra⟩, fun i d ho hz => ?_⟩
        by_cases hiv : i ∈ vs
        · rcases ho with q | q
          · have e := backE_in hiv q
            rcases lcOk_at hok hiv with z | ⟨_, z⟩ <;> rw [z] at e <;> cases e
          · have e := backE_in hiv q
            rcases lcOk_at hok hiv with z | ⟨_, z⟩ <;> rw [z] at e <;> cases e
        · have ho' : Owns ef i d := by
            rcases ho with q | q
            · exact .inl (by rw [backE_out hiv] at q; exact q)
            · exact .inr (by rw [backE_out hiv] at q; exact q)
          obtain ⟨a, g1, g2, g3, g4⟩ := A2.own i d ho'
          rw [wipe_out hiv, hz] at g1
          cases g1
          exact (upd_none g3).1 rfl
  · exact q1.elim
section
variable {X : Cx} {EX : XK} {pos spos py : Pos} {elt tg iter : Expr} {ifs : List Expr} {scope : Scope} {own : List (Str × Nat)} {it : DA} {g : DG} {t : DT} {f : DE}
/-- a clause's tests, in the block -/
def SPt (X : Cx) (ifs : List Expr) (t : DT) : Prop := PTs X ifs (rdT (wd X) EN t)
theorem spt_nil : SPt X [] dYes := ⟨fun pins s σ H Q I ⟨Fm, Hb, ia, env, A, p⟩ => pts_nil.run pins s σ H Q I (p H Hb (Same.refl _) A)⟩
theorem spt_one {c : Expr} (h : ST X EN c t) : SPt X [c] t := pts_one h
theorem se_lc (hc : X.calm = true) (hN : X.N.Nodup) (hi : SI X EX tg iter it) (ok : BlkOk X.N X.env.scope scope own)
    (hg : ∀ (s : Shared) (H : Hp) (C : Addr) (cl : List (Str × Addr)) (fp : List Addr), SG (X.blk s H scope (compEnvC scope cl C X.env) fp) tg (own.map (fun p : Str × Nat => p.2)) g) (ht : ∀ (s : Shared) (H : Hp) (C : Addr) (cl : List (Str × Addr)) (fp : List Addr), SPt (X.blk s H scope (compEnvC scope cl C X.env) fp) ifs t)
    (he : ∀ (s : Shared) (H : Hp) (C : Addr) (cl : List (Str × Addr)) (fp : List Addr), SE (X.blk s H scope (compEnvC scope cl C X.env) fp) EN elt f) (hs : ∀ x, foldedSetIterable iter X.env x = pure x) :
    SE X EX (.ListComp elt [⟨tg, iter, ifs, 0⟩] scope pos) (dLc (own.map (fun p : Str × Nat => p.2)) it g t f) := by
  obtain ⟨wi, h1, h2⟩ := hi
  exact pe_mono (pe_lc (own := own) (g := rdG (wd X) (own.map (fun p : Str × Nat => p.2)) g) (tt := rdT (wd X) EN t) (te := rdE (wd X) EN f) hc hN h1 ok hg ht he hs) (rd_lc h2)
theorem ss_setLc {i : Nat} {y : Str} (hc : X.calm = true) (hN : X.N.Nodup) (hy : X.N[i]? = some y) (hyl : X.env.scope.names.lookup y = some .local)
    (hsw : swapsWith (.ListComp elt [⟨tg, iter, ifs, 0⟩] scope pos) (some (.Name y py)) spos.line X.env = pure true) (hi : SI X EX tg iter it) (ok : BlkOk X.N X.env.scope scope own)
    (hg : ∀ (s : Shared) (H : Hp) (C : Addr) (cl : List (Str × Addr)) (fp : List Addr), SG (X.blk s H scope (compEnvC scope cl C X.env) fp) tg (own.map (fun p : Str × Nat => p.2)) g) (ht : ∀ (s : Shared) (H : Hp) (C : Addr) (cl : List (Str × Addr)) (fp : List Addr), SPt (X.blk s H scope (compEnvC scope cl C X.env) fp) ifs t)
    (he : ∀ (s : Shared) (H : Hp) (C : Addr) (cl : List (Str × Addr)) (fp : List Addr), SE (X.blk s H scope (compEnvC scope cl C X.env) fp) EN elt f) (hs : ∀ x, foldedSetIterable iter X.env x = pure x) :
    SS X EX (.Assign [.Name y py] (.ListComp elt [⟨tg, iter, ifs, 0⟩] scope pos) spos) (sSet i (dLc (own.map (fun p : Str × Nat => p.2)) it g t f)) := by
  obtain ⟨wi, h1, h2⟩ := hi
  exact ps_mono (ps_setLc (own := own) (g := rdG (wd X) (own.map (fun p : Str × Nat => p.2)) g) (tt := rdT (wd X) EN t) (te := rdE (wd X) EN f) hc hN hy hyl hsw h1 ok hg ht he hs) fun D σ H h => rd_lc (W := wd X) h2 σ H _ (rd_set (W := wd X) D σ H h)
end
end G


set_option maxRecDepth 100000
set_option maxHeartbeats 4000000
/-! Kern12: a def's promise from its body; the law's head. -/
namespace G
open PySem PySem.Spec PyProof.Rows L2
variable [TabT]

def env0 (io : Bool) (n : Nat) (ds : List Dt) : Env' := match io, ds with
  | true, d :: r => .io d :: (r.map Slot.imm ++ List.replicate (n - (r.length + 1)) .un)
  | _, ds => ds.map Slot.imm ++ List.replicate (n - ds.length) .un
def outOf (io : Bool) (e : Env') : Option Dt := match io with
  | false => none
  | true => match (e[0]? : Option Slot) with
    | some (Slot.io d) => some d
    | _ => none
def runF (io : Bool) (n : Nat) (f : DS) (ds : List Dt) : FR := match f (env0 io n ds) with
  | .ok (.rt v, e) => .ok (v, outOf io e)
  | .ok (.nx, e) => .ok (.imm .non, outOf io e)
  | .err x => .err x
  | _ => .bad
section
variable {W : Wd} {Fm Hb H : Hp} {ia : Option Addr} {ds : List Dt} {vs : List V} {N : List Str}
theorem start_get {i : Nat} : (L2.start N vs)[i]? = if i < vs.length then (vs[i]?).map some else if i < vs.length + (N.length - vs.length) then some none else none := by
  unfold L2.start
  split
  · rename_i h
    rw [List.getElem?_append_left (by simpa using h), List.getElem?_map]
  · rename_i h
    rw [List.getElem?_append_right (by simpa using h), List.length_map, List.getElem?_replicate]
    by_cases h2 : i < vs.length + (N.length - vs.length)
    · rw [if_pos h2, if_pos (by omega)]
    · rw [if_neg h2, if_neg (by omega)]
theorem env0_imm {n i : Nat} {s : Slot} (h : (ds.map Slot.imm ++ List.replicate (n - ds.length) Slot.un)[i]? = some s) : s = .un ∨ ∃ d, s = .imm d ∧ ds[i]? = some d := by
  by_cases hi : i < ds.length
  · rw [List.getElem?_append_left (by simpa using hi), List.getElem?_map] at h
    obtain ⟨d, h1, rfl⟩ := Option.map_eq_some_iff.mp h
    exact .inr ⟨d, rfl, h1⟩
  · rw [List.getElem?_append_right (by simpa using hi), List.getElem?_replicate] at h
    split at h
    · exact .inl (Option.some.inj h).symm
    · cases h
theorem agr_start (b : Bse Fm Hb H) (hn : vs.length ≤ N.length) {io : Bool} (h : ArgF W Fm Hb H io ds vs ia) : Agr W Fm Hb ia (env0 io N.length ds) (L2.start N vs) H := by
  have hls : (L2.start N vs).length = N.length := by
    unfold L2.start
    rw [List.length_append, List.length_map, List.length_replicate]
    omega
  cases io with
  | false =>
    obtain ⟨rfl, r⟩ := h
    have hl := r.len
    have e0 : env0 false N.length ds = ds.map Slot.imm ++ List.replicate (N.length - ds.length) .un := by unfold env0; rfl
    rw [e0]
    have no : ∀ i d, ¬ Owns (ds.map Slot.imm ++ List.replicate (N.length - ds.length) Slot.un) i d := fun i d o => by
      rcases o with o | o
      · rcases env0_imm o with z | ⟨_, z, _⟩ <;> cases z
      · rcases env0_imm o with z | ⟨_, z, _⟩ <;> cases z
    exact {
      bs := b
      len := by rw [hls, List.length_append, List.length_map, List.length_replicate]; omega
      imm := fun i d e => by
        rcases env0_imm e with z | ⟨d', z, g⟩
        · cases z
        · cases z
          obtain ⟨v, g1, g2⟩ := r.get g
          have hi : i < vs.length := (List.getElem?_eq_some_iff.mp g1).1
          exact ⟨v, by rw [start_get, if_pos hi, g1]; rfl, g2⟩
      own := fun i d o => (no i d o).elim
      inj := fun i j d d' a o => (no i d o).elim
      io := fun i d e => (no i d (.inr e)).elim
      ioh := fun a e => by cases e }
  | true =>
    obtain ⟨a, d, dr, vr, rfl, rfl, rfl, h1, h2, h3, r⟩ := h
    have hl := r.len
    have e0 : env0 true N.length (d :: dr) = .io d :: (dr.map Slot.imm ++ List.replicate (N.length - (dr.length + 1)) .un) := by unfold env0; rfl
    rw [e0]
    have tl : ∀ i s, (Slot.io d :: (dr.map Slot.imm ++ List.replicate (N.length - (dr.length + 1)) Slot.un))[i]? = some s → (i = 0 ∧ s = .io d) ∨ (∃ j, i = j + 1 ∧ (s = .un ∨ ∃ d', s = .imm d' ∧ dr[j]? = some d')) := fun i s e => by
      cases i with
      | zero => exact .inl ⟨rfl, (Option.some.inj e).symm⟩
      | succ j =>
        refine .inr ⟨j, rfl, ?_⟩
        have e' : (dr.map Slot.imm ++ List.replicate ((N.length - 1) - dr.length) Slot.un)[j]? = some s := by
          rw [show N.length - 1 - dr.length = N.length - (dr.length + 1) by omega]
          simpa using e
        exact env0_imm e'
    have ow : ∀ i d', Owns (Slot.io d :: (dr.map Slot.imm ++ List.replicate (N.length - (dr.length + 1)) Slot.un)) i d' → i = 0 ∧ d' = d := fun i d' o => by
      rcases o with o | o
      · rcases tl i _ o with ⟨_, z⟩ | ⟨_, _, z | ⟨_, z, _⟩⟩ <;> cases z
      · rcases tl i _ o with ⟨z0, z⟩ | ⟨_, _, z | ⟨_, z, _⟩⟩
        · cases z; exact ⟨z0, rfl⟩
        · cases z
        · cases z
    have s0 : (L2.start N (.ref a :: vr))[0]? = some (some (.ref a)) := by rw [start_get, if_pos (by simp)]; rfl
    exact {
      bs := b
      len := by
        have := hn
        rw [List.length_cons] at this
        rw [hls, List.length_cons, List.length_append, List.length_map, List.length_replicate]; omega
      imm := fun i d' e => by
        rcases tl i _ e with ⟨_, z⟩ | ⟨j, rfl, z | ⟨d'', z, g⟩⟩
        · cases z
        · cases z
        · cases z
          obtain ⟨v, g1, g2⟩ := r.get g
          have hi : j < vr.length := (List.getElem?_eq_some_iff.mp g1).1
          exact ⟨v, by rw [start_get, if_pos (by rw [List.length_cons]; omega), List.getElem?_cons_succ, g1]; rfl, g2⟩
      own := fun i d' o => by
        obtain ⟨rfl, rfl⟩ := ow i d' o
        exact ⟨a, s0, h1, h2, h3⟩
      inj := fun i j d1 d2 b o1 o2 _ _ => by rw [(ow i d1 o1).1, (ow j d2 o2).1]
      io := fun i d' e => by
        obtain ⟨rfl, rfl⟩ := ow i d' (.inr e)
        exact ⟨rfl, a, rfl, s0⟩
      ioh := fun b e => ⟨d, rfl⟩ }
/-- the body's end is the call's end -/
theorem end_ok {E : XK} {Q : VK} {io : Bool} {f : DS} {n : Nat} (h : ArgF W Fm Hb H io ds vs ia) (p : PostF W E Fm Hb ia Q (runF io n f ds)) : PostS W E Fm Hb ia { nx := fun _ H' => Q .non H', rt := Q } (f (env0 io n ds)) := by
  have hio : (io = false ∧ ia = none) ∨ (io = true ∧ ∃ a, ia = some a) := by
    cases io with
    | false => exact .inl ⟨rfl, h.1⟩
    | true =>
      obtain ⟨a, _, _, _, _, _, e, _⟩ := h
      exact .inr ⟨rfl, a, e⟩
  have out : ∀ {σ' : L2.St} {H' Hb' : Hp} {e : Env'}, Agr W Fm Hb' ia e σ' H' → OutF W Hb' H' ia (outOf io e) := fun {σ' H' Hb' e} A => by
    rcases hio with ⟨rfl, rfl⟩ | ⟨rfl, a, rfl⟩
    · trivial
    · obtain ⟨d, q⟩ := A.ioh a rfl
      obtain ⟨_, a', e1, e2⟩ := A.io 0 d q
      cases e1
      obtain ⟨b, g1, g2, g3, g4⟩ := A.own 0 d (.inr q)
      rw [e2] at g1
      cases g1
      have eo : outOf true e = some d := by unfold outOf; dsimp only; rw [q]
      rw [eo]
      exact ⟨g2, g4⟩
  unfold runF at p
  cases q : f (env0 io n ds) with
  | err x => rw [q] at p; exact p
  | bad => rw [q] at p; exact p.elim
  | ok r =>
    obtain ⟨fl, e⟩ := r
    rw [q] at p
    cases fl with
    | nx => exact fun σ' H' Hb' s A => p .non H' Hb' s A.bs rfl (out A)
    | bk => exact p.elim
    | ct => exact p.elim
    | rt val =>
      refine fun σ' H' Hb' s A v hv => p v H' Hb' s A.bs ?_ (out A)
      cases val with
      | imm d => exact hv
      | fresh d =>
        obtain ⟨z, rfl, h1, h2, h3, h4⟩ := hv
        refine ⟨z, rfl, h1, h2, h3, fun ei => ?_⟩
        obtain ⟨d', q'⟩ := A.ioh z ei
        obtain ⟨_, a', e1, e2⟩ := A.io 0 d' q'
        rw [ei] at e1
        cases e1
        exact h4 0 d' (.inr q') e2
end

/-- a def by its body -/
theorem fn_body {P : Program} {w : World} {K : PySem.W.Frag} {mg : Str → Option Value} {base : Heap} {k : Nat} {f : Addr} {name qual : Str} {params : Arguments} {body : List Stmt} {scope : Scope} {dV kV doc pm cdv ct oc : Value} {an od : Option Addr} {osl : Array (Option Value)} {N ps : List Str} {io : Bool} {fb : DS}
    (lk : K.lookup f = some ⟨oc, od, .func (PySem.W.fnOf name qual params body scope dV kV doc pm an cdv ct), osl⟩) (hcd : PySem.W.codeIn K cdv qual = true) (S : FnScope N ps scope)
    (hbody : ∀ (A : Around) (outer : List Env) (s : Shared) (H : Hp) (E : XK), A.guards = some [] → Room k (A.deeper (envOfC qual scope s.heap.objs.size f cdv)) → SSs (cxOf (L2.CX P w) P w K mg base N qual scope f cdv A outer s H E) E body fb) :
    FnG P w K mg base (k + 1) f (PySem.W.fnOf name qual params body scope dV kV doc pm an cdv ct) ps (spF ⟨K, mg⟩ ps.length io (runF io N.length fb)) where
  len := fun vs H Q E ⟨_, _, _, _, _, hl, _⟩ => hl
  run := fun A outer s H args us vs Q E hg hr e0 hb r hsp => by
    obtain ⟨Fm, Hb, ds, ia, bs, hl, ha, hp⟩ := hsp
    have inK : K.In s.heap := e0.mod.kin.keeps fun b o e => (e0.bs b o e).1
    have nolim : s.heap.NoLimit := e0.mod.nolimit.keeps fun b o e => (e0.bs b o e).1
    refine codeAny_call_function hr.depth (inK _ _ lk) rfl S.co S.gen rfl (PySem.W.codeRec_of inK hcd) (hb _ _ _ _ ?_)
    refine wpAny_newFunctionEnv_cells S.kind (fun z hz => ?_) fun env he s1 x => ?_
    · obtain ⟨n, v⟩ := z
      rcases S.par n (List.of_mem_zip hz).1 with q | q
      · exact .inl q
      · exact .inr ⟨q, PySem.W.cellsFrom_some _ _ _ (.inl q)⟩
    · subst he
      refine ⟨nolim.keeps x.toInCall.keep, codeAny_func ?_⟩
      have hpl : ps.length ≤ N.length := by
        have := congrArg List.length S.pre
        rw [List.length_take] at this
        omega
      have ht := hbody A outer s H E hg (hr.deeper _)
      have J0 := inv_start (CX := L2.CX P w) (P := P) (w := w) (N := N) (outer := outer) (E := E) S hr.hd e0 hl r x
      refine wpAny_mono (ht.run [] s1 (L2.start N vs) H { nx := fun _ H' => Q .non H', rt := Q } J0 ⟨Fm, Hb, ia, env0 io N.length ds, agr_start bs (by omega) ha, end_ok ha hp⟩) (fun fl s' hs => ?_) fun e s' hs => hs
      cases fl with
      | ret u =>
        obtain ⟨v, σ', H', J, rv, q⟩ := hs
        exact ⟨v, H', J.os, J.bare, J.base, J.hok, rv, q⟩
      | next =>
        obtain ⟨σ', H', J, q⟩ := hs
        exact ⟨V.non, H', J.os, J.bare, J.base, J.hok, rfl, q⟩
      | brk =>
        obtain ⟨_, _, _, q⟩ := hs
        exact q.elim
      | cont =>
        obtain ⟨_, _, _, q⟩ := hs
        exact q.elim

/-! ### the law's head -/
/-- the code objects whose tables are looked after: code, table -/
structure CsOk (K : PySem.W.Frag) (h : Heap) (cs : List (Addr × Addr)) : Prop where
  tab : ∀ p ∈ cs, h.get? p.2 = some { cls := .none, data := .fields #[] }
  out : ∀ p ∈ cs, K.lookup p.2 = none
  hd : ∀ p ∈ cs, PySem.W.CodeHd h p.1 p.2
/-- what H tracks at the start: the tables, and perhaps the script -/
structure Beg (cs : List (Addr × Addr)) (a : Addr) (H : Hp) : Prop where
  tabs : ∀ p ∈ cs, H p.2 = some (.tbl #[])
  only : ∀ b, H b = none ∨ (∃ p ∈ cs, b = p.2) ∨ ∃ o xs, H b = some (.frz o (.lst xs))
  at_ : ∀ b, H b ≠ none → b = a ∨ ∃ p ∈ cs, b = p.2
/-- the law's def runs on the heap behind the top -/
theorem law_at {P : Program} {w : World} {K : PySem.W.Frag} {mg mb : Str → Option Value} {k : Nat} {fa a : Addr} {fd : FuncData} {x : Str} {sp : Sp} {sh : Shared} {us : List Value} {ns : List Int} {cs : List (Addr × Addr)}
    (inK : K.In sh.heap) (hmain : sh.heap.Ns mainGlobals mg) (hbi : sh.heap.Ns builtinsNs mb) (hboot : ∀ y : Str, y ≠ "__name__" → mb y = bootBuiltins y) (nolim : sh.heap.NoLimit) (hgen : sh.gens = #[])
    (cok : CsOk K sh.heap cs) (hbm : ∃ (bm : Addr) (ob : Obj), mg "__builtins__" = some (.ref bm) ∧ bm ≠ builtinsNs ∧ sh.heap.get? bm = some ob ∧ ob.cls = .type "module" ∧ ob.dict = some builtinsNs ∧ ob.data = .plain)
    (hscr : sh.heap.get? a = some { cls := .type "list", data := .seq us.toArray }) (hi : IntsAre us ns) (hlen : ns.length ≤ sizeLine) (room : Room k callerA)
    (nodig : sh.heap.NoDigits) (F : ∀ b : Heap, K.In b → b.Ns mainGlobals mg → b.NoDigits → (∀ p ∈ cs, LamX.TabB b mg p.1 p.2) → FnG P w K mg b k fa fd [x] sp) (bnd : ∀ (t : Shared) (u : Value), BindsTo t fd ⟨[u], []⟩ [(x, u)])
    (hs : ∀ H : Hp, Beg cs a H → SqL K H a (ns.map V.int) → sp [.ref a] H (fun v _ => v = .bl true) fun _ _ _ => False) :
    codeAny (model P w) callerA (.call (.ref fa) ⟨[.ref a], []⟩) (fun r t => r = .ok (.ret (.bool true)) ∧ OldK sh.heap t.heap ∧ t.os = sh.os ∧ AllBare t.gens) sh := by
  have vals := vals_ints hi
  have hln := hi.length
  have notA : ∀ p ∈ cs, p.2 ≠ a := fun p hp z => by
    have e := cok.tab p hp
    rw [z, hscr] at e
    exact nomatch (show Data.seq us.toArray _ = Data.fields #[] from congrArg Obj.data (Option.some.inj e))
  have go : ∀ H : Hp, Beg cs a H → SqL K H a (ns.map V.int) → HOk P w H sh.heap → (H a ≠ none → K.lookup a = none) →
      codeAny (model P w) callerA (.call (.ref fa) ⟨[.ref a], []⟩) (fun r t => r = .ok (.ret (.bool true)) ∧ OldK sh.heap t.heap ∧ t.os = sh.os ∧ AllBare t.gens) sh := by
    intro H beg scr hokH notK
    have unT : ∀ {b : Addr} {o : Obj}, sh.heap.get? b = some o → (∀ vs n, o.data ≠ .seq vs n) → o.data ≠ .fields #[] → H b = none := fun {b o} e n1 n2 => by
      cases q : H b with
      | none => rfl
      | some u =>
        rcases beg.at_ b (by rw [q]; simp) with rfl | ⟨p, hp, rfl⟩
        · rw [hscr] at e
          cases e
          exact (n1 _ _ rfl).elim
        · rw [cok.tab p hp] at e
          cases e
          exact (n2 rfl).elim
    have ns' : ∀ {b : Addr} {m : Str → Option Value}, sh.heap.Ns b m → (hidT sh.heap H).Ns b m := fun {b m} ⟨o, es, ep, e, d, r⟩ =>
      ⟨o, es, ep, hidT_get e (unT e (fun vs n z => by rw [d] at z; cases z) fun z => by rw [d] at z; cases z), d, r⟩
    have inB : K.In (hidT sh.heap H) := fun b o e => hidT_get (inK b o e) (by
      cases q : H b with
      | none => rfl
      | some u =>
        rcases beg.at_ b (by rw [q]; simp) with rfl | ⟨p, hp, rfl⟩
        · rw [notK (by rw [q]; simp)] at e
          cases e
        · rw [cok.out p hp] at e
          cases e)
    have tbs : ∀ p ∈ cs, LamX.TabB (hidT sh.heap H) mg p.1 p.2 := fun p hp => by
      have tp := cok.tab p hp
      constructor
      · obtain ⟨o, vs, f1, f2, f3, f4, f5, f6, f7, g1, g0, g2, g3, rest⟩ := cok.hd p hp
        refine ⟨o, vs, f1, f2, f3, f4, f5, f6, f7, hidT_get g1 (unT g1 (fun ws n z => ?_) fun z => ?_), g0, g2, g3, rest⟩
        · rw [g2] at z
          cases z
        · rw [g2] at z
          cases z
          simp at g3
      · obtain ⟨bm, ob, m1, m2, m3, m4, m5, m6⟩ := hbm
        refine ⟨bm, ob, m1, m2, fun z => ?_, fun z => ?_, hidT_get m3 (unT m3 (fun ws n y => ?_) fun y => ?_), m4, m5, m6⟩
        · obtain ⟨o, es, ep, e, hd, _⟩ := hmain
          rw [z, e] at m3
          cases m3
          rw [hd] at m6
          cases m6
        · rw [z, tp] at m3
          cases m3
          cases m6
        · rw [m6] at y
          cases y
        · rw [m6] at y
          cases y
      · intro z
        obtain ⟨o, es, ep, e, hd, _⟩ := hmain
        rw [z, tp] at e
        cases e
        cases hd
    obtain ⟨mc, l1, l2⟩ := nolim
    have env : Env0 P w K mg (hidT sh.heap H) callerA [] sh H := ⟨rfl, ⟨inB, ns' hmain, ⟨mb, ns' hbi, hboot⟩, mc, ns' l1, l2⟩, fun b o e => of_hidT e, Nat.le_of_eq (hidT_size _ _), trivial, fun b hb => (nomatch (show b ∈ ([] : List Addr) from hb)), hokH, .of_eq hgen⟩
    refine codeAny_mono ((F _ inB (ns' hmain) (let ⟨mk, d1, d2⟩ := nodig; ⟨mk, ns' d1, d2⟩) tbs).run callerA [] sh H ⟨[.ref a], []⟩ [.ref a] [.ref a] _ _ rfl room env (bnd sh (.ref a)) (.cons rfl .nil) (hs H beg scr)) fun r t h => ?_
    cases r with
    | error e =>
      obtain ⟨_, _, _, _, _, _, _, _, _, _, _, _, no⟩ := h
      exact no.elim
    | ok fl =>
      cases fl with
      | next => exact h.elim
      | brk => exact h.elim
      | cont => exact h.elim
      | ret u =>
        obtain ⟨v, H', os, bare, un, hok', rl, q⟩ := h
        obtain rfl : v = .bl true := q
        obtain rfl : u = Value.bool true := rl
        have stays : ∀ b o, (∀ p ∈ cs, b ≠ p.2) → sh.heap.get? b = some o → t.heap.get? b = some o := fun b o nb e => by
          rcases beg.only b with z | ⟨p, hp, z⟩ | ⟨ob, xs, z⟩
          · exact un.keep b o e z (fun y => nomatch (show b ∈ ([] : List Addr) from y)) (by simp)
          · exact absurd z (nb p hp)
          · obtain ⟨e1, _⟩ := hokH b _ z
            obtain ⟨e2, _⟩ := hok' b _ (un.frzs b ob _ z)
            rw [e] at e1
            cases e1
            exact e2
        have grow : ∀ p ∈ cs, ∃ more : Array Value, t.heap.get? p.2 = some { cls := .none, data := .fields more } := fun p hp => by
          obtain ⟨more, z⟩ := un.tbls p.2 #[] (beg.tabs p hp)
          exact ⟨_, hok' p.2 _ z⟩
        refine ⟨rfl, ⟨fun b o e => ?_, fun b o e => ?_⟩, os, bare⟩
        · by_cases hb : ∃ p ∈ cs, b = p.2
          · obtain ⟨p, hp, rfl⟩ := hb
            obtain ⟨more, hm⟩ := grow p hp
            rw [cok.tab p hp] at e
            cases e
            exact .inr (.inl ⟨((cok.hd p hp).tab (cok.tab p hp)).isCodeTable, rfl, #[], more, rfl, by rw [Array.empty_append]; exact hm⟩)
          · exact .inl (stays b o (fun p hp z => hb ⟨p, hp, z⟩) e)
        · by_cases hb : ∃ p ∈ cs, b = p.2
          · obtain ⟨p, hp, rfl⟩ := hb
            obtain ⟨more, hm⟩ := grow p hp
            exact ⟨_, hm⟩
          · exact ⟨o, stays b o (fun p hp z => hb ⟨p, hp, z⟩) e⟩
  cases hk : K.lookup a with
  | some o =>
    have e := inK a o hk
    rw [hscr] at e
    cases e
    have at' : ∀ b u, (fun b => open Classical in if ∃ p ∈ cs, b = p.2 then some (.tbl #[]) else none : Hp) b = some u → (∃ p ∈ cs, b = p.2) ∧ u = .tbl #[] := fun b u z => by
      by_cases hb : ∃ p ∈ cs, b = p.2
      · exact ⟨hb, (Option.some.inj ((if_pos hb).symm.trans z)).symm⟩
      · exact nomatch (if_neg hb).symm.trans z
    refine go (fun b => open Classical in if ∃ p ∈ cs, b = p.2 then some (.tbl #[]) else none) ⟨fun p hp => if_pos ⟨p, hp, rfl⟩, fun b => ?_, fun b z => ?_⟩ (.inr ⟨_, us.toArray, _, hk, rfl, rfl, rfl, by rw [List.size_toArray, hln]; exact hlen, by simpa using vals⟩) (fun b u z => ?_) fun z => absurd (if_neg fun ⟨p, hp, y⟩ => notA p hp y.symm) z
    · by_cases hb : ∃ p ∈ cs, b = p.2
      · exact .inr (.inl hb)
      · exact .inl (if_neg hb)
    · by_cases hb : ∃ p ∈ cs, b = p.2
      · exact .inr hb
      · exact absurd (if_neg hb) z
    · obtain ⟨⟨p, hp, rfl⟩, rfl⟩ := at' b u z
      exact cok.tab p hp
  | none =>
    have at' : ∀ b u, (fun b => open Classical in if b = a then some (HO.frz { cls := .type "list", data := .seq us.toArray } (.lst (ns.map V.int))) else if ∃ p ∈ cs, b = p.2 then some (.tbl #[]) else none : Hp) b = some u →
        (b = a ∧ u = HO.frz { cls := .type "list", data := .seq us.toArray } (.lst (ns.map V.int))) ∨ ((∃ p ∈ cs, b = p.2) ∧ u = .tbl #[]) := fun b u z => by
      by_cases hb : b = a
      · exact .inl ⟨hb, Option.some.inj (z.symm.trans (if_pos hb))⟩
      · have z := (if_neg hb).symm.trans z
        by_cases hc : ∃ p ∈ cs, b = p.2
        · exact .inr ⟨hc, (Option.some.inj ((if_pos hc).symm.trans z)).symm⟩
        · exact nomatch (if_neg hc).symm.trans z
    refine go (fun b => open Classical in if b = a then some (.frz { cls := .type "list", data := .seq us.toArray } (.lst (ns.map V.int))) else if ∃ p ∈ cs, b = p.2 then some (.tbl #[]) else none) ⟨fun p hp => (if_neg (notA p hp)).trans (if_pos ⟨p, hp, rfl⟩), fun b => ?_, fun b z => ?_⟩
      (.inl (.inr ⟨{ cls := .type "list", data := .seq us.toArray }, if_pos rfl⟩)) (fun b u z => ?_) fun _ => hk
    · by_cases hb : b = a
      · exact .inr (.inr ⟨_, _, if_pos hb⟩)
      · by_cases hc : ∃ p ∈ cs, b = p.2
        · exact .inr (.inl hc)
        · exact .inl ((if_neg hb).trans (if_neg hc))
    · by_cases hb : b = a
      · exact .inl hb
      · by_cases hc : ∃ p ∈ cs, b = p.2
        · exact .inr hc
        · exact absurd ((if_neg hb).trans (if_neg hc)) z
    · rcases at' b u z with ⟨rfl, rfl⟩ | ⟨⟨p, hp, rfl⟩, rfl⟩
      · exact ⟨hscr, by rw [List.length_map]; exact hlen, us, _, vals, hscr⟩
      · exact cok.tab p hp
/-- what is wanted of the law's data function -/
def LawTrue (F : List Dt → FR) (n : Nat) : Prop := ∀ ns : List Int, ns.length ≤ n → ∃ val, F [.scr ns] = .ok (val, none) ∧ val = .imm (.bl true)
/-- what is known of the code objects of the top's defs -/
def TabsK (q : Program) (K : PySem.W.Frag) (h : Heap) : Prop := ∀ (x : Str) (c P : Addr), ((recsOf q).any fun e => e.name == x) = true → PySem.W.tabIn K x = some (c, P) → PySem.W.CodeHd h c P ∧ h.get? P = some { cls := .none, data := .fields #[] }
omit [TabT] in
theorem walk_G {l : PySem.W.OpenLaw} {n k : Nat} {q : Program} {loose : List Str} {XP : (Str → Option Value) → Heap → Prop} {YP : World → Heap → Prop} {d : DefRec} {K : Params → PySem.W.Frag} {F : List Dt → FR} {x : Str}
    (hn : l.most = some n) (hn2 : n ≤ sizeLine) (hdf : d.params.defaults = []) (room : Room k callerA) (hY : ∀ (w : World) (h : Heap), YP w h → (K w.params).In h)
    (Fo : ∀ (w : World) (mg : Str → Option Value) (fa : Addr) (h : Heap), (K w.params).In h → h.Ns mainGlobals mg → mg d.name = some (.ref fa) → TabsK q (K w.params) h →
      ∃ (I : TabT) (cs : List (Addr × Addr)) (fd : FuncData), CsOk (K w.params) h cs ∧ (∀ p ∈ I.T, ∃ c, (c, p.1) ∈ cs) ∧ (∀ (s : Shared) (u : Value), BindsTo s fd ⟨[u], []⟩ [(x, u)]) ∧
        ∀ base : Heap, (K w.params).In base → base.Ns mainGlobals mg → base.NoDigits → (∀ p ∈ cs, LamX.TabB base mg p.1 p.2) → FnG l.prog w (K w.params) mg base k fa fd [x] (@spF I ⟨K w.params, mg⟩ 1 false F))
    (hF : LawTrue F n) : PySem.W.WalkO q loose XP YP l.row.toRowW d [] (fun f vs => PySem.call f vs) := by
  refine Att.attach_call hn hdf fun w s₀ s₁ mg mb fa o pm cd doc a vs ns G Y ho hd hcd hmg hobj hints hlen hg => ?_
  have inK := hY w _ Y
  have tk : TabsK q (K w.params) s₁.heap := fun y c P hr ht => by
    obtain ⟨e, he, h2⟩ := List.any_eq_true.mp hr
    cases hf : (recsOf q).find? fun e => e.name == y with
    | none => exact absurd h2 (List.find?_eq_none.mp hf e he)
    | some d' => exact PySem.W.tab_of G.T inK hf ht
  obtain ⟨I, cs, fd, cok, hT, hb, hFo⟩ := Fo w mg fa _ inK G.T.g hmg tk
  refine law_at inK G.T.g G.T.b G.T.builtins G.T.nolimit hg cok G.T.bmain hobj hints (Nat.le_trans hlen hn2) room G.T.nodigits hFo hb fun H beg scr => ?_
  obtain ⟨val, hv, rfl⟩ := hF ns hlen
  have noT : ∀ p ∈ cs, p.2 ≠ a := fun p hp z => by
    have e := cok.tab p hp
    rw [z, hobj] at e
    exact nomatch (show Data.seq vs.toArray _ = Data.fields #[] from congrArg Obj.data (Option.some.inj e))
  -- the base: all but the tables
  have same : @Same (fun b => open Classical in if ∃ p ∈ cs, b = p.2 then none else H b) H := fun b u e => by
    by_cases hb : ∃ p ∈ cs, b = p.2
    · exact nomatch (if_pos hb).symm.trans e
    · exact (if_neg hb).symm.trans e
  refine ⟨fun _ => none, fun b => open Classical in if ∃ p ∈ cs, b = p.2 then none else H b, [.scr ns], none, ⟨same, fun _ _ e => (nomatch e), fun _ _ e => (nomatch e), fun _ _ e => (nomatch e), fun p hp => ?_, fun b ps e => ?_⟩, rfl, ⟨rfl, _, _, rfl, ⟨a, rfl, ?_⟩, rfl⟩, ?_⟩
  · obtain ⟨c, hc⟩ := hT p hp
    exact LamX.TabS.nil (beg.tabs _ hc)
  · by_cases hb : ∃ p ∈ cs, b = p.2
    · exact nomatch (if_pos hb).symm.trans e
    · have e := (if_neg hb).symm.trans e
      rcases beg.only b with z | z | ⟨o, xs, z⟩
      · rw [z] at e
        cases e
      · exact hb z
      · rw [z] at e
        cases e
  · have ha : (fun b => open Classical in if ∃ p ∈ cs, b = p.2 then none else H b : Hp) a = H a := if_neg fun ⟨p, hp, z⟩ => noT p hp z.symm
    rcases scr with z | z
    · rcases z with z | ⟨o, z⟩
      · exact .inl (.inl (ha.trans z))
      · exact .inl (.inr ⟨o, ha.trans z⟩)
    · exact .inr z
  · rw [hv]
    exact fun v H' Hb' s b hv _ => hv
end G


set_option maxRecDepth 100000
set_option maxHeartbeats 4000000
/-! Kern13: repr of data, its ints of up to 3880 digits. -/
namespace G
open PySem PySem.Spec PyProof.Rows L2
variable [TabT]

/-! ### what may be shown, and how long it grows -/
mutual
def okP : PyData → Bool
  | .none => true
  | .bool _ => true
  | .int i => decide (i.natAbs < 2 ^ 12900)
  | .str _ => true
  | .list xs => okPs xs
  | .tuple xs => okPs xs
  | .dict _ => false
def okPs : List PyData → Bool
  | [] => true
  | x :: xs => okP x && okPs xs
end
mutual
def wtP : PyData → Nat
  | .none => 5
  | .bool _ => 5
  | .int _ => 12901
  | .str x => (reprText x).length
  | .list xs => 2 + wtPs xs
  | .tuple xs => 3 + wtPs xs
  | .dict _ => 0
def wtPs : List PyData → Nat
  | [] => 0
  | x :: xs => (wtP x + 2) + wtPs xs
end
theorem text_len : ∀ (ts : List Str) (k : Nat) (acc : Str), (textFrom k acc ts).length ≤ acc.length + (ts.map fun t => t.length + 2).sum
  | [], k, acc => Nat.le_refl _
  | t :: r, k, acc => by
    have h := text_len r (k + 1) (acc ++ (if k > 0 then ", " else "" : String) ++ t)
    have e : (acc ++ Str.ofString (if k > 0 then ", " else "" : String) ++ t).length ≤ acc.length + 2 + t.length := by
      rw [strLen_append, strLen_append]
      have : (Str.ofString (if k > 0 then ", " else "" : String)).length ≤ 2 := by split <;> decide
      omega
    show (textFrom (k + 1) (acc ++ (if k > 0 then ", " else "" : String) ++ t) r).length ≤ _
    rw [List.map_cons, List.sum_cons]
    omega
theorem piled_sum : ∀ ts : List Str, piled ts = (ts.map fun t => t.length + 2).sum
  | [] => rfl
  | t :: r => by
    rw [List.map_cons, List.sum_cons, ← piled_sum r]
    simp [piled]
mutual
theorem shown_le : ∀ d : PyData, okP d = true → d.shown.length ≤ wtP d
  | .none, _ => by simp only [PyData.shown, wtP]; decide
  | .bool b, _ => by cases b <;> (simp only [PyData.shown, wtP]; decide)
  | .int i, h => by
    have h' : i.natAbs < 2 ^ 12900 := of_decide_eq_true h
    have hl : i.natAbs.log2 < 12900 := by
      by_cases h0 : i.natAbs = 0
      · rw [h0]; decide
      · exact (Nat.log2_lt h0).mpr h'
    have e := int_text_length_le (k := 12900) (by decide) hl
    simp only [PyData.shown, wtP]
    rw [PySem.ofString_length]
    exact e
  | .str x, _ => by simp only [PyData.shown, wtP]; exact Nat.le_refl _
  | .list xs, h => by
    have e := showns_le xs h
    have t := text_len (PyData.shownAll xs) 0 "["
    simp only [PyData.shown, wtP]
    show (textFrom 0 "[" (PyData.shownAll xs) ++ Str.ofString "]").length ≤ _
    rw [strLen_append]
    have e1 : (Str.ofString "[").length = 1 := by decide
    have e2 : (Str.ofString "]").length = 1 := by decide
    omega
  | .tuple xs, h => by
    have e := showns_le xs h
    rw [← piled_sum] at e
    simp only [PyData.shown, wtP]
    unfold tupleText
    rw [strLen_append, strLen_append]
    have e1 : (Str.ofString "(").length = 1 := by decide
    have e2 : (Str.ofString (if (PyData.shownAll xs).length == 1 then ",)" else ")")).length ≤ 2 := by split <;> decide
    have e3 : (Str.join ", " (PyData.shownAll xs)).length ≤ piled (PyData.shownAll xs) := by
      by_cases hn : PyData.shownAll xs = []
      · rw [hn]; decide
      · have := join_length_add _ hn
        omega
    omega
  | .dict _, h => by cases h
theorem showns_le : ∀ ds : List PyData, okPs ds = true → ((PyData.shownAll ds).map fun t => t.length + 2).sum ≤ wtPs ds
  | [], _ => by simp [PyData.shownAll, wtPs]
  | x :: xs, h => by
    obtain ⟨h1, h2⟩ := (Bool.and_eq_true _ _).mp (show (okP x && okPs xs) = true from h)
    have e1 := shown_le x h1
    have e2 := showns_le xs h2
    simp only [PyData.shownAll, wtPs, List.map_cons, List.sum_cons]
    omega
end

/-! ### the interpreter's own code for it -/
section
variable {prog : Program} {w : World}
theorem lt_digits {i : Int} (h : i.natAbs < 2 ^ 12900) : i.natAbs < 10 ^ 4300 := Nat.lt_of_lt_of_le h pow_lo
theorem int_shown {A : Around} {E : Value → Shared → Prop} {s : Shared} {i : Int} {t : Tok} {Q : Value → Shared → Prop} (hn : s.heap.NoDigits) (hi : i.natAbs < 10 ^ 4300) (h : Q (.str (toString i) s.toks) { s with toks := s.toks + 1 }) :
    wpAny (model prog w) A (call (.builtin "int.__repr__") [.int i t]) Q E s := by
  refine wpAny_call (codeAny_call_builtin F.slot_int_repr.plain F.entry_int_repr (F.slot_int_repr.check _ _ _ _ _ _ _ _ (typeIs_int s i t) (F.args_int_repr_1 _) ?_))
  unfold Builtin.«int.__repr__»
  show wpAny _ _ (do let r ← Builtin.overDigitLimit? i; _) _ _ s
  refine wpAny_bind (overDigitLimit_any hn (fun hlt => ?_) fun hge => absurd hi (Nat.not_lt.mpr hge))
  exact wpAny_bind (wpAny_mkStr (wpAny_pure h) (int_text_fits10 hlt))
theorem obj_int_shown {A : Around} {E : Value → Shared → Prop} {s : Shared} {i : Int} {t : Tok} {Q : Value → Shared → Prop} (hn : s.heap.NoDigits) (hi : i.natAbs < 10 ^ 4300) (h : Q (.str (toString i) s.toks) { s with toks := s.toks + 1 }) :
    wpAny (model prog w) A (pyReprObj (.int i t)) Q E s := by
  have hv : [Value.int i t].any Value.onHeap = false := rfl
  unfold pyReprObj
  simp only [cRoomFor, hv, Bool.false_eq_true, if_false, pure_bind]
  refine wpAny_bind (wpAny_specialOf (name := Str.ofString "__repr__") (typeIs_int s i t) F.slot_int_repr.lookup ?_)
  refine wpAny_bind (m := callSpecialIfBound? (.int i t) (Str.ofString "__repr__")) (wpAny_callSpecialIfBound?_slot (name := Str.ofString "__repr__") (typeIs_int s i t) F.slot_int_repr (int_shown hn hi ?_))
  exact wpAny_bind (wpAny_isInstance (T := "str") (b := true) rfl isSubtype_str_str (wpAny_pure h))
theorem ks_int {h₀ : Heap} {as : List Addr} {d : Nat} {i : Int} {t : Tok} (hn : h₀.NoDigits) (hi : i.natAbs < 10 ^ 4300) : ReprK prog w as h₀ d (.int i t) (toString i) := fun b hb A g E s Q _ _ _ hk hQ => by
  rw [pyReprUnder_leaf (v := .int i t) (by omega) fun _ e => nomatch e]
  unfold pyRepr
  exact wpAny_bind (obj_int_shown (hn.keeps hk) hi (wpAny_pure (hQ s.heap _ fun _ _ e => e)))
variable {h₀ : Heap}
mutual
theorem ks_of (hn : h₀.NoDigits) : ∀ {v : Value} {d : PyData} {as : List Addr}, Reads h₀ v d as → okP d = true → d.shown.length ≤ sizeLine → ∃ bs, ReadAtMost h₀ d.depth bs ∧ ReprK prog w bs h₀ d.depth v d.shown
  | _, _, _, .none, _, _ => ⟨[], (fun _ h => nomatch h), .of_is (by rw [PyData.shown]; exact ReprIs.none) _ _ _⟩
  | _, _, _, .bool b, _, _ => ⟨[], (fun _ h => nomatch h), .of_is (by rw [PyData.shown]; exact ReprIs.bool b) _ _ _⟩
  | _, _, _, .int i t, h, _ => ⟨[], (fun _ h => nomatch h), by rw [PyData.shown]; exact ks_int hn (lt_digits (of_decide_eq_true h))⟩
  | _, _, _, .str x t, _, z => ⟨[], (fun _ h => nomatch h), .of_is (by rw [PyData.shown] at z ⊢; exact ReprIs.str x t z) _ _ _⟩
  | _, _, _, .list (a := a) (vs := us) (xs := xs) e1 e2 e3 e4, h, z => by
    rw [PyData.shown] at z
    have r : Reads h₀ (.ref a) (.list xs) _ := .list e1 e2 e3 e4
    obtain ⟨bs, rb, ks⟩ := kss_of hn e4 h fun t ht => Nat.le_trans (listText_mem_le ht) z
    have hd : (PyData.list xs).depth = PyData.depthAll xs + 1 := by rw [PyData.depth] <;> omega
    have na : a ∉ bs := not_mem_of_deeper r (by rw [hd]; exact Nat.lt_succ_self _) rb
    refine ⟨a :: bs, rb.cons r (by rw [hd]; exact Nat.le_succ _), ?_⟩
    rw [PyData.shown, hd]
    obtain ⟨l⟩ := us
    cases l with
    | nil =>
      have e4' : ReadsAll h₀ [] xs _ := e4
      cases e4'
      rw [PyData.shownAll, listText_nil]
      exact .listEmpty e1 e2 e3
    | cons y l => exact .list e1 e2 e3 na (by simpa using ks.length_eq) fun i y e => ks.item i y (by simpa using e)
  | _, _, _, .tuple (a := a) (xs := xs) e1 e2 e3 e4, h, z => by
    rw [PyData.shown] at z
    have r : Reads h₀ (.ref a) (.tuple xs) _ := .tuple e1 e2 e3 e4
    obtain ⟨bs, rb, ks⟩ := kss_of hn e4 h fun t ht => Nat.le_trans (tupleText_mem_le ht) z
    have hd : (PyData.tuple xs).depth = PyData.depthAll xs + 1 := by rw [PyData.depth] <;> omega
    have na : a ∉ bs := not_mem_of_deeper r (by rw [hd]; exact Nat.lt_succ_self _) rb
    refine ⟨a :: bs, rb.cons r (by rw [hd]; exact Nat.le_succ _), ?_⟩
    rw [PyData.shown, hd]
    exact .tuple e1 e2 e3 na ks
  | _, _, _, .dict _ _ _ _ _, h, _ => nomatch h
theorem kss_of (hn : h₀.NoDigits) : ∀ {vs : List Value} {ds : List PyData} {as : List Addr}, ReadsAll h₀ vs ds as → okPs ds = true → (∀ t ∈ PyData.shownAll ds, t.length ≤ sizeLine) → ∃ bs, ReadAtMost h₀ (PyData.depthAll ds) bs ∧ ReprAllK prog w bs h₀ (PyData.depthAll ds) vs (PyData.shownAll ds)
  | _, _, _, .nil, _, _ => ⟨[], (fun _ h => nomatch h), .nil⟩
  | _, _, _, .cons (d := d) (ds := ds) r rs, h, z => by
    obtain ⟨h1, h2⟩ := (Bool.and_eq_true _ _).mp (show (okP d && okPs ds) = true from h)
    have es : PyData.shownAll (d :: ds) = d.shown :: PyData.shownAll ds := by rw [PyData.shownAll]
    have ed : PyData.depthAll (d :: ds) = max d.depth (PyData.depthAll ds) := by rw [PyData.depthAll]
    rw [es] at z ⊢
    rw [ed]
    obtain ⟨b1, g1, k1⟩ := ks_of hn r h1 (z _ List.mem_cons_self)
    obtain ⟨b2, g2, k2⟩ := kss_of hn rs h2 fun t ht => z t (List.mem_cons_of_mem _ ht)
    exact ⟨b1 ++ b2, (g1.mono (Nat.le_max_left _ _)).append (g2.mono (Nat.le_max_right _ _)), .cons ((k1.more fun b hb => List.mem_append_left _ hb).level_le (Nat.le_max_left _ _)) (k2.more_le (fun b hb => List.mem_append_right _ hb) (Nat.le_max_right _ _))⟩
end
end

/-! ### the call -/
def reprOk (p : PyData) : Bool := okP p && decide (wtP p ≤ sizeLine) && decide (p.depth ≤ 100)
def rRepr (K : PySem.W.Frag) : List V → Hp → VK → Prop := fun vs H Q => ∃ x p, vs = [x] ∧ Dp K H x p ∧ reprOk p = true ∧ Q (.str p.shown) H
theorem cr_repr {X : Cx} (hg : X.A.guards = some []) (hu : X.A.units + 150 < cLine) (hn : X.base.NoDigits) : CallR X (.builtin "repr") (rRepr X.K) := by
  intro pins s σ H xs us Q I rv h
  obtain ⟨x, p, rfl, hd, hp, q⟩ := h
  obtain ⟨u, rfl, ru⟩ := vals1 rv
  obtain ⟨as, r⟩ := Dp.reads I p x u hd ru
  unfold reprOk at hp
  rw [Bool.and_eq_true, Bool.and_eq_true, decide_eq_true_eq, decide_eq_true_eq] at hp
  obtain ⟨⟨h1, h2⟩, h3⟩ := hp
  have hz : p.shown.length ≤ sizeLine := Nat.le_trans (shown_le p h1) h2
  have hns : s.heap.NoDigits := hn.keeps I.bk
  have fin : ∀ h' v tk, (∀ b o, s.heap.get? b = some o → h'.get? b = some o) → EP X pins σ Q (.str p.shown v) { s with heap := h', toks := tk } := fun h' v tk hk => ⟨.str p.shown, H, I.kept hk, ⟨v, rfl⟩, q⟩
  have fin2 : ∀ v tk, EP X pins σ Q (.str p.shown v) { s with toks := tk } := fun v tk => fin s.heap v tk fun _ _ e => e
  have hu1 : X.A.units + 1 < cLine := by omega
  cases r with
  | none => exact PySem.P.repr_of_none (by rw [PyData.shown] at fin2; exact fin2 _ _)
  | bool b => exact PySem.P.repr_of_bool (by rw [PyData.shown] at fin2; exact fin2 _ _)
  | str y t => exact PySem.P.repr_of_str (by rw [PyData.shown] at fin2; exact fin2 _ _) (by rw [PyData.shown] at hz; exact hz)
  | int i t => exact call_repr_slot hu1 (typeIs_int s i t) F.slot_int_repr.toG (int_shown hns (lt_digits (of_decide_eq_true h1)) ⟨_, _, rfl, by rw [PyData.shown] at fin2; exact fin2 _ _⟩)
  | @list a o vs n xs as e1 e2 e3 e4 =>
    have r : Reads s.heap (.ref a) (.list xs) _ := .list e1 e2 e3 e4
    have ed : (PyData.list xs).depth = PyData.depthAll xs + 1 := by rw [PyData.depth] <;> omega
    rw [PyData.shown] at hz
    obtain ⟨bs, rb, ks⟩ := kss_of (prog := X.prog) (w := X.w) hns e4 h1 fun t ht => Nat.le_trans (listText_mem_le ht) hz
    have na : a ∉ bs := not_mem_of_deeper r (by rw [ed]; exact Nat.lt_succ_self _) rb
    refine call_repr_slot hu1 ⟨o, e1, e2⟩ F.slot_list_repr.toG ?_
    rw [PyData.shown] at fin
    obtain ⟨l⟩ := vs
    cases l with
    | nil =>
      have e4' : ReadsAll s.heap [] xs _ := e4
      cases e4'
      rw [PyData.shownAll, listText_nil] at fin
      exact call_list_repr_empty ⟨o, e1, e2⟩ e1 e3 ⟨_, _, rfl, fin s.heap _ _ fun _ _ e => e⟩
    | cons y l =>
      exact call_list_reprK e1 e2 e3 na (by simpa using ks.length_eq) (fun i y e => ks.item i y (by simpa using e)) (A := X.A.in1) (g := []) hg (fun b _ => Clear.nil b) (by show X.A.units + 1 + _ < _; omega) (fun _ _ e => e) (fun h' v tk hk => ⟨_, _, rfl, fin h' v tk hk⟩) hz
  | @tuple a o vs n xs as e1 e2 e3 e4 =>
    have r : Reads s.heap (.ref a) (.tuple xs) _ := .tuple e1 e2 e3 e4
    have ed : (PyData.tuple xs).depth = PyData.depthAll xs + 1 := by rw [PyData.depth] <;> omega
    rw [PyData.shown] at hz
    obtain ⟨bs, rb, ks⟩ := kss_of (prog := X.prog) (w := X.w) hns e4 h1 fun t ht => Nat.le_trans (tupleText_mem_le ht) hz
    have na : a ∉ bs := not_mem_of_deeper r (by rw [ed]; exact Nat.lt_succ_self _) rb
    rw [PyData.shown] at fin
    exact call_repr_slot hu1 ⟨o, e1, e2⟩ F.slot_tuple_repr (call_tuple_reprK e1 e2 e3 na ks (A := X.A.in1) (g := []) hg (fun b _ => Clear.nil b) (by show X.A.units + 1 + _ < _; omega) (fun _ _ e => e) (fun h' v tk hk => ⟨_, _, rfl, fin h' v tk hk⟩) hz)
  | dict _ _ _ _ _ => cases h1
def bRepr : List Dt → Res Val
  | [d] => match dToP d with
    | some p => if reprOk p = true then .ok (.imm (.str p.shown)) else .bad
    | none => .bad
  | _ => .bad
theorem cas_repr {W : Wd} : CaS W (rRepr W.K) bRepr := by
  intro EX Fm Hb ia env σ H ds vs Q A r p
  unfold bRepr at p
  split at p
  · rename_i d
    split at p
    · rename_i q hq
      split at p
      · rename_i hok
        obtain ⟨v, rfl, h1⟩ := r.one
        exact ⟨v, q, rfl, (RdD.mono A.bs.hb _ _ h1).dp hq, hok, Post.imm p A rfl⟩
      · exact p.elim
    · exact p.elim
  · exact p.elim
end G


set_option maxRecDepth 100000
set_option maxHeartbeats 4000000
/-! Kern14: what a def of the text needs: its arguments' shape, its body; isinstance; names of the module. -/
namespace G
open PySem PySem.Spec PyProof.Rows L2
variable [TabT]

section
variable {X : Cx} {EX : XK} {pos p p1 p2 p3 tpos : Pos} {e a b c : Expr} {f fa fb fc : DE}
/-! ### small things -/
def opNeg : Dt → Res Val
  | .int i => vI (-i)
  | _ => .bad
def dUn (g : Dt → Res Val) (f : DE) : DE := fun env => (f env).bind fun p => (g p.1.d).map fun v => (v, p.2)
theorem se_neg (ha : SE X EX a f) : SE X EX (.UnaryOp .USub a pos) (dUn opNeg f) := pe_mono (pe_un un_neg ha) fun σ H Q ⟨Fm, Hb, ia, env, A, p⟩ =>
  ⟨Fm, Hb, ia, env, A, Post.bindV p fun va e1 x H1 Hb1 s1 A1 r1 q1 => by
    dsimp only at q1
    generalize va.d = d at q1 r1
    cases d <;> first
      | exact q1.elim
      | skip
    rename_i i
    exact ⟨i, r1, Post.imm q1 A1 rfl⟩⟩
theorem se_chain {op op' : CmpOp} {r r' : R2} {g g' : Dt → Dt → Res Val} (ho : OpR X (compareOp op) r) (ho' : OpR X (compareOp op') r') (hs : OpS (wd X) r g) (hs' : OpS (wd X) r' g') (ha : SE X EX a fa) (hb : SE X EX b fb) (hc : SE X EX c fc) (hm : lastMarks [op, op'] [b, c] = false) :
    SE X EX (.Compare a [op, op'] [b, c] pos) (dChain g g' fa fb fc) := pe_mono (pe_chain ho ho' ha hb hc hm) (rd_chain hs hs')
theorem st_chain {op op' : CmpOp} {r r' : R2} {g g' : Dt → Dt → Res Val} (ho : OpR X (compareOp op) r) (ho' : OpR X (compareOp op') r') (hs : OpS (wd X) r g) (hs' : OpS (wd X) r' g') (ha : SE X EX a fa) (hb : SE X EX b fb) (hc : SE X EX c fc) (hm : lastMarks [op, op'] [b, c] = false) :
    ST X EX (.Compare a [op, op'] [b, c] pos) (dTest (dChain g g' fa fb fc)) := pt_mono (pt_chain ho ho' ha hb hc hm) fun σ H Q h => by
  have q := rd_test (W := wd X) σ H Q h
  exact rd_chain hs hs' σ H _ q
theorem se_int {i : Int} {j} : SE X EX (.Constant (.int i) j pos) (dC (.int i)) := se_c pe_int rfl
theorem se_bl {i : Bool} {j} : SE X EX (.Constant (.bool i) j pos) (dC (.bl i)) := se_c pe_bl rfl
theorem se_non {j} : SE X EX (.Constant .none j pos) (dC .non) := se_c pe_non rfl
theorem se_str {x : Str} {j} : SE X EX (.Constant (.str x) j pos) (dC (.str x)) := se_c pe_str rfl
theorem se_glob {x : Str} {v : V} {u : Value} {d : Dt} (hg : Gl X x) (hm : X.mg x = some u) (r : RelV v u) (hd : flatD v = some d) (hb : (x == ("__debug__" : Str)) = false) : SE X EX (.Name x pos) (dC d) := se_c (pe_glob hg hm r hb) hd

/-! ### isinstance -/
def tyS : Dt → Option String
  | .non => some "NoneType"
  | .bl _ => some "bool"
  | .int _ => some "int"
  | .str _ => some "str"
  | .lst _ => some "list"
  | .scr _ => some "list"
  | .tup _ => some "tuple"
  | .dct _ _ => some "dict"
  | .dcf _ _ => none
  | .obj _ _ _ => none
  | .exn _ _ _ => none
theorem tyS_rd {W : Wd} {H : Hp} {d : Dt} {v : V} {t : String} (r : RdD W H d v) (h : tyS d = some t) : TyX W.K H v (.type t) := by
  cases d with
  | non => cases h; cases (show v = .non from r); exact .base .non
  | bl b => cases h; cases (show v = .bl b from r); exact .base (.bl b)
  | int i => cases h; cases (show v = .int i from r); exact .base (.int i)
  | str x => cases h; cases (show v = .str x from r); exact .base (.str x)
  | lst ds =>
    cases h
    obtain ⟨a, vs, rfl, h1, _⟩ := r
    exact .base (.lst h1)
  | scr ns =>
    cases h
    obtain ⟨a, rfl, h1⟩ := r
    rcases h1 with (h1 | ⟨o, h1⟩) | ⟨o, us, n, h1, h2, _⟩
    · exact .base (.lst h1)
    · exact .base (.frz h1)
    · exact .kList h1 h2
  | tup ds =>
    cases h
    obtain ⟨a, vs, rfl, h1, _⟩ := r
    exact .base (.tup h1)
  | dct ks ds =>
    cases h
    obtain ⟨a, rfl, kk, vs, h1, _⟩ := r
    exact .base (.dT h1)
  | dcf _ _ => cases h
  | obj _ _ _ => cases h
  | exn _ _ _ => cases h
def isiD (T : String) (d : Dt) : Res Val := match (tyS d).bind fun t => kitB t T with
  | some b => vB b
  | none => .bad
def isiD2 (T U : String) (d : Dt) : Res Val := match (tyS d).bind fun t => kitB t T, (tyS d).bind fun t => kitB t U with
  | some b, some c => vB (b || c)
  | _, _ => .bad
theorem isi_of {T : String} {d : Dt} {b : Bool} (h : ((tyS d).bind fun t => kitB t T) = some b) : ∃ t, tyS d = some t ∧ kitB t T = some b := Option.bind_eq_some_iff.mp h
theorem se_isi {x y : Str} {T : String} (hg : Gl X x) (hm : X.mg x = none) (hv : bootBuiltins x = some (.builtin "isinstance")) (hn : x ≠ "__name__") (hdb : (x == ("__debug__" : Str)) = false)
    (hg2 : Gl X y) (hm2 : X.mg y = none) (hv2 : bootBuiltins y = some (.type T)) (hn2 : y ≠ "__name__") (hdb2 : (y == ("__debug__" : Str)) = false) (ha : SE X EX a f) (hst : isStar a = false) :
    SE X EX (.Call (.Name x p) [a, .Name y p1] [] pos) (dUn (isiD T) f) := by
  have hA : PA X [a, .Name y p1] (tCons (rdE (wd X) EX f) (tCons (tC (.ty T)) tNil)) := pa_cons ha (pa_cons (pe_bltn hg2 hm2 hv2 rfl hn2 hdb2) pa_nil (star_no rfl)) (star_no hst)
  refine pe_mono (pe_callB call_isi hg hm hv hA hn hdb (star_no hst) (star_none rfl)) fun σ H Q ⟨Fm, Hb, ia, env, A, p⟩ => ?_
  refine ⟨Fm, Hb, ia, env, A, Post.bindV p fun va e1 v H1 Hb1 s1 A1 r1 q1 => ?_⟩
  dsimp only [isiD] at q1
  split at q1
  · rename_i b hb
    obtain ⟨t, h1, h2⟩ := isi_of hb
    exact ⟨v, .ty T, .type t, .type T, b, rfl, .ty T, tyS_rd (RdD.mono A1.bs.hb _ _ r1) h1, kit_ty h2, Post.imm q1 A1 rfl⟩
  · exact q1.elim
theorem se_isi2 {x y z : Str} {T U : String} {kk : Nat} (hg : Gl X x) (hm : X.mg x = none) (hv : bootBuiltins x = some (.builtin "isinstance")) (hn : x ≠ "__name__") (hdb : (x == ("__debug__" : Str)) = false)
    (hg2 : Gl X y) (hm2 : X.mg y = none) (hv2 : bootBuiltins y = some (.type T)) (hn2 : y ≠ "__name__") (hdb2 : (y == ("__debug__" : Str)) = false)
    (hg3 : Gl X z) (hm3 : X.mg z = none) (hv3 : bootBuiltins z = some (.type U)) (hn3 : z ≠ "__name__") (hdb3 : (z == ("__debug__" : Str)) = false) (ha : SE X EX a f) (hst : isStar a = false) :
    SE X EX (.Call (.Name x p) [a, .Tuple [.Name y p1, .Name z p2] kk tpos] [] pos) (dUn (isiD2 T U) f) := by
  have hA : PA X [a, .Tuple [.Name y p1, .Name z p2] kk tpos] (tCons (rdE (wd X) EX f) (tCons (tTup (tCons (tC (.ty T)) (tCons (tC (.ty U)) tNil))) tNil)) :=
    pa_cons ha (pa_cons (pe_tup (pa_cons (pe_bltn hg2 hm2 hv2 rfl hn2 hdb2) (pa_cons (pe_bltn hg3 hm3 hv3 rfl hn3 hdb3) pa_nil (star_no rfl)) (star_no rfl))) pa_nil (star_no rfl)) (star_no hst)
  refine pe_mono (pe_callB call_isiT hg hm hv hA hn hdb (star_no hst) (star_none rfl)) fun σ H Q ⟨Fm, Hb, ia, env, A, p⟩ => ?_
  refine ⟨Fm, Hb, ia, env, A, Post.bindV p fun va e1 v H1 Hb1 s1 A1 r1 q1 => ⟨by show 2 ≤ sizeLine; decide, fun t ht => ?_⟩⟩
  dsimp only [isiD2] at q1
  split at q1
  · rename_i b c hb hc
    obtain ⟨t1, h1, h2⟩ := isi_of hb
    obtain ⟨t2, h3, h4⟩ := isi_of hc
    rw [h1] at h3
    cases h3
    have hn := A1.bs.hb.free ht
    have A2 := A1.lay (o := .tup [.ty T, .ty U]) ht (fun _ z => nomatch z)
    refine ⟨v, t, [.ty T, .ty U], .type t1, [.type T, .type U], b || c, rfl, upd_same, .cons (.ty T) (.cons (.ty U) .nil), tyS_rd (RdD.mono A2.bs.hb _ _ (RdD.mono (same_lay hn) _ _ r1)) h1, ?_, Post.imm (Post.mono (same_lay hn) q1) A2 rfl⟩
    refine kitAny_cons (kit_ty h2) (fun eb => kitAny_cons (kit_ty h4) (fun ec => ?_) fun ec => ?_) fun eb => ?_
    · rw [eb, ec]; exact kitAny_nil
    · rw [ec, Bool.or_true]
    · rw [eb, Bool.true_or]
  · exact q1.elim
end

/-! ### defs of the text -/
def Src.u (us ws : List Value) : Src → Value
  | .pos i => (us[i]?).getD .none
  | .kw j => (ws[j]?).getD .none
  | .cst _ _ => .none
def Src.plain : Src → Bool
  | .cst _ _ => false
  | _ => true
theorem src_rel {vs zs : List V} {us ws : List Value} (r1 : Vals vs us) (r2 : Vals zs ws) : ∀ {src : List Src}, src.all (Src.ok vs.length zs.length) = true → src.all Src.plain = true → Vals (src.map (Src.v vs zs)) (src.map (Src.u us ws))
  | [], _, _ => .nil
  | x :: src, h, k => by
    rw [List.all_cons, Bool.and_eq_true] at h k
    refine .cons ?_ (src_rel r1 r2 h.2 k.2)
    cases x with
    | pos i =>
      have hi : i < vs.length := of_decide_eq_true h.1
      have e1 := List.getElem?_eq_getElem hi
      obtain ⟨u, e2, r⟩ := r1.get e1
      show RelV ((vs[i]?).getD .non) ((us[i]?).getD .none)
      rw [e1, e2]
      exact r
    | kw i =>
      have hi : i < zs.length := of_decide_eq_true h.1
      have e1 := List.getElem?_eq_getElem hi
      obtain ⟨u, e2, r⟩ := r2.get e1
      show RelV ((zs[i]?).getD .non) ((ws[i]?).getD .none)
      rw [e1, e2]
      exact r
    | cst j v => cases k.1
section
variable {P : Program} {w : World} {K : PySem.W.Frag} {mg : Str → Option Value} {base : Heap} {x qual : Str} {st : Stmt} {f : Addr} {fd : FuncData} {N ps : List Str} {k : Nat}
theorem shape_of (F : Fun K x qual st f fd) (sh : Shape) (hok : sh.src.all (Src.ok sh.np sh.ks.length) = true) (hpl : sh.src.all Src.plain = true)
    (h : ∀ (kV doc pm : Value) (an : Option Addr) (cdv ct : Value) (us ws : List Value), us.length = sh.np → ws.length = sh.ks.length →
      bindArgs (PySem.W.fnOf x qual (defArgs st) (defBody st) (defScope st) .none kV doc pm an cdv ct) ⟨us, sh.ks.zip ws⟩ = pure (ps.zip (sh.src.map (Src.u us ws)))) : ShapeOk K fd ps sh (fun us ws => sh.src.map (Src.u us ws)) := by
  obtain ⟨oc, od, kV, doc, pm, an, cdv, ct, osl, rfl, lk, hcd⟩ := F.ex
  exact ⟨fun s us ws _ h1 h2 => .of_eq (h kV doc pm an cdv ct us ws h1 h2), fun r1 r2 h1 h2 => src_rel r1 r2 (by rw [h1, h2]; exact hok) hpl⟩
theorem binds_of (F : Fun K x qual st f fd) (n : Nat) (h : ∀ (kV doc pm : Value) (an : Option Addr) (cdv ct : Value) (us : List Value), us.length = n →
      bindArgs (PySem.W.fnOf x qual (defArgs st) (defBody st) (defScope st) .none kV doc pm an cdv ct) ⟨us, []⟩ = pure (ps.zip us)) : ∀ (s : Shared) (us : List Value), K.In s.heap → us.length = n → BindsTo s fd ⟨us, []⟩ (ps.zip us) := by
  obtain ⟨oc, od, kV, doc, pm, an, cdv, ct, osl, rfl, lk, hcd⟩ := F.ex
  exact fun s us _ hl => .of_eq (h kV doc pm an cdv ct us hl)
/-- a body's context -/
abbrev CB (P : Program) (w : World) (K : PySem.W.Frag) (mg : Str → Option Value) (base : Heap) (N : List Str) (qual : Str) (sc : Scope) (f : Addr) (cdv : Value) (A : Around) (outer : List Env) (s : Shared) (H : Hp) (E : XK) : Cx := cxOf (L2.CX P w) P w K mg base N qual sc f cdv A outer s H E
theorem fn_text {io : Bool} {fb : DS} (F : Fun K x qual st f fd) (S : FnScope N ps (defScope st))
    (hb : ∀ (cdv : Value) (A : Around) (outer : List Env) (s : Shared) (H : Hp) (E : XK), (A.deeper (envOfC qual (defScope st) s.heap.objs.size f cdv)).guards = some [] → Room k (A.deeper (envOfC qual (defScope st) s.heap.objs.size f cdv)) → SSs (CB P w K mg base N qual (defScope st) f cdv A outer s H E) E (defBody st) fb) :
    FnG P w K mg base (k + 1) f fd ps (spF ⟨K, mg⟩ ps.length io (runF io N.length fb)) := by
  obtain ⟨oc, od, kV, doc, pm, an, cdv, ct, osl, rfl, lk, hcd⟩ := F.ex
  exact fn_body lk hcd S fun A outer s H E hg hr => hb cdv A outer s H E hg hr
theorem pass_body {qual : Str} {sc : Scope} {cdv : Value} {A : Around} {outer : List Env} {s : Shared} {H : Hp} {E : XK} : Passes (L2.CX P w) (CB P w K mg base N qual sc f cdv A outer s H E) E := passes_call (takes_of rfl rfl rfl rfl) fun _ _ _ _ h => h
theorem pass_blk {X : Cx} : Passes (L2.CX X.prog X.w) X EN := fun _ _ _ _ _ _ _ h => by
  obtain ⟨_, _, _, _, _, _, _, _, _, _, _, _, no⟩ := h
  exact no.elim
theorem own_body {qual : Str} {sc : Scope} {cdv : Value} {A : Around} {outer : List Env} {s : Shared} {H : Hp} {E : XK} : PassesOwn (model P w) (CB P w K mg base N qual sc f cdv A outer s H E).A (CB P w K mg base N qual sc f cdv A outer s H E).env (CB P w K mg base N qual sc f cdv A outer s H E).xe := PassesOwn.leaving
end
/-! ### equality, of texts too -/
def eqS (neg : Bool) : Dt → Dt → Res Val
  | .str x, .str y => vB (if neg then !decide (V.str x = V.str y) else decide (V.str x = V.str y))
  | d, e => eqD neg d e
def rEqS (K : PySem.W.Frag) : R2 := fun x y H Q => rEqD K x y H Q ∨ rEq x y H Q
def rNeS (K : PySem.W.Frag) : R2 := fun x y H Q => rNeD K x y H Q ∨ rNe x y H Q
theorem op_eqS {X : Cx} (hu : X.A.units + 64 < cLine) : OpR X (compareOp .Eq) (rEqS X.K) := (op_eqD hu).or op_eq
theorem op_neS {X : Cx} (hu : X.A.units + 64 < cLine) : OpR X (compareOp .NotEq) (rNeS X.K) := (op_neD hu).or op_ne
theorem eqS_split (neg : Bool) (d e : Dt) : (∃ x y, d = .str x ∧ e = .str y) ∨ eqS neg d e = eqD neg d e := by
  cases d <;> first
    | exact .inr rfl
    | skip
  cases e <;> first
    | exact .inr rfl
    | exact .inl ⟨_, _, rfl, rfl⟩
theorem ops_eqS {W : Wd} : OpS W (rEqS W.K) (eqS false) := by
  intro EX Fm Hb ia env σ H d1 d2 x y Q A r1 r2 p
  rcases eqS_split false d1 d2 with ⟨a, b, rfl, rfl⟩ | e
  · cases (show x = V.str a from r1)
    cases (show y = V.str b from r2)
    exact .inr ⟨rfl, Post.imm p A rfl⟩
  · rw [e] at p
    exact .inl (ops_eq EX Fm Hb ia env σ H d1 d2 x y Q A r1 r2 p)
theorem ops_neS {W : Wd} : OpS W (rNeS W.K) (eqS true) := by
  intro EX Fm Hb ia env σ H d1 d2 x y Q A r1 r2 p
  rcases eqS_split true d1 d2 with ⟨a, b, rfl, rfl⟩ | e
  · cases (show x = V.str a from r1)
    cases (show y = V.str b from r2)
    exact .inr ⟨rfl, Post.imm p A rfl⟩
  · rw [e] at p
    exact .inl (ops_ne EX Fm Hb ia env σ H d1 d2 x y Q A r1 r2 p)
def fuel : Nat := 2 ^ 20000
theorem un64 {k : Nat} {A : Around} (hr : Room k A) : A.units + 64 < cLine := by have := hr.un; omega
theorem un150 {k : Nat} {A : Around} (hr : Room k A) : A.units + 150 < cLine := by have := hr.un; omega
end G


set_option maxRecDepth 100000
set_option maxHeartbeats 4000000
/-! Kern16: zip and enumerate over lists and tuples, mixed. -/
namespace G
open PySem PySem.Spec PyProof.Rows L2
variable [TabT]

/-! ### a list or a tuple (k: a tuple), its iterator -/
def Sq (K : PySem.W.Frag) (k : Bool) (H : Hp) (a : Addr) (xs : List V) : Prop := match k with
  | true => SqT K H a xs
  | false => SqL K H a xs
def Hs (k : Bool) (h : Heap) (a : Addr) (its : Array Value) : Prop := match k with
  | true => h.IsTuple a its
  | false => h.IsList a its
def Ht (k : Bool) (h : Heap) (it a : Addr) (i : Nat) : Prop := match k with
  | true => h.IsTupleIter it a i
  | false => h.IsListIter it a i
def itO (k : Bool) (a : Addr) : Obj := match k with
  | true => { cls := .type "tuple_iterator", data := .fields #[.ref a, .int 0 0] }
  | false => { cls := .type "list_iterator", data := .fields #[.ref a, .int 0 0] }
theorem sq_same {W : Wd} {H H' : Hp} {k : Bool} {a : Addr} {xs : List V} (e : Same H H') (h : Sq W.K k H a xs) : Sq W.K k H' a xs := by
  cases k with
  | true => exact same_t e h
  | false => exact same_l e h
theorem sq_inv {X : Cx} {pins : List (Addr × Obj)} {σ : L2.St} {H : Hp} {s : Shared} (I : Inv X pins σ H s) {k : Bool} {a : Addr} {xs : List V} (h : Sq X.K k H a xs) : ∃ its : List Value, Vals xs its ∧ Hs k s.heap a its.toArray := by
  cases k with
  | true =>
    obtain ⟨its, r, p, _⟩ := I.tuple h
    exact ⟨its, r, p⟩
  | false =>
    obtain ⟨its, r, p, _⟩ := I.list h
    exact ⟨its, r, p.isList⟩
theorem sq_inj {X : Cx} {pins : List (Addr × Obj)} {σ : L2.St} {H : Hp} {s : Shared} (I : Inv X pins σ H s) {k : Bool} {a : Addr} {xs ys : List V} (h : Sq X.K k H a xs) (h' : Sq X.K k H a ys) : xs = ys := by
  cases k with
  | true => exact I.tuple_inj h h'
  | false => exact I.list_inj h h'
theorem ht_at {k : Bool} {h h' : Heap} {it a : Addr} {i : Nat} (x : Ht k h it a i) (e : ∀ o, h.get? it = some o → h'.get? it = some o) : Ht k h' it a i := by
  cases k with
  | true => exact Heap.IsTupleIter.at x e
  | false => exact Heap.IsListIter.at x e
theorem ht_obj {k : Bool} {h : Heap} {it a : Addr} {i : Nat} (x : Ht k h it a i) : ∃ o, h.get? it = some o ∧ ∀ v, o.data ≠ .cell v := by
  cases k with
  | true =>
    obtain ⟨o, e, c, d⟩ := x
    exact ⟨o, e, fun v z => by rw [d] at z; cases z⟩
  | false =>
    obtain ⟨o, e, c, d⟩ := x
    exact ⟨o, e, fun v z => by rw [d] at z; cases z⟩
theorem ht_new {k : Bool} {h : Heap} {it a : Addr} (e : h.get? it = some (itO k a)) : Ht k h it a 0 := by
  cases k with
  | true => exact ⟨_, e, rfl, rfl⟩
  | false => exact ⟨_, e, rfl, rfl⟩
theorem dr_of {prog : Program} {w : World} {A : Around} (hh : A.handled = none) (k : Bool) (it a : Addr) (hne : a ≠ it) (items : Array Value) :
    Draws prog w A it [it, a] items.size (fun i v => items[i]? = some v) (fun i h => Ht k h it a i ∧ Hs k h a items) := by
  cases k with
  | true => exact Draws.tuple hh it a hne items
  | false => exact Draws.list hh it a hne items
theorem be_of (k : Bool) (a : Addr) (items : Array Value) : Begins (.ref a) (itO k a) fun h => Hs k h a items := by
  cases k with
  | true => exact begins_tuple a items
  | false => exact begins_list a items
theorem hs_lt {k : Bool} {h : Heap} {a : Addr} {its : Array Value} (x : Hs k h a its) : a < h.objs.size := by
  cases k with
  | true => obtain ⟨o, e, _⟩ := x; exact Heap.lt_size e
  | false => obtain ⟨o, e, _⟩ := x; exact Heap.lt_size e
/-- pairs of what stands at a and at b -/
def Itp (K : PySem.W.Frag) (k1 k2 : Bool) (a b : Addr) : It :=
  ⟨fun i H => ∃ (xs ys : List V), Sq K k1 H a xs ∧ Sq K k2 H b ys ∧ i < min xs.length ys.length,
    fun i H v H' => ∃ T x y, v = .ref T ∧ H T = none ∧ H' = upd H T (.tup [x, y]) ∧ (∀ xs, Sq K k1 H a xs → xs[i]? = some x) ∧ ∀ ys, Sq K k2 H b ys → ys[i]? = some y,
    fun i H => ∃ xs ys : List V, Sq K k1 H a xs ∧ Sq K k2 H b ys ∧ i = min xs.length ys.length⟩
theorem turn_pair {P : Program} {w : World} {K : PySem.W.Frag} {elts : List Expr} {kk : Nat} {tpos : Pos} {k1 k2 : Bool} {a b z TI TO i1 i2 : Addr} (S : ZipSep2 z TI TO i1 i2 [i1, a] [i2, b]) (ha : a ≠ i1) (hb : b ≠ i2) :
    Turn P w K (.Tuple elts kk tpos) (Itp K k1 k2 a b) [z, TI, TO, i1, i2] z (fun i h => IsZip h z TI TO .none ∧ IsTupOf2 h TI (.ref i1) (.ref i2) ∧ (∃ x y, IsTupOf2 h TO x y) ∧ Ht k1 h i1 a i ∧ Ht k2 h i2 b i) where
  mem := by simp
  obj := fun i h st c hc => by
    obtain ⟨hz, hTI, ⟨x, y, hTO⟩, h1, h2⟩ := st
    have e' : c = z ∨ c = TI ∨ c = TO ∨ c = i1 ∨ c = i2 := by simpa using hc
    rcases e' with rfl | rfl | rfl | rfl | rfl
    · exact ⟨_, hz, fun v q => nomatch q⟩
    · exact ⟨_, hTI, fun v q => nomatch q⟩
    · exact ⟨_, hTO, fun v q => nomatch q⟩
    · exact ht_obj h1
    · exact ht_obj h2
  keep := fun i h h' st k => by
    obtain ⟨hz, hTI, ⟨x, y, hTO⟩, h1, h2⟩ := st
    exact ⟨k z (by simp) _ hz, k TI (by simp) _ hTI, ⟨x, y, k TO (by simp) _ hTO⟩, ht_at h1 (k i1 (by simp)), ht_at h2 (k i2 (by simp))⟩
  item := by
    intro X hP hw hK hc i pins s σ H E I hf st hg
    subst hP hw hK
    obtain ⟨hz, hTI, hTO, h1, h2⟩ := st
    obtain ⟨xs, ys, q1, q2, hi⟩ := hg
    obtain ⟨its, r1, p1⟩ := sq_inv I q1
    obtain ⟨jts, r2, p2⟩ := sq_inv I q2
    have l1 := r1.length
    have l2 := r2.length
    have hh : X.A.in1.handled = none := I.ok.hd hc
    have W := GoesN.zip2 (elts := elts) (x1 := kk) (pos := tpos) S (dr_of (prog := X.prog) (w := X.w) hh k1 i1 a ha its.toArray) (dr_of (prog := X.prog) (w := X.w) hh k2 i2 b hb jts.toArray)
    have alive : ∀ c ∈ [z, TI, TO, i1, i2], c < s.heap.objs.size := fun c hc => by
      obtain ⟨x, y, hTO⟩ := hTO
      have e' : c = z ∨ c = TI ∨ c = TO ∨ c = i1 ∨ c = i2 := by simpa using hc
      rcases e' with rfl | rfl | rfl | rfl | rfl
      · exact Heap.lt_size hz
      · exact Heap.lt_size hTI
      · exact Heap.lt_size hTO
      · exact Heap.lt_size (ht_obj h1).choose_spec.1
      · exact Heap.lt_size (ht_obj h2).choose_spec.1
    refine W.goes i s _ E (by simp only [List.size_toArray]; omega) ⟨hz, hTI, hTO, ⟨h1, p1⟩, ⟨h2, p2⟩⟩ fun v h' tk hY st' hk _ => ?_
    obtain ⟨T, u1, u2, rfl, hT, e1, e2, hTt⟩ := hY
    obtain ⟨x, hx, rx⟩ : ∃ x, xs[i]? = some x ∧ RelV x u1 := by
      have hx : i < xs.length := by omega
      obtain ⟨u, hu, ru⟩ := r1.get (List.getElem?_eq_getElem hx)
      have : its[i]? = some u1 := by simpa using e1
      rw [hu] at this
      cases this
      exact ⟨_, List.getElem?_eq_getElem hx, ru⟩
    obtain ⟨y, hy, ry⟩ : ∃ y, ys[i]? = some y ∧ RelV y u2 := by
      have hy : i < ys.length := by omega
      obtain ⟨u, hu, ru⟩ := r2.get (List.getElem?_eq_getElem hy)
      have : jts[i]? = some u2 := by simpa using e2
      rw [hu] at this
      cases this
      exact ⟨_, List.getElem?_eq_getElem hy, ru⟩
    obtain ⟨oT, o1, o2, o3⟩ := hTt
    have new : ObjOk X.prog X.w (upd H T (.tup [x, y])) h' T (.tup [x, y]) := ⟨by show 2 ≤ sizeLine; decide, [u1, u2], .cons rx (.cons ry .nil), ⟨oT, o1, o2, o3⟩⟩
    have J := I.turnedNew (t' := tk) (ch := [z, TI, TO, i1, i2]) (fun c o hb q => hk c o (fun q' => hb (by
      have : c = z ∨ c = TO ∨ c = i1 ∨ c = i2 := by simpa using q'
      rcases this with rfl | rfl | rfl | rfl <;> simp)) q) hf hT new
    obtain ⟨s1, s2, s3, s4, s5⟩ := st'
    refine ⟨.ref T, _, J, rfl, ⟨T, x, y, rfl, I.hok.fresh hT, rfl, fun zs hz => ?_, fun zs hz => ?_⟩, ⟨s1, s2, s3, s4.1, s5.1⟩, fun c hc => ?_⟩
    · rw [sq_inj I hz q1]; exact hx
    · rw [sq_inj I hz q2]; exact hy
    · rw [upd_ne (Nat.ne_of_lt (Nat.lt_of_lt_of_le (alive c hc) hT))]
      exact (hf c hc).1
  done := by
    intro X hP hw hK hc i pins s σ H E I hf st hg
    subst hP hw hK
    obtain ⟨hz, hTI, hTO, h1, h2⟩ := st
    obtain ⟨xs, ys, q1, q2, hi⟩ := hg
    obtain ⟨its, r1, p1⟩ := sq_inv I q1
    obtain ⟨jts, r2, p2⟩ := sq_inv I q2
    have l1 := r1.length
    have l2 := r2.length
    have hh : X.A.in1.handled = none := I.ok.hd hc
    have W := GoesN.zip2 (elts := elts) (x1 := kk) (pos := tpos) S (dr_of (prog := X.prog) (w := X.w) hh k1 i1 a ha its.toArray) (dr_of (prog := X.prog) (w := X.w) hh k2 i2 b hb jts.toArray)
    have en : i = min its.toArray.size jts.toArray.size := by simp only [List.size_toArray]; omega
    refine W.stops s _ E (by rw [← en]; exact ⟨hz, hTI, hTO, ⟨h1, p1⟩, ⟨h2, p2⟩⟩) fun h' tk hk _ => ?_
    exact I.turnedL (t' := tk) (ch := [z, TI, TO, i1, i2]) (fun c o hb q => hk c o (fun q' => hb (by
      have : c = z ∨ c = TO ∨ c = i1 ∨ c = i2 := by simpa using q'
      rcases this with rfl | rfl | rfl | rfl <;> simp)) q) hf
  self := fun A i s Q E st h => wpAny_pyIter_zip st.1 h

def iPair (K : PySem.W.Frag) (ta : TA) : TI := fun σ H R => ta σ H fun vs H1 => ∃ a b k1 k2 xs ys, vs = [.ref a, .ref b] ∧ Sq K k1 H1 a xs ∧ Sq K k2 H1 b ys ∧ R (Itp K k1 k2 a b) H1
theorem pi_pair {X : Cx} {e e2 : Expr} {ta : TA} {p pos tpos : Pos} {elts : List Expr} {kk : Nat} (hg : Gl X "zip") (hm : X.mg "zip" = none) (ha : PA X [e, e2] ta) (h1 : isStar e = false) (h2 : isStar e2 = false) :
    PI X (.Tuple elts kk tpos) (.Call (.Name "zip" p) [e, e2] [] pos) (iPair X.K ta) := by
  refine ⟨fun pins s σ H R I h => ?_⟩
  refine Call_ (ld_blt I hg hm PyProof.Rows.boot_zip (PyProof.Rows.callWith_type1 (thn (ha.run pos pins s σ H _ I h) fun us s1 hq => ?_) (star_no h1) (by rw [star_no h2]; rfl)))
  obtain ⟨vs, H1, I1, r1, a, b, k1, k2, xs, ys, rfl, q1, q2, q⟩ := hq
  obtain ⟨u1, u2, rfl, e1, e2⟩ := vals2 r1
  cases (show u1 = Value.ref a from e1)
  cases (show u2 = Value.ref b from e2)
  obtain ⟨its, _, p1⟩ := sq_inv I1 q1
  obtain ⟨jts, _, p2⟩ := sq_inv I1 q2
  have la := hs_lt p1
  have lb := hs_lt p2
  refine zip_begins2 (be_of k1 a its.toArray) (be_of k2 b jts.toArray) p1 p2 fun h' hz hTI hTO g1 g2 hsz hk => wpAny_pyIter_zip hz ?_
  have I2 : Inv X pins σ H1 { s1 with heap := h' } := I1.kept (t' := s1.toks) hk
  have S := zip_sep2 (N := s1.heap.objs.size) (fp1 := [a]) (fp2 := [b]) (fun c hc => by rw [List.mem_singleton.mp hc]; exact la) (fun c hc => by rw [List.mem_singleton.mp hc]; exact lb)
  refine ⟨s1.heap.objs.size + 4, [s1.heap.objs.size + 4, s1.heap.objs.size + 2, s1.heap.objs.size + 3, s1.heap.objs.size, s1.heap.objs.size + 1], _, _, H1, rfl, I2, turn_pair S (Nat.ne_of_lt la) (Nat.ne_of_lt (Nat.lt_succ_of_lt lb)), ⟨hz, hTI, ⟨_, _, hTO⟩, ht_new g1, ht_new g2⟩, fun c hc => ?_, q⟩
  have hle : s1.heap.objs.size ≤ c := by
    have e' : c = s1.heap.objs.size + 4 ∨ c = s1.heap.objs.size + 2 ∨ c = s1.heap.objs.size + 3 ∨ c = s1.heap.objs.size ∨ c = s1.heap.objs.size + 1 := by simpa using hc
    rcases e' with e' | e' | e' | e' | e' <;> rw [e'] <;> first
      | exact Nat.le_add_right _ _
      | exact Nat.le_refl _
  exact I1.fpOk hle (I1.hok.fresh hle)
theorem seqD_sq {W : Wd} {H : Hp} {d : Dt} {v : V} {ds : List Dt} (r : RdD W H d v) (h : seqD d = some ds) : ∃ a k vs, v = .ref a ∧ Sq W.K k H a vs ∧ RdL W H ds vs := by
  obtain ⟨a, vs, e, h1, h2⟩ := seqD_rd r h
  rcases h1 with h1 | h1
  · exact ⟨a, false, vs, e, h1, h2⟩
  · exact ⟨a, true, vs, e, h1, h2⟩
def pairs (xs ys : List Dt) : List Dt := List.zipWith (fun x y => .tup [x, y]) xs ys
theorem yields_p {W : Wd} {Fm Hb : Hp} {k1 k2 : Bool} {a b : Addr} {vs ws : List V} {ds es : List Dt} (h1 : Sq W.K k1 Hb a vs) (r1 : RdL W Hb ds vs) (h2 : Sq W.K k2 Hb b ws) (r2 : RdL W Hb es ws) : Yields W Fm Hb (Itp W.K k1 k2 a b) (pairs ds es) where
  go := fun i Hb' H hi s bs => by
    unfold pairs at hi
    rw [List.length_zipWith, r1.len, r2.len] at hi
    exact ⟨vs, ws, sq_same bs.hb (sq_same s h1), sq_same bs.hb (sq_same s h2), hi⟩
  stop := fun Hb' H s bs => ⟨vs, ws, sq_same bs.hb (sq_same s h1), sq_same bs.hb (sq_same s h2), by unfold pairs; rw [List.length_zipWith, r1.len, r2.len]⟩
  yld := fun i d Hb' H x H' hd s bs y => by
    obtain ⟨T, u, v, rfl, hT, rfl, y1, y2⟩ := y
    unfold pairs at hd
    rw [List.getElem?_zipWith] at hd
    cases q1 : ds[i]? with
    | none => rw [q1] at hd; cases hd
    | some d1 =>
      cases q2 : es[i]? with
      | none => rw [q1, q2] at hd; cases hd
      | some d2 =>
        rw [q1, q2] at hd
        cases hd
        obtain ⟨w1, g1, g2⟩ := r1.get q1
        obtain ⟨w2, g3, g4⟩ := r2.get q2
        have z1 := y1 vs (sq_same bs.hb (sq_same s h1))
        have z2 := y2 ws (sq_same bs.hb (sq_same s h2))
        rw [g1] at z1
        rw [g3] at z2
        cases z1
        cases z2
        exact Yl.laid hT ⟨_, _, rfl, RdD.mono s _ _ g2, _, _, rfl, RdD.mono s _ _ g4, rfl⟩
def itZip (g : DA) : DA := fun env => (g env).bind fun p => match p.1 with
  | [d, e] => match seqD d, seqD e with
    | some xs, some ys => .ok (pairs xs ys, p.2)
    | _, _ => .bad
  | _ => .bad
theorem si_zip {X : Cx} {EX : XK} {e e2 : Expr} {g : DA} {p pos tpos : Pos} {elts : List Expr} {kk : Nat} (hg : Gl X "zip") (hm : X.mg "zip" = none) (ha : SA X EX [e, e2] g) (h1 : isStar e = false) (h2 : isStar e2 = false) :
    SI X EX (.Tuple elts kk tpos) (.Call (.Name "zip" p) [e, e2] [] pos) (itZip g) := by
  refine ⟨_, pi_pair hg hm ha h1 h2, fun Fm Hb ia σ env H R A p => ?_⟩
  refine ⟨Fm, Hb, ia, env, A, Post.bind p fun ds e1 H1 Hb1 s1 A1 q1 vs hv => ?_⟩
  dsimp only at q1
  split at q1
  · rename_i d d'
    split at q1
    · rename_i xs ys hx hy
      obtain ⟨v, w, rfl, r1, r2⟩ := hv.two
      obtain ⟨a, k1, us, rfl, g1, g2⟩ := seqD_sq r1 hx
      obtain ⟨b, k2, ws, rfl, g3, g4⟩ := seqD_sq r2 hy
      exact ⟨a, b, k1, k2, us, ws, rfl, sq_same A1.bs.hb g1, sq_same A1.bs.hb g3, q1 H1 Hb1 (Same.refl _) A1 _ (yields_p (W := wd X) g1 g2 g3 g4)⟩
    · exact q1.elim
  · exact q1.elim
end G


set_option maxRecDepth 100000
set_option maxHeartbeats 4000000
/-! Kern17: enumerate over a list or a tuple. -/
namespace G
section
open PySem
open Sem (wp)
open AutoSeq1 (wpAny_loadPart')
theorem meets_enumT (t : Addr) (items : Array Value) (n : Nat) (dd : Option Addr) (ss : Array (Option Value)) :
    Meets (Builtin.«enumerate.__new__» ⟨[.type "enumerate", .ref t], []⟩) (fun _ R s => s.heap.get? t = some { cls := .type "tuple", dict := dd, data := .seq items n, slots := ss } ∧
      R (.ok (.ret (.ref (s.heap.push { cls := .type "tuple_iterator", data := .fields #[.ref t, .int 0 0] }).objs.size)))
        { s with heap := (s.heap.push { cls := .type "tuple_iterator", data := .fields #[.ref t, .int 0 0] }).push { cls := .type "enumerate", data := .fields #[.none, .bool false, .ref s.heap.objs.size, rawInt 0, .none, .none] } }) :=
  .of_wp fun prog w A R s h => by
    obtain ⟨hp, gg, dr, tk, os⟩ := s
    obtain ⟨ht, h⟩ := h
    have hsub := sub_enumerate
    have isT : Heap.IsTuple (Shared.heap ⟨hp, gg, dr, tk, os⟩) t items := ⟨_, ht, rfl, n, rfl⟩
    wp_walk using wpAny_loadPart' ht
    refine wpAny_stack_any fun stk => wpAny_pure ?_
    split
    · rename_i cl _ _ _ _ _
      cases (cl == Value.type "enumerate")
      · wp_walk using wpAny_loadPart' ht, wpAny_pyIter_tuple isT
        exact ⟨_, rfl, h⟩
      · wp_walk using wpAny_loadPart' ht, wpAny_pyIter_tuple isT
        exact ⟨_, rfl, h⟩
    · wp_walk using wpAny_loadPart' ht, wpAny_pyIter_tuple isT
      exact ⟨_, rfl, h⟩
theorem call_enumT {prog : Program} {w : World} {A : Around} {E : Value → Shared → Prop} {s : Shared} {t : Addr} {items : Array Value} {Q : Value → Shared → Prop} (hT : s.heap.IsTuple t items)
    (h : ∀ h', IsEnum h' (s.heap.objs.size + 1) s.heap.objs.size 0 .none → h'.get? s.heap.objs.size = some { cls := .type "tuple_iterator", data := .fields #[.ref t, .int 0 0] } →
      (∀ b o, s.heap.get? b = some o → h'.get? b = some o) → Q (.ref (s.heap.objs.size + 1)) { s with heap := h' }) : wpAny (model prog w) A (call (.type "enumerate") [.ref t]) Q E s := by
  obtain ⟨⟨cl, dd, dt, ss⟩, ht, hc, n, hd⟩ := hT
  replace hc : cl = .type "tuple" := hc
  replace hd : dt = .seq items n := hd
  subst hc hd
  refine callType_new F.called_enumerate (by decide) (F.typeCall_enumerate_1 _) (F.newCall_enumerate_1 _) (fun ob => F.args_object_init_2 ob _) F.entry_enumerate_new (meets_enumT t items n dd ss) ⟨ht, ?_⟩
  generalize hI : ({ cls := .type "tuple_iterator", data := .fields #[.ref t, .int 0 0] } : Obj) = ob at h ⊢
  have fr : ob.isFreed = false := by rw [← hI]; rfl
  have sz : (s.heap.push ob).objs.size = s.heap.objs.size + 1 := Heap.size_push ..
  show _ ∧ _
  rw [sz]
  have en := Heap.get?_push_size (s.heap.push ob) (o := { cls := .type "enumerate", data := .fields #[.none, .bool false, .ref s.heap.objs.size, rawInt 0, .none, .none] }) rfl
  rw [sz] at en
  exact ⟨⟨_, en, rfl⟩, h _ en (Heap.get?_push_of_some _ (Heap.get?_push_size _ fr)) fun b o x => Heap.get?_push_of_some _ (Heap.get?_push_of_some _ x)⟩
end

open PySem PySem.Spec PyProof.Rows L2
variable [TabT]
theorem call_enumK {prog : Program} {w : World} {A : Around} {E : Value → Shared → Prop} {s : Shared} {k : Bool} {a : Addr} {items : Array Value} {Q : Value → Shared → Prop} (hT : Hs k s.heap a items)
    (h : ∀ h', IsEnum h' (s.heap.objs.size + 1) s.heap.objs.size 0 .none → Ht k h' s.heap.objs.size a 0 → (∀ b o, s.heap.get? b = some o → h'.get? b = some o) → Q (.ref (s.heap.objs.size + 1)) { s with heap := h' }) : wpAny (model prog w) A (call (.type "enumerate") [.ref a]) Q E s := by
  cases k with
  | true => exact call_enumT hT fun h' h1 h2 h3 => h h' h1 ⟨_, h2, rfl, rfl⟩ h3
  | false => exact call_enumerate_list hT fun h' h1 h2 _ h3 => h h' h1 h2 h3
def Itn (K : PySem.W.Frag) (k : Bool) (a : Addr) : It :=
  ⟨fun i H => ∃ xs : List V, Sq K k H a xs ∧ i < xs.length, fun i H v H' => ∃ T x, v = .ref T ∧ H T = none ∧ H' = upd H T (.tup [.int (i : Nat), x]) ∧ ∀ xs, Sq K k H a xs → xs[i]? = some x, fun i H => ∃ xs : List V, Sq K k H a xs ∧ i = xs.length⟩
theorem turn_enumK {P : Program} {w : World} {K : PySem.W.Frag} {elts : List Expr} {kk : Nat} {tpos : Pos} {k : Bool} {a e it : Addr} (he : e ≠ it) (ha : a ≠ it) (hae : e ≠ a) :
    Turn P w K (.Tuple elts kk tpos) (Itn K k a) [e, it] e (fun i h => (∃ old, IsEnum h e it (0 + ((i : Nat) : Int)) old) ∧ Ht k h it a i) where
  mem := by simp
  obj := fun i h st c hc => by
    obtain ⟨⟨old, h1⟩, h2⟩ := st
    have e' : c = e ∨ c = it := by simpa using hc
    rcases e' with rfl | rfl
    · exact ⟨_, h1, fun v q => nomatch q⟩
    · exact ht_obj h2
  keep := fun i h h' st q => by
    obtain ⟨⟨old, h1⟩, h2⟩ := st
    exact ⟨⟨old, q e (by simp) _ h1⟩, ht_at h2 (q it (by simp))⟩
  item := by
    intro X hP hw hK hc i pins s σ H E I hf st hg
    subst hP hw hK
    obtain ⟨⟨old, h1⟩, h2⟩ := st
    obtain ⟨xs, q1, hi⟩ := hg
    obtain ⟨its, r1, p1⟩ := sq_inv I q1
    have l1 := r1.length
    have hh : X.A.in1.handled = none := I.ok.hd hc
    have W := GoesN.enumFrom (elts := elts) (x1 := kk) (pos := tpos) 0 (dr_of (prog := X.prog) (w := X.w) hh k it a ha its.toArray) e he (by simp [he, hae]) (by simp)
    have alive : ∀ c ∈ [e, it], c < s.heap.objs.size := fun c hc => by
      have e' : c = e ∨ c = it := by simpa using hc
      rcases e' with rfl | rfl
      · exact Heap.lt_size h1
      · exact Heap.lt_size (ht_obj h2).choose_spec.1
    refine W.goes i s _ E (by simp only [List.size_toArray]; omega) ⟨⟨old, h1⟩, h2, p1⟩ fun v h' tk hY st' hk _ => ?_
    obtain ⟨T, t, u, rfl, hT, e1, hTt⟩ := hY
    have hx : i < xs.length := hi
    obtain ⟨u', hu, ru⟩ := r1.get (List.getElem?_eq_getElem hx)
    have eu : its[i]? = some u := by simpa using e1
    rw [hu] at eu
    cases eu
    obtain ⟨oT, o1, o2, o3⟩ := hTt
    have new : ObjOk X.prog X.w (upd H T (.tup [.int (i : Nat), xs[i]])) h' T (.tup [.int (i : Nat), xs[i]]) := ⟨by show 2 ≤ sizeLine; decide, [.int (0 + (i : Int)) t, u], .cons ⟨t, by rw [Int.zero_add]⟩ (.cons ru .nil), ⟨oT, o1, o2, o3⟩⟩
    have J := I.turnedNew (t' := tk) (ch := [e, it]) (fun c o hb q => hk c o hb q) hf hT new
    obtain ⟨⟨old', s1⟩, s2, s3⟩ := st'
    refine ⟨.ref T, _, J, rfl, ⟨T, xs[i], rfl, I.hok.fresh hT, rfl, fun zs hz => ?_⟩, ⟨⟨old', s1⟩, s2⟩, fun c hc => ?_⟩
    · rw [sq_inj I hz q1]; exact List.getElem?_eq_getElem hx
    · rw [upd_ne (Nat.ne_of_lt (Nat.lt_of_lt_of_le (alive c hc) hT))]
      exact (hf c hc).1
  done := by
    intro X hP hw hK hc i pins s σ H E I hf st hg
    subst hP hw hK
    obtain ⟨⟨old, h1⟩, h2⟩ := st
    obtain ⟨xs, q1, hi⟩ := hg
    obtain ⟨its, r1, p1⟩ := sq_inv I q1
    have l1 := r1.length
    have hh : X.A.in1.handled = none := I.ok.hd hc
    have W := GoesN.enumFrom (elts := elts) (x1 := kk) (pos := tpos) 0 (dr_of (prog := X.prog) (w := X.w) hh k it a ha its.toArray) e he (by simp [he, hae]) (by simp)
    have en : i = its.toArray.size := by simp only [List.size_toArray]; omega
    refine W.stops s _ E (by rw [← en]; exact ⟨⟨old, h1⟩, h2, p1⟩) fun h' tk hk _ => ?_
    exact I.turnedL (t' := tk) (ch := [e, it]) (fun c o hb q => hk c o hb q) hf
  self := fun A i s Q E st h => let ⟨⟨_, h1⟩, _⟩ := st; wpAny_pyIter_enum h1 h
def iEnumK (K : PySem.W.Frag) (ta : TA) : TI := fun σ H R => ta σ H fun vs H1 => ∃ a k xs, vs = [.ref a] ∧ Sq K k H1 a xs ∧ R (Itn K k a) H1
theorem pi_enumK {X : Cx} {e : Expr} {ta : TA} {p pos tpos : Pos} {elts : List Expr} {kk : Nat} (hg : Gl X "enumerate") (hm : X.mg "enumerate" = none) (ha : PA X [e] ta) (h1 : isStar e = false) :
    PI X (.Tuple elts kk tpos) (.Call (.Name "enumerate" p) [e] [] pos) (iEnumK X.K ta) := by
  refine ⟨fun pins s σ H R I h => ?_⟩
  refine Call_ (ld_blt I hg hm boot_enumerate (PyProof.Rows.callWith_type1 (thn (ha.run pos pins s σ H _ I h) fun us s1 hq => ?_) (star_no h1) rfl))
  obtain ⟨vs, H1, I1, r1, a, k, xs, rfl, q1, q⟩ := hq
  obtain ⟨u1, rfl, e1⟩ := vals1 r1
  cases (show u1 = Value.ref a from e1)
  obtain ⟨its, _, p1⟩ := sq_inv I1 q1
  have la := hs_lt p1
  refine call_enumK p1 fun h' g1 g2 hk => wpAny_pyIter_enum g1 ?_
  have I2 : Inv X pins σ H1 { s1 with heap := h' } := I1.kept (t' := s1.toks) hk
  refine ⟨s1.heap.objs.size + 1, [s1.heap.objs.size + 1, s1.heap.objs.size], _, _, H1, rfl, I2, turn_enumK (Nat.succ_ne_self _) (Nat.ne_of_lt la) (Nat.ne_of_gt (Nat.lt_succ_of_lt la)), ⟨⟨_, g1⟩, g2⟩, fun c hc => ?_, q⟩
  have e' : c = s1.heap.objs.size + 1 ∨ c = s1.heap.objs.size := by simpa using hc
  have hle : s1.heap.objs.size ≤ c := by
    rcases e' with e' | e' <;> rw [e']
    · exact Nat.le_add_right _ _
    · exact Nat.le_refl _
  exact I1.fpOk hle (I1.hok.fresh hle)
def numbered : Nat → List Dt → List Dt
  | _, [] => []
  | i, d :: ds => .tup [.int (i : Nat), d] :: numbered (i + 1) ds
theorem numbered_len : ∀ (ds : List Dt) (i : Nat), (numbered i ds).length = ds.length
  | [], _ => rfl
  | d :: ds, i => by
    show (numbered (i + 1) ds).length + 1 = ds.length + 1
    rw [numbered_len ds]
theorem numbered_get : ∀ (ds : List Dt) (i j : Nat) (x : Dt), (numbered i ds)[j]? = some x → ∃ d, ds[j]? = some d ∧ x = .tup [.int ((i + j : Nat) : Int), d]
  | [], _, _, _, h => by simp [numbered] at h
  | d :: ds, i, 0, x, h => by
    simp [numbered] at h
    exact ⟨d, rfl, by rw [← h]; rfl⟩
  | d :: ds, i, j + 1, x, h => by
    have h' : (numbered (i + 1) ds)[j]? = some x := by simpa [numbered] using h
    obtain ⟨y, e1, e2⟩ := numbered_get ds (i + 1) j x h'
    exact ⟨y, by simpa using e1, by rw [e2, show i + 1 + j = i + (j + 1) by omega]⟩
theorem yields_n {W : Wd} {Fm Hb : Hp} {k : Bool} {a : Addr} {vs : List V} {ds : List Dt} (h1 : Sq W.K k Hb a vs) (r1 : RdL W Hb ds vs) : Yields W Fm Hb (Itn W.K k a) (numbered 0 ds) where
  go := fun i Hb' H hi s bs => ⟨vs, sq_same bs.hb (sq_same s h1), by rw [numbered_len, r1.len] at hi; exact hi⟩
  stop := fun Hb' H s bs => ⟨vs, sq_same bs.hb (sq_same s h1), by rw [numbered_len, r1.len]⟩
  yld := fun i d Hb' H x H' hd s bs y => by
    obtain ⟨T, u, rfl, hT, rfl, y1⟩ := y
    obtain ⟨d1, q1, rfl⟩ := numbered_get ds 0 i d hd
    obtain ⟨w1, g1, g2⟩ := r1.get q1
    have z1 := y1 vs (sq_same bs.hb (sq_same s h1))
    rw [g1] at z1
    cases z1
    exact Yl.laid (es := [.int ((0 + i : Nat) : Int), d1]) hT ⟨_, _, rfl, by rw [Nat.zero_add]; rfl, _, _, rfl, RdD.mono s _ _ g2, rfl⟩
def itEnum (f : DE) : DA := fun env => (f env).bind fun p => match seqD p.1.d with
  | some xs => .ok (numbered 0 xs, p.2)
  | none => .bad
theorem si_enum {X : Cx} {EX : XK} {e : Expr} {f : DE} {p pos tpos : Pos} {elts : List Expr} {kk : Nat} (hg : Gl X "enumerate") (hm : X.mg "enumerate" = none) (ha : SE X EX e f) (h1 : isStar e = false) :
    SI X EX (.Tuple elts kk tpos) (.Call (.Name "enumerate" p) [e] [] pos) (itEnum f) := by
  refine ⟨_, pi_enumK hg hm (pa_cons ha pa_nil (star_no h1)) h1, fun Fm Hb ia σ env H R A p => ?_⟩
  refine ⟨Fm, Hb, ia, env, A, Post.bindV p fun va e1 v H1 Hb1 s1 A1 r1 q1 => ?_⟩
  dsimp only at q1
  split at q1
  · rename_i xs hx
    obtain ⟨a, k, us, rfl, g1, g2⟩ := seqD_sq r1 hx
    exact ⟨a, k, us, rfl, sq_same A1.bs.hb g1, q1 H1 Hb1 (Same.refl _) A1 _ (yields_n (W := wd X) g1 g2)⟩
  · exact q1.elim
end G


set_option maxRecDepth 100000
set_option maxHeartbeats 4000000
/-! Kern18: the items of a locked dict whose keys are tuples. -/
namespace G
open PySem PySem.Spec PyProof.Rows L2
variable [TabT]
def Itm (d : Addr) (o : Obj) (kvs : List (List Key × V)) : It :=
  ⟨fun i H => H d = some (.frz o (.dT kvs)) ∧ i < kvs.length,
    fun i H x H' => ∃ T q k v, kvs[i]? = some (k, v) ∧ x = .ref T ∧ H T = none ∧ H q = some (.tup (k.map kV)) ∧ H' = upd H T (.tup [.ref q, v]),
    fun i H => H d = some (.frz o (.dT kvs)) ∧ i = kvs.length⟩
/-- what the record of a locked dict tells -/
theorem locked_at {X : Cx} {pins : List (Addr × Obj)} {σ : L2.St} {H : Hp} {s : Shared} {d : Addr} {o : Obj} {kvs : List (List Key × V)} (I : Inv X pins σ H s) (h : H d = some (.frz o (.dT kvs))) :
    (d == sysModules) = false ∧ s.heap.get? d = some o ∧ o.ExactDict ∧ ∃ (es : Array DictEntry) (ep : Nat), o.data = .dict es ep ∧ es.size = kvs.length ∧
      ∀ (i : Nat) (k : List Key) (v : V), kvs[i]? = some (k, v) → ∃ (en : DictEntry) (q : Addr), es[i]? = some en ∧ en.key = .ref q ∧ H q = some (.tup (k.map kV)) ∧ RelV v en.val := by
  obtain ⟨hd, z, hs, xs, pr, o', es, ep, ho, hx, hdt, he, _⟩ := I.hok d _ h
  rw [hd] at ho
  cases ho
  have l1 : es.size = xs.length := size_of_entries he
  have l2 : kvs.length = xs.length := Paired.length pr
  refine ⟨hs, hd, hx, es, ep, hdt, by omega, fun i k v e => ?_⟩
  obtain ⟨b, hb, e1, e2, e3⟩ := paired_get pr e
  have q := entry_at he i
  rw [hb] at q
  exact ⟨_, b.2.1, q, rfl, e2, e3⟩
theorem turn_itm {P : Program} {w : World} {K : PySem.W.Frag} {elts : List Expr} {kk : Nat} {tpos : Pos} {d it : Addr} {o : Obj} {kvs : List (List Key × V)} {es : Array DictEntry} {ep : Nat} (hd : o.data = .dict es ep) (hx : o.ExactDict) (hz : es.size = kvs.length) (hne : d ≠ it) :
    Turn P w K (.Tuple elts kk tpos) (Itm d o kvs) [it] it (fun i h => ∃ ok ov, IsItemIter h it d i es.size ep ok ov) where
  mem := by simp
  obj := fun i h st c hc => by
    obtain ⟨ok, ov, h1⟩ := st
    obtain rfl : c = it := by simpa using hc
    exact ⟨_, h1, fun v q => nomatch q⟩
  keep := fun i h h' st q => by
    obtain ⟨ok, ov, h1⟩ := st
    exact ⟨ok, ov, q it (by simp) _ h1⟩
  item := by
    intro X hP hw hK hc i pins s σ H E I hf st hg
    subst hP hw hK
    obtain ⟨ok, ov, h1⟩ := st
    obtain ⟨hD, hi⟩ := hg
    obtain ⟨g1, g2, g3, es', ep', g4, g5, g6⟩ := locked_at I hD
    rw [hd] at g4
    cases g4
    have hh : X.A.handled = none := I.ok.hd hc
    have W := GoesN.rawItems (prog := X.prog) (w := X.w) (A := X.A) (elts := elts) (x1 := kk) (pos := tpos) hh it d hne es ep
    have raw : s.heap.DictRaw d es ep := ⟨o, g2, hx, hd⟩
    refine W.goes i s _ E (by omega) ⟨⟨ok, ov, h1⟩, raw⟩ fun v h' tk hY st' hk _ => ?_
    obtain ⟨T, hlt, rfl, hT, hTt⟩ := hY
    obtain ⟨k, x, ek⟩ : ∃ k x, kvs[i]? = some (k, x) := ⟨_, _, List.getElem?_eq_getElem hi⟩
    obtain ⟨en, q, e1, e2, e3, e4⟩ := g6 i k x ek
    have een : es[i] = en := by
      rw [Array.getElem?_eq_getElem hlt] at e1
      exact Option.some.inj e1
    rw [een, e2] at hTt
    obtain ⟨oT, o1, o2, o3⟩ := hTt
    have new : ObjOk X.prog X.w (upd H T (.tup [.ref q, x])) h' T (.tup [.ref q, x]) := ⟨by show 2 ≤ sizeLine; decide, [.ref q, en.val], .cons rfl (.cons e4 .nil), ⟨oT, o1, o2, o3⟩⟩
    have J := I.turnedNew (t' := tk) (ch := [it]) (fun c oc hb qq => hk c oc hb qq) hf hT new
    obtain ⟨⟨ok', ov', s1⟩, s2⟩ := st'
    refine ⟨.ref T, _, J, rfl, ⟨T, q, k, x, ek, rfl, I.hok.fresh hT, e3, rfl⟩, ⟨ok', ov', s1⟩, fun c hc => ?_⟩
    obtain rfl : c = it := by simpa using hc
    rw [upd_ne (Nat.ne_of_lt (Nat.lt_of_lt_of_le (Heap.lt_size h1) hT))]
    exact (hf c hc).1
  done := by
    intro X hP hw hK hc i pins s σ H E I hf st hg
    subst hP hw hK
    obtain ⟨ok, ov, h1⟩ := st
    obtain ⟨hD, hi⟩ := hg
    obtain ⟨g1, g2, g3, _⟩ := locked_at I hD
    have hh : X.A.handled = none := I.ok.hd hc
    have W := GoesN.rawItems (prog := X.prog) (w := X.w) (A := X.A) (elts := elts) (x1 := kk) (pos := tpos) hh it d hne es ep
    have en : i = es.size := by omega
    refine W.stops s _ E (by rw [← en]; exact ⟨⟨ok, ov, by rw [en]; rw [en] at h1; exact h1⟩, o, g2, hx, hd⟩) fun h' tk hk _ => ?_
    exact I.turnedL (t' := tk) (ch := [it]) (fun c oc hb q => hk c oc hb q) hf
  self := fun A i s Q E st h => by
    obtain ⟨ok, ov, h1⟩ := st
    exact wpAny_pyIter_itemiter h1 h

/-- x.items(): a locked dict as it stands; one that nobody has locked is locked from here on -/
def iItm (td : TE) : TI := fun σ H R => td σ H fun x H1 => ∃ d kvs, x = .ref d ∧ ((∃ o, H1 d = some (.frz o (.dT kvs)) ∧ R (Itm d o kvs) H1) ∨ (H1 d = some (.dT kvs) ∧ ∀ o, R (Itm d o kvs) (upd H1 d (.frz o (.dT kvs)))))
theorem pi_itm {X : Cx} {e : Expr} {td : TE} {apos cpos tpos : Pos} {elts : List Expr} {kk : Nat} (he : PE X e td) (hbase : attributeBase e "items" X.env (eval e X.env) = eval e X.env) (hline : (apos.endLine == cpos.line) = true) :
    PI X (.Tuple elts kk tpos) (.Call (.Attribute e "items" apos) [] [] cpos) (iItm td) := by
  refine ⟨fun pins s σ H R I h => ?_⟩
  refine wpAny_Call_method (T := "dict") (id := "dict.items") hbase rfl hline PySem.F.plainAttrs_dict PySem.F.slot_dict_items PySem.F.type_dict_items (thn (he.run pins s σ H _ I h) fun u s1 hq => ?_)
  obtain ⟨x, H1, I1, rx, d, kvs, rfl, q⟩ := hq
  obtain rfl : u = Value.ref d := rx
  have key : ∃ o H2, Inv X pins σ H2 s1 ∧ H2 d = some (.frz o (.dT kvs)) ∧ R (Itm d o kvs) H2 := by
    rcases q with ⟨o, q1, q2⟩ | ⟨q1, q2⟩
    · exact ⟨o, H1, I1, q1, q2⟩
    · obtain ⟨o, J⟩ := I1.lock q1 trivial
      exact ⟨o, _, J, upd_same, q2 o⟩
  obtain ⟨o, H2, J, hD, hR⟩ := key
  obtain ⟨g1, g2, g3, es, ep, g4, g5, _⟩ := locked_at J hD
  have raw : s1.heap.DictRaw d es ep := ⟨o, g2, g3, g4⟩
  refine ⟨raw.typeIs, fun a ea => by cases ea; exact ⟨o, g2, g3.2.1⟩, ?_⟩
  have I2 : Inv X pins σ H2 { s1 with heap := s1.heap.push { cls := .type "dict_items", data := .fields #[.ref d] } } := J.kept (t' := s1.toks) fun b ob qq => Heap.get?_push_of_some _ qq
  have hlt : d < s1.heap.objs.size := Heap.lt_size g2
  have raw2 : (s1.heap.push ({ cls := .type "dict_items", data := .fields #[.ref d] } : Obj)).DictRaw d es ep := raw.at fun o e => Heap.get?_push_of_some _ e
  have fin : wpAny (model X.prog X.w) X.A (pyIter (.ref s1.heap.objs.size)) (PIE X pins σ (.Tuple elts kk tpos) R) X.xe { s1 with heap := s1.heap.push { cls := .type "dict_items", data := .fields #[.ref d] } } := by
    refine wpAny_pyIter_items_raw (d := d) ⟨_, Heap.get?_push_size _ rfl, rfl, rfl⟩ raw2 (pi_one (tk := s1.toks) I2 _ (turn_itm g4 g3 g5 ?_) ⟨.none, .none, ?_⟩ hR)
    · rw [Heap.size_push]
      exact Nat.ne_of_lt (Nat.lt_succ_of_lt hlt)
    · exact Heap.get?_push_size _ rfl
  show wpAny _ _ (callWith cpos (.builtin "dict.items") [.ref d] [] []) _ X.xe s1
  exact method_meetsIn PySem.F.slot_dict_items PySem.F.entry_dict_items rfl (PySem.evalArgs_none ⟨rfl, raw.typeIs, PySem.F.args_dict_items_1 _, _, DT.meetsItems g1, raw, fin⟩)
end G


set_option maxRecDepth 100000
set_option maxHeartbeats 4000000
/-! Kern19: the items of a dict over slots. -/
namespace G
open PySem PySem.Spec PyProof.Rows L2
variable [TabT]
theorem rdl_key {W : Wd} {H : Hp} : ∀ (k : List Key), RdL W H (k.map keyD) (k.map kV)
  | [] => rfl
  | .inl i :: k => ⟨_, _, rfl, rfl, rdl_key k⟩
  | .inr x :: k => ⟨_, _, rfl, rfl, rdl_key k⟩
theorem yields_i {W : Wd} {Fm Hb : Hp} {d : Addr} {o : Obj} {kk : List (List Key)} {vs : List V} {ds : List Dt} (h : Hb d = some (.frz o (.dT (kk.zip vs)))) (hl : kk.length = vs.length) (r : RdL W Hb ds vs) :
    Yields W Fm Hb (Itm d o (kk.zip vs)) (pairs (kk.map fun k => .tup (k.map keyD)) ds) where
  go := fun i Hb' H hi s bs => by
    unfold pairs at hi
    rw [List.length_zipWith, List.length_map, r.len] at hi
    exact ⟨bs.hb _ _ (s _ _ h), by rw [List.length_zip]; exact hi⟩
  stop := fun Hb' H s bs => ⟨bs.hb _ _ (s _ _ h), by unfold pairs; rw [List.length_zipWith, List.length_map, r.len, List.length_zip]⟩
  yld := fun i dd Hb' H x H' hd s bs y => by
    obtain ⟨T, q, k, v, e, rfl, hT, hq, rfl⟩ := y
    rw [List.getElem?_zip_eq_some] at e
    obtain ⟨e1, e2⟩ := e
    obtain ⟨d1, g1, g2⟩ := r.getV e2
    unfold pairs at hd
    rw [List.getElem?_zipWith, List.getElem?_map, e1, g1] at hd
    cases hd
    have sm : Same Hb' (upd Hb' q (.tup (k.map kV))) := fun a u ha => by
      by_cases z : a = q
      · subst z
        have := bs.hb _ _ ha
        rw [hq] at this
        cases this
        exact upd_same
      · rw [upd_ne z]
        exact ha
    refine ⟨upd Hb' q (.tup (k.map kV)), ⟨sm, fun a u ha => ?_⟩, .inr ⟨T, _, [.tup (k.map keyD), d1], rfl, hT, rfl, rfl, _, _, rfl, ⟨q, _, rfl, upd_same, rdl_key k⟩, _, _, rfl, RdD.mono (s.trans sm) _ _ g2, rfl⟩⟩
    by_cases z : a = q
    · subst z
      rw [upd_same] at ha
      cases ha
      exact .inr ⟨⟨_, rfl⟩, hq⟩
    · rw [upd_ne z] at ha
      exact .inl ha
/-- x.items() -/
def itItmS (i : Nat) : DA := fun env => match env[i]? with
  | some (.imm (.dcf ks vs)) => .ok (pairs ks vs, env)
  | some (.own (.dct ks vs)) => .ok (pairs ks vs, env.set i (.imm (.dcf ks vs)))
  | _ => .bad
def itItmF (f : DE) : DA := fun env => (f env).bind fun p => match p.1 with
  | .fresh (.dct ks vs) => .ok (pairs ks vs, p.2)
  | .imm (.dcf ks vs) => .ok (pairs ks vs, p.2)
  | _ => .bad
/-- a dict that nobody else holds is locked, and data from then on -/
theorem lock_free {W : Wd} {Fm Hb H : Hp} {ia : Option Addr} {env : Env'} {σ : L2.St} {d : Addr} {o : HO} (A : Agr W Fm Hb ia env σ H) (h1 : Hb d = none) (h2 : Fm d = none) (w : Wri H d) (no : ∀ ps, o ≠ .tbl ps) (h3 : ∀ i e, Owns env i e → σ[i]? ≠ some (some (.ref d))) :
    Same Hb (upd Hb d o) ∧ Agr W Fm (upd Hb d o) ia env σ (upd H d o) :=
  ⟨same_lay h1, (A.put h1 h2 w h3).freeze h1 h2 upd_same no h3⟩
theorem si_itmS {X : Cx} {EX : XK} {e : Expr} {i : Nat} {apos cpos tpos : Pos} {elts : List Expr} {kk : Nat} (he : PE X e (tVar i)) (hbase : attributeBase e "items" X.env (eval e X.env) = eval e X.env) (hline : (apos.endLine == cpos.line) = true) :
    SI X EX (.Tuple elts kk tpos) (.Call (.Attribute e "items" apos) [] [] cpos) (itItmS i) := by
  refine ⟨_, pi_itm he hbase hline, fun Fm Hb ia σ env H R A p => ?_⟩
  unfold itItmS at p
  split at p
  · rename_i ks vs hd
    obtain ⟨v, h1, a, rfl, kk, us, o, h2, h3, rfl, h5⟩ := A.imm i _ hd
    exact ⟨.ref a, h1, a, _, rfl, .inl ⟨o, A.bs.hb _ _ h2, p H Hb (Same.refl _) A _ (yields_i h2 h3 h5)⟩⟩
  · rename_i ks vs hd
    obtain ⟨a, g1, g2, g3, kk, us, h2, h3, rfl, h5⟩ := A.own i _ (.inl hd)
    refine ⟨.ref a, g1, a, _, rfl, .inr ⟨h2, fun o => ?_⟩⟩
    obtain ⟨a', k1, k2, k3, k4, A1, k5⟩ := A.hand hd
    rw [g1] at k1
    cases k1
    have hl : i < env.length := (List.getElem?_eq_some_iff.mp hd).1
    obtain ⟨s, A2⟩ := lock_free (o := .frz o (.dT (kk.zip us))) A1 g2 g3 (fun u hu => by rw [h2] at hu; cases hu; trivial) (fun _ z => nomatch z) k5
    have r : RdD (wd X) (upd Hb a (.frz o (.dT (kk.zip us)))) (.dcf (kk.map fun k => .tup (k.map keyD)) vs) (.ref a) := ⟨a, rfl, kk, us, o, upd_same, h3, rfl, RdL.mono s _ _ h5⟩
    have A3 := A2.setImm (i := i) (by rw [List.length_set]; exact hl) (fun e z => by rw [List.getElem?_set_self hl] at z; cases z) r
    rw [set_self g1, List.set_set] at A3
    exact p _ _ s A3 _ (yields_i upd_same h3 (RdL.mono s _ _ h5))
  · exact p.elim
theorem si_itmF {X : Cx} {EX : XK} {e : Expr} {f : DE} {apos cpos tpos : Pos} {elts : List Expr} {kk : Nat} (he : SE X EX e f) (hbase : attributeBase e "items" X.env (eval e X.env) = eval e X.env) (hline : (apos.endLine == cpos.line) = true) :
    SI X EX (.Tuple elts kk tpos) (.Call (.Attribute e "items" apos) [] [] cpos) (itItmF f) := by
  refine ⟨_, pi_itm he hbase hline, fun Fm Hb ia σ env H R A p => ?_⟩
  refine ⟨Fm, Hb, ia, env, A, Post.bind p fun val e1 H1 Hb1 s1 A1 q1 v hv => ?_⟩
  dsimp only at q1
  split at q1
  · rename_i x ks vs
    obtain ⟨a, rfl, g2, g3, ⟨kk, us, h2, h3, rfl, h5⟩, k5⟩ := hv
    refine ⟨a, _, rfl, .inr ⟨h2, fun o => ?_⟩⟩
    obtain ⟨s, A2⟩ := lock_free (o := .frz o (.dT (kk.zip us))) A1 g2 g3 (fun u hu => by rw [h2] at hu; cases hu; trivial) (fun _ z => nomatch z) k5
    exact q1 _ _ s A2 _ (yields_i upd_same h3 (RdL.mono s _ _ h5))
  · rename_i x ks vs
    obtain ⟨a, rfl, kk, us, o, h2, h3, rfl, h5⟩ := hv
    exact ⟨a, _, rfl, .inl ⟨o, A1.bs.hb _ _ h2, q1 H1 Hb1 (Same.refl _) A1 _ (yields_i h2 h3 h5)⟩⟩
  · exact q1.elim
end G


set_option maxRecDepth 100000
set_option maxHeartbeats 4000000
/-! Kern20: dicts keyed by tuples: {}, {k: v}, d.get(k, z), d[k] = v. -/
namespace G
open PySem PySem.Spec PyProof.Rows L2
variable [TabT]
def keyL : Dt → Option Key
  | .int i => some (.inl i)
  | .str x => some (.inr x)
  | _ => none
def keysL : List Dt → Option (List Key)
  | [] => some []
  | d :: ds => match keyL d, keysL ds with
    | some k, some ks => some (k :: ks)
    | _, _ => none
def keyOf : Dt → Option (List Key)
  | .tup ds => keysL ds
  | _ => none
theorem keysL_rd {W : Wd} {H : Hp} : ∀ {ds : List Dt} {k : List Key} {vs : List V}, keysL ds = some k → RdL W H ds vs → vs = k.map kV ∧ ds = k.map keyD
  | [], k, vs, h, r => by
    cases h
    cases (show vs = [] from r)
    exact ⟨rfl, rfl⟩
  | d :: ds, k, vs, h, r => by
    obtain ⟨v, us, rfl, r1, r2⟩ := r
    unfold keysL at h
    split at h
    · rename_i k1 ks1 h1 h2
      cases h
      obtain ⟨e1, e2⟩ := keysL_rd h2 r2
      subst e1 e2
      cases d <;> first
        | cases h1
        | skip
      · cases (show v = _ from r1)
        exact ⟨rfl, rfl⟩
      · cases (show v = _ from r1)
        exact ⟨rfl, rfl⟩
    · cases h
theorem keysL_keyD : ∀ (k : List Key), keysL (k.map keyD) = some k
  | [] => rfl
  | .inl i :: k => by
    show (match keyL (.int i), keysL (k.map keyD) with
      | some k, some ks => some (k :: ks)
      | _, _ => none) = _
    rw [keysL_keyD k]
    rfl
  | .inr x :: k => by
    show (match keyL (.str x), keysL (k.map keyD) with
      | some k, some ks => some (k :: ks)
      | _, _ => none) = _
    rw [keysL_keyD k]
    rfl
theorem keyOf_rd {W : Wd} {H : Hp} {d : Dt} {k : List Key} {v : V} (h : keyOf d = some k) (r : RdD W H d v) : d = .tup (k.map keyD) ∧ ∃ b, v = .ref b ∧ H b = some (.tup (k.map kV)) := by
  cases d <;> first
    | cases h
    | skip
  rename_i ds
  obtain ⟨b, vs, rfl, h1, h2⟩ := r
  obtain ⟨e1, e2⟩ := keysL_rd h h2
  subst e1 e2
  exact ⟨rfl, b, rfl, h1⟩
/-- what stands under a key -/
def valD (k : List Key) : List Dt → List Dt → Option Dt
  | kd :: ks, v :: vs => if keyOf kd = some k then some v else valD k ks vs
  | _, _ => none
/-- the values with one replaced -/
def repD (k : List Key) (x : Dt) : List Dt → List Dt → List Dt
  | kd :: ks, v :: vs => (if keyOf kd = some k then x else v) :: repD k x ks vs
  | _, _ => []
def putDct (key x : Dt) : Dt → Option Dt
  | .dct ks vs => if ks.length < sizeLine then match keyOf key with
    | some k => if (valD k ks vs).isSome then some (.dct ks (repD k x ks vs)) else some (.dct (ks ++ [key]) (vs ++ [x]))
    | none => none else none
  | _ => none
theorem keyOf_keyD (k : List Key) : keyOf (.tup (k.map keyD)) = some k := keysL_keyD k
abbrev keyT (k : List Key) : Dt := .tup (k.map keyD)
theorem valD_val {W : Wd} {H : Hp} (k : List Key) : ∀ {kk : List (List Key)} {ds : List Dt} {vs : List V}, kk.length = vs.length → RdL W H ds vs →
    (valD k (kk.map keyT) ds = none ∧ valV (kk.zip vs) k = none) ∨ ∃ d v, valD k (kk.map keyT) ds = some d ∧ valV (kk.zip vs) k = some v ∧ RdD W H d v
  | [], ds, vs, hl, r => .inl ⟨rfl, rfl⟩
  | a :: kk, ds, vs, hl, r => by
    cases vs with
    | nil => cases hl
    | cons v vs =>
      cases ds with
      | nil => cases (show v :: vs = [] from r)
      | cons d ds =>
        obtain ⟨v', us, e, r1, r2⟩ := r
        cases e
        by_cases hk : a = k
        · subst hk
          refine .inr ⟨d, v, ?_, ?_, r1⟩
          · show (if keyOf (keyT a) = some a then some d else _) = _
            rw [if_pos (keyOf_keyD a)]
          · exact valV_pos (p := (a, v)) rfl
        · have h1 : valD k ((a :: kk).map keyT) (d :: ds) = valD k (kk.map keyT) ds := by
            show (if keyOf (keyT a) = some k then some d else _) = _
            rw [if_neg (by rw [keyOf_keyD]; exact fun z => hk (Option.some.inj z))]
          have h2 : valV ((a :: kk).zip (v :: vs)) k = valV (kk.zip vs) k := valV_neg (p := (a, v)) hk
          rw [h1, h2]
          exact valD_val k (by simpa using hl) r2
theorem repD_put {W : Wd} {H : Hp} (k : List Key) {x : Dt} {y : V} (rx : RdD W H x y) : ∀ {kk : List (List Key)} {ds : List Dt} {vs : List V}, kk.length = vs.length → RdL W H ds vs →
    ∃ us, (kk.zip vs).map (fun kv => if kv.1 = k then (kv.1, y) else kv) = kk.zip us ∧ kk.length = us.length ∧ RdL W H (repD k x (kk.map keyT) ds) us
  | [], ds, vs, hl, r => ⟨[], rfl, rfl, rfl⟩
  | a :: kk, ds, vs, hl, r => by
    cases vs with
    | nil => cases hl
    | cons v vs =>
      cases ds with
      | nil => cases (show v :: vs = [] from r)
      | cons d ds =>
        obtain ⟨v', us, e, r1, r2⟩ := r
        cases e
        obtain ⟨ws, w1, w2, w3⟩ := repD_put k rx (kk := kk) (by simpa using hl) r2
        by_cases hk : a = k
        · subst hk
          refine ⟨y :: ws, ?_, by simp [w2], ?_⟩
          · rw [List.zip_cons_cons, List.map_cons, w1, if_pos rfl, List.zip_cons_cons]
          · show RdL W H ((if keyOf (keyT a) = some a then x else d) :: _) _
            rw [if_pos (keyOf_keyD a)]
            exact ⟨_, _, rfl, rx, w3⟩
        · refine ⟨v :: ws, ?_, by simp [w2], ?_⟩
          · rw [List.zip_cons_cons, List.map_cons, w1, if_neg hk, List.zip_cons_cons]
          · show RdL W H ((if keyOf (keyT a) = some k then x else d) :: _) _
            rw [if_neg (by rw [keyOf_keyD]; exact fun z => hk (Option.some.inj z))]
            exact ⟨_, _, rfl, r1, w3⟩
/-- what a store makes -/
theorem own_put {W : Wd} {Hb H : Hp} {a : Addr} {ks ds : List Dt} {d' key x : Dt} {y : V} (h : OwnAt W Hb H a (.dct ks ds)) (hp : putDct key x (.dct ks ds) = some d') (rx : RdD W Hb x y) :
    ∃ kvs k, H a = some (.dT kvs) ∧ keyOf key = some k ∧ kvs.length < sizeLine ∧ OwnAt W Hb (upd H a (.dT (putK kvs k y))) a d' := by
  obtain ⟨kk, vs, h1, h2, rfl, h4⟩ := h
  simp only [putDct] at hp
  split at hp
  · rename_i hz
    split at hp
    · rename_i k hk
      refine ⟨_, k, h1, hk, by rw [List.length_zip]; rw [List.length_map] at hz; omega, ?_⟩
      have any : ((kk.zip vs).any fun kv => decide (kv.1 = k)) = (valV (kk.zip vs) k).isSome := valV_any k _
      split at hp
      · rename_i hs
        cases hp
        rcases valD_val k h2 h4 with ⟨e1, _⟩ | ⟨d, v, e1, e2, e3⟩
        · rw [show (fun k : List Key => Dt.tup (k.map keyD)) = keyT from rfl, e1] at hs
          cases hs
        · obtain ⟨us, u1, u2, u3⟩ := repD_put k rx h2 h4
          refine ⟨kk, us, ?_, u2, rfl, u3⟩
          rw [upd_same]
          unfold putK
          rw [any, e2]
          rw [if_pos (show (some v).isSome = true from rfl), u1]
      · rename_i hs
        cases hp
        rcases valD_val k h2 h4 with ⟨_, e2⟩ | ⟨d, v, e1, e2, e3⟩
        · have hd : key = .tup (k.map keyD) := by
            cases key <;> first
              | cases hk
              | skip
            rename_i ds
            congr 1
            exact keysD_of hk
          refine ⟨kk ++ [k], vs ++ [y], ?_, by simp [h2], by rw [List.map_append, hd]; rfl, h4.append ⟨y, [], rfl, rx, rfl⟩⟩
          rw [upd_same]
          unfold putK
          rw [any, e2, if_neg (fun z => by cases z), List.zip_append h2]
          rfl
        · rw [show (fun k : List Key => Dt.tup (k.map keyD)) = keyT from rfl, e1] at hs
          exact absurd rfl hs
    · cases hp
  · cases hp
where keysD_of : ∀ {ds : List Dt} {k : List Key}, keysL ds = some k → ds = k.map keyD
  | [], k, h => by cases h; rfl
  | d :: ds, k, h => by
    unfold keysL at h
    split at h
    · rename_i k1 ks1 h1 h2
      cases h
      rw [keysD_of h2]
      cases d <;> first
        | cases h1
        | skip
      · rfl
      · rfl
    · cases h
def isDct : Slot → Bool
  | .own (.dct _ _) => true
  | _ => false
def dDNew : DE := fun env => .ok (.fresh (.dct [] []), env)
def dDGet (i : Nat) (fk fz : DE) : DE := fun env => if (env[i]?.map isDct) = some true then (fk env).bind fun p => (fz p.2).bind fun q => match q.2[i]? with
  | some (.own (.dct ks vs)) => match keyOf p.1.d with
    | some k => .ok (.imm ((valD k ks vs).getD q.1.d), q.2)
    | none => .bad
  | _ => .bad else .bad
def sDctPut (i : Nat) (fk f : DE) : DS := fun env => (f env).bind fun p => if (p.2[i]?.map isDct) = some true then (fk p.2).bind fun q => slotWr i q.2 (putDct q.1.d p.1.d) else .bad
def dDisp1 (fk fv : DE) : DE := fun env => (fk env).bind fun p => (fv p.2).bind fun q => match keyOf p.1.d with
  | some _ => .ok (.fresh (.dct [p.1.d] [q.1.d]), q.2)
  | none => .bad
section
variable {W : Wd} {EX : XK} {Fm Hb H : Hp} {ia : Option Addr} {env : Env'} {σ : L2.St} {D : Ends}
theorem dct_at (A : Agr W Fm Hb ia env σ H) {i : Nat} (h : (env[i]?.map isDct) = some true) : ∃ a kvs, σ[i]? = some (some (.ref a)) ∧ H a = some (.dT kvs) := by
  obtain ⟨s, h1, h2⟩ := Option.map_eq_some_iff.mp h
  cases s with
  | own d =>
    cases d <;> first
      | cases h2
      | skip
    obtain ⟨a, g1, _, _, kk, vs, g2, _⟩ := A.own i _ (.inl h1)
    exact ⟨a, _, g1, g2⟩
  | io d => cases h2
  | un => cases h2
  | imm d => cases h2
end
section
variable {X : Cx} {EX : XK} {pos pos' apos cpos : Pos} {e o k v z : Expr} {fk fv fz : DE} {i : Nat}
theorem se_dnew : SE X EX (.Dict [] [] pos) dDNew := pe_mono pe_dnewT fun σ H Q ⟨Fm, Hb, ia, env, A, p⟩ => fun a ha => by
  obtain ⟨h1, h2⟩ := A.bs.free ha
  exact p _ Hb (Same.refl _) (A.put h1 h2 (Wri.new ha) (A.apart ha)) _ ⟨a, rfl, h1, h2, ⟨[], [], upd_same, rfl, rfl, rfl⟩, A.apart ha⟩
theorem se_dget (hu : X.A.units + 1 < cLine) (ho : PE X o (tVar i)) (hk : SE X EX k fk) (hz : SE X EX z fz) (m : M2 X o "get" apos k z cpos) : SE X EX (.Call (.Attribute o "get" apos) [k, z] [] cpos) (dDGet i fk fz) :=
  pe_mono (pe_dget2 hu ho hk hz m) fun σ H Q ⟨Fm, Hb, ia, env, A, p⟩ => by
    unfold dDGet at p
    split at p
    · rename_i ht
      obtain ⟨a, kvs, g1, g2⟩ := dct_at A ht
      refine ⟨.ref a, g1, a, rfl, .inr ⟨kvs, .inl g2⟩, Fm, Hb, ia, env, A, Post.bindV p fun kd e1 y H1 Hb1 s1 A1 r1 q1 => ⟨Fm, Hb1, ia, e1, A1, Post.bindV q1 fun zd e2 w H2 Hb2 s2 A2 r2 q2 => ?_⟩⟩
      dsimp only at q2
      split at q2
      · rename_i ks vs hs
        split at q2
        · rename_i kl hkl
          obtain ⟨a', k1, _, _, kk, us, k2, k3, rfl, k5⟩ := A2.own i _ (.inl hs)
          rw [g1] at k1
          cases k1
          obtain ⟨_, b, rfl, hb⟩ := keyOf_rd hkl (RdD.mono s2 _ _ r1)
          refine ⟨_, DGet.t k2 (A2.bs.hb _ _ hb), ?_⟩
          rcases valD_val kl k3 k5 with ⟨e1, e2⟩ | ⟨d, v, e1, e2, e3⟩
          · rw [e2]
            have q2 := q2 H2 Hb2 (Same.refl _) A2
            rw [show (fun k : List Key => Dt.tup (k.map keyD)) = keyT from rfl, e1] at q2
            exact q2 _ r2
          · rw [e2]
            have q2 := q2 H2 Hb2 (Same.refl _) A2
            rw [show (fun k : List Key => Dt.tup (k.map keyD)) = keyT from rfl, e1] at q2
            exact q2 _ e3
        · exact q2.elim
      · exact q2.elim
    · exact p.elim
theorem ss_dput (hu : X.A.units + 1 < cLine) (ho : PE X o (tVar i)) (hk : SE X EX k fk) (hv : SE X EX v fv) (hs : swapsWith v (some (.Subscript o k pos')) pos.line X.env = pure false) :
    SS X EX (.Assign [.Subscript o k pos'] v pos) (sDctPut i fk fv) := ps_mono (ps_dput hu ho hk hv hs) fun D σ H ⟨Fm, Hb, ia, env, A, p⟩ =>
  ⟨Fm, Hb, ia, env, A, Post.bindVS p fun val e1 w H1 Hb1 s1 A1 r1 q1 => by
    dsimp only at q1
    split at q1
    · rename_i ht
      obtain ⟨a, kvs, g1, g2⟩ := dct_at A1 ht
      refine ⟨.ref a, g1, Fm, Hb1, ia, e1, A1, Post.bindVS q1 fun kd e2 y H2 Hb2 s2 A2 r2 q2 => ?_⟩
      obtain ⟨a', d, d', mk, k1, k2, k3, k4, k5⟩ := slot_wr A2 q2
      rw [g1] at k1
      cases k1
      cases d <;> first
        | cases k2
        | skip
      rename_i ks ds
      obtain ⟨kvs', kl, h1, h2, h3, h4⟩ := own_put k3 k2 (RdD.mono s2 _ _ r1)
      obtain ⟨_, b, rfl, hb⟩ := keyOf_rd h2 r2
      exact ⟨a, _, rfl, DPut.t h1 (A2.bs.hb _ _ hb) h3, k5 σ _ Hb2 (Same.refl _) (k4 _ h4)⟩
    · exact q1.elim⟩
end
end G


set_option maxRecDepth 100000
set_option maxHeartbeats 4000000
/-! Kern21: {k: v} with a tuple as key; defs with defaults. -/
namespace G
open PySem PySem.Spec PyProof.Rows L2
variable [TabT]
/-- {k: v}, k a tuple -/
def tDispT (tk tv : TE) : TE := fun σ H Q => ∀ p, H p = none → tPairs [(tk, tv)] σ (upd H p (.dT [])) fun ps H2 => ∃ y b kk, ps = [(.ref b, y)] ∧ H2 p = some (.dT []) ∧ H2 b = some (.tup (kk.map kV)) ∧ Q (.ref p) (upd H2 p (.dT [(kk, y)]))
theorem pe_dispT {X : Cx} {pos : Pos} {k v : Expr} {tk tv : TE} (hu : X.A.units + 1 < cLine) (hk : PE X k tk) (hv : PE X v tv) : PE X (.Dict [some k] [v] pos) (tDispT tk tv) := by
  refine ⟨fun pins s σ H Q I q => ?_⟩
  have hn := I.hok.fresh (Nat.le_refl s.heap.objs.size)
  have I1 := I.laid (a := s.heap.objs.size) (o := .dT []) (h' := s.heap.push { cls := .type "dict", data := .dict #[] }) (t' := s.toks) (fun _ _ q => Heap.get?_push_of_some _ q) (Nat.le_refl _) (dt_empty s.heap I.big)
  rw [arm_eval_Dict, zip_pairTrees [some k] [v] X.env pos rfl rfl, dictDisplay_pairs (pairTrees [some k] [v] X.env pos) (by intro e; cases e) (by rw [pairTrees_length _ _ _ _ rfl rfl]; show 1 < 17; omega)]
  refine wpAny_bind (wpAny_standAt (wpAny_bind (wpAny_subDictH (knd := tupleKind (mixKind X.prog X.w)) (Q := fun d s' => wpAny (model X.prog X.w) X.A (pure (Value.ref d)) _ X.xe s') (show X.A.units < cLine by omega) (by rw [pairTrees_length _ _ _ _ rfl rfl]; show 1 ≤ 15; omega)
    (thn ((pps_cons hk hv pps_nil).run pins _ σ _ _ I1 (q _ hn)) fun ws s2 ⟨ps, H2, I2, rel, y, b, kk, ep, e1, e2, q2⟩ => ?_))))
  subst ep
  cases rel with
  | @cons a c as bs h t =>
    cases t
    obtain ⟨c1, c2⟩ := c
    obtain ⟨r1, r2⟩ := h
    cases (show c1 = Value.ref b from r1)
    obtain ⟨z, hd, xs, rl, dd⟩ := dt_of I2.hok e1
    cases rl
    have key := key_of I2.hok e2
    refine ⟨[(kk, b, c2)], ⟨rfl, rfl, key, trivial⟩, dd, fun h' tk' dd' hs => wpAny_pure ?_⟩
    obtain ⟨o, es, ep, hq, h2, h3, h4, _, h5⟩ := dd'
    refine ⟨.ref s.heap.objs.size, _, d_write (ob := .dT [(kk, y)]) I2 (by rw [e1]; exact True.intro) hs ⟨o, hq⟩ ⟨by show 1 ≤ sizeLine; decide, hd, [(kk, b, c2)], .cons ⟨rfl, ?_, r2⟩ .nil, o, es, ep, hq, h2, h3, h4, h5⟩, rfl, q2⟩
    rw [upd_ne (ne_of e2 e1 (fun z => nomatch z))]
    exact e2
theorem Post.unal {W : Wd} {EX : XK} {Fm Hb : Hp} {ia : Option Addr} {σ : L2.St} {β γ : Type} {q : Addr} {o : HO} {G' : γ → Env' → Hp → Hp → Prop} {G : β → Env' → Hp → Hp → Prop} (hq : Fm q = none) {r : Res (β × Env')} {k : β × Env' → Res (γ × Env')} (p : Post W EX Fm Hb ia σ G' (r.bind k))
    (hk : ∀ b e H' Hb', Same Hb Hb' → Agr W (upd Fm q o) Hb' ia e σ H' → Post W EX Fm Hb' ia σ G' (k (b, e)) → G b e Hb' H') : Post W EX (upd Fm q o) Hb ia σ G r := by
  cases r with
  | ok z =>
    obtain ⟨b, e⟩ := z
    exact fun H' Hb' s A => hk b e H' Hb' s A (Post.mono s p)
  | err x => exact fun c dx H' Hb' s b e => p c dx H' Hb' s (b.unalien hq) e
  | bad => exact p.elim
theorem se_disp1 {X : Cx} {EX : XK} {pos : Pos} {k v : Expr} {fk fv : DE} (hu : X.A.units + 1 < cLine) (hk : SE X EX k fk) (hv : SE X EX v fv) : SE X EX (.Dict [some k] [v] pos) (dDisp1 fk fv) := pe_mono (pe_dispT hu hk hv) fun σ H Q ⟨Fm, Hb, ia, env, A, p⟩ => fun q hq => by
  obtain ⟨h1, h2⟩ := A.bs.free hq
  have A0 : Agr (wd X) (upd Fm q (.dT [])) Hb ia env σ (upd H q (.dT [])) := Agr.alien (A.put h1 h2 (Wri.new hq) (A.apart hq) (o := .dT [])) trivial h1 upd_same (A.apart hq)
  refine ⟨_, Hb, ia, env, A0, Post.unal h2 p fun vk e1 H1 Hb1 s1 A1 p1 => GE.use (fun d Hb2 x ed s2 A2 r2 => ?_) A1⟩
  refine ⟨_, Hb2, ia, e1, A2, Post.unal h2 (Post.mono s2 p1) fun vv e2 H3 Hb3 s3 A3 p3 => GE.use (fun d' Hb4 y ed' s4 A4 r4 => ?_) A3⟩
  have p4 := Post.mono s4 p3
  dsimp only at p4
  rw [ed, ed'] at p4
  split at p4
  · rename_i kk hkk
    obtain ⟨ek, b, rfl, hb⟩ := keyOf_rd hkk (RdD.mono (s3.trans s4) _ _ r2)
    have hq4 : H3 q = some (.dT []) := A4.bs.fm q _ upd_same
    refine ⟨y, b, kk, rfl, hq4, A4.bs.hb _ _ hb, ?_⟩
    have A6 := (Agr.alienSet (o' := .dT [(kk, y)]) A4 trivial h2).unalien h2
    refine p4 _ Hb4 (Same.refl _) A6 _ ⟨q, rfl, A4.bs.dj q _ upd_same, h2, ⟨[kk], [y], upd_same, rfl, by rw [ek]; rfl, ⟨y, [], rfl, r4, rfl⟩⟩, fun i d ho hz => ?_⟩
    obtain ⟨a, g1, g2, g3, g4⟩ := A4.own i d ho
    rw [hz] at g1
    cases g1
    exact (upd_none g3).1 rfl
  · exact p4.elim

/-! ### defs with defaults -/
structure FunT (K : PySem.W.Frag) (x qual : Str) (st : Stmt) (dvs : List V) (f : Addr) (fd : FuncData) : Prop where
  ex : ∃ (oc : Value) (od : Option Addr) (T : Addr) (oT : Obj) (n : Nat) (its : List Value) (kV doc pm : Value) (an : Option Addr) (cdv ct : Value) (osl : Array (Option Value)),
    fd = PySem.W.fnOf x qual (defArgs st) (defBody st) (defScope st) (.ref T) kV doc pm an cdv ct ∧ K.lookup f = some ⟨oc, od, .func fd, osl⟩ ∧ PySem.W.codeIn K cdv qual = true ∧ K.lookup T = some oT ∧ oT.data = .seq its.toArray n ∧ Vals dvs its
  kp : PySem.W.keepIn K (.ref f) = true
def Src.uD (us ws its : List Value) : Src → Value
  | .pos i => (us[i]?).getD .none
  | .kw j => (ws[j]?).getD .none
  | .cst j _ => (its[j]?).getD .none
def Src.isC (dvs : List V) : Src → Prop
  | .cst j v => dvs[j]? = some v
  | _ => True
theorem src_relD {vs zs dvs : List V} {us ws its : List Value} (r1 : Vals vs us) (r2 : Vals zs ws) (r3 : Vals dvs its) : ∀ {src : List Src}, src.all (Src.ok vs.length zs.length) = true → (∀ s ∈ src, s.isC dvs) → Vals (src.map (Src.v vs zs)) (src.map (Src.uD us ws its))
  | [], _, _ => .nil
  | x :: src, h, k => by
    rw [List.all_cons, Bool.and_eq_true] at h
    have kx := k x List.mem_cons_self
    refine .cons ?_ (src_relD r1 r2 r3 h.2 fun s hs => k s (List.mem_cons_of_mem _ hs))
    cases x with
    | pos i =>
      have hi : i < vs.length := of_decide_eq_true h.1
      have e1 := List.getElem?_eq_getElem hi
      obtain ⟨u, e2, r⟩ := r1.get e1
      show RelV ((vs[i]?).getD .non) ((us[i]?).getD .none)
      rw [e1, e2]
      exact r
    | kw i =>
      have hi : i < zs.length := of_decide_eq_true h.1
      have e1 := List.getElem?_eq_getElem hi
      obtain ⟨u, e2, r⟩ := r2.get e1
      show RelV ((zs[i]?).getD .non) ((ws[i]?).getD .none)
      rw [e1, e2]
      exact r
    | cst j v =>
      obtain ⟨u, e2, r⟩ := r3.get (show dvs[j]? = some v from kx)
      show RelV v ((its[j]?).getD .none)
      rw [e2]
      exact r
section
variable {P : Program} {w : World} {K : PySem.W.Frag} {mg : Str → Option Value} {base : Heap} {x qual : Str} {st : Stmt} {f : Addr} {fd : FuncData} {N ps : List Str} {k : Nat} {dvs : List V}
theorem funT_mk {T : Addr} {oc tc : Value} {od an td : Option Addr} {osl tsl : Array (Option Value)} {kV doc pm cdv ct : Value} {its : List Value} {n : Nat} (l : K.lookup f = some ⟨oc, od, .func (PySem.W.fnOf x qual (defArgs st) (defBody st) (defScope st) (.ref T) kV doc pm an cdv ct), osl⟩)
    (lT : K.lookup T = some ⟨tc, td, .seq its.toArray n, tsl⟩) (r : Vals dvs its)
    (c : PySem.W.codeIn K cdv qual = true) (k : PySem.W.keepIn K (.ref f) = true) : FunT K x qual st dvs f (PySem.W.fnOf x qual (defArgs st) (defBody st) (defScope st) (.ref T) kV doc pm an cdv ct) := ⟨⟨oc, od, T, _, n, its, kV, doc, pm, an, cdv, ct, osl, rfl, l, c, lT, rfl, r⟩, k⟩
theorem shape_ofD (F : FunT K x qual st dvs f fd) (sh : Shape) (hok : sh.src.all (Src.ok sh.np sh.ks.length) = true) (hc : ∀ s ∈ sh.src, s.isC dvs)
    (h : ∀ (T : Addr) (kV doc pm : Value) (an : Option Addr) (cdv ct : Value) (us ws its : List Value), us.length = sh.np → ws.length = sh.ks.length → its.length = dvs.length →
      ∃ k, bindArgs (PySem.W.fnOf x qual (defArgs st) (defBody st) (defScope st) (.ref T) kV doc pm an cdv ct) ⟨us, sh.ks.zip ws⟩ = seqItems? (.ref T) >>= k ∧ k (some its.toArray) = pure (ps.zip (sh.src.map (Src.uD us ws its)))) : ∃ g, ShapeOk K fd ps sh g := by
  obtain ⟨oc, od, T, oT, n, its, kV, doc, pm, an, cdv, ct, osl, rfl, lk, hcd, lT, dT, rT⟩ := F.ex
  refine ⟨fun us ws => sh.src.map (Src.uD us ws its), fun s us ws X h1 h2 => ?_, fun r1 r2 h1 h2 => src_relD r1 r2 rT (by rw [h1, h2]; exact hok) hc⟩
  obtain ⟨k, e1, e2⟩ := h T kV doc pm an cdv ct us ws its h1 h2 rT.length.symm
  refine BindsTo.of_looks fun M => ?_
  rw [e1]
  exact looks_items X lT dT (.of_pure e2)
theorem fn_textD {io : Bool} {fb : DS} (F : FunT K x qual st dvs f fd) (S : FnScope N ps (defScope st))
    (hb : ∀ (cdv : Value) (A : Around) (outer : List Env) (s : Shared) (H : Hp) (E : XK), (A.deeper (envOfC qual (defScope st) s.heap.objs.size f cdv)).guards = some [] → Room k (A.deeper (envOfC qual (defScope st) s.heap.objs.size f cdv)) → SSs (CB P w K mg base N qual (defScope st) f cdv A outer s H E) E (defBody st) fb) :
    FnG P w K mg base (k + 1) f fd ps (spF ⟨K, mg⟩ ps.length io (runF io N.length fb)) := by
  obtain ⟨oc, od, T, oT, n, its, kV, doc, pm, an, cdv, ct, osl, rfl, lk, hcd, lT, dT, rT⟩ := F.ex
  exact fn_body lk hcd S fun A outer s H E hg hr => hb cdv A outer s H E hg hr
theorem un1 {k : Nat} {A : Around} (hr : Room k A) : A.units + 1 < cLine := by have := hr.un; omega
end
end G


set_option maxRecDepth 100000
set_option maxHeartbeats 4000000
/-! Kern22: how loops and comprehensions are read, once for all. -/
namespace G
open PySem PySem.Spec PyProof.Rows L2
variable [TabT]
/-- a loop whose turns all go on -/
theorem loop_inv {g : DG} {f : DS} (P : Nat → Env' → Prop) : ∀ (ds : List Dt) {k : Nat} {env : Env'}, P k env →
    (∀ i (hi : i < ds.length) e, P (k + i) e → ∃ e1 e2, g ds[i] e = .ok e1 ∧ f e1 = .ok (.nx, e2) ∧ P (k + i + 1) e2) → ∃ e', sLoop g f ds env = .ok (.nx, e') ∧ P (k + ds.length) e'
  | [], k, env, h0, _ => ⟨env, rfl, h0⟩
  | d :: ds, k, env, h0, h => by
    obtain ⟨e1, e2, h1, h2, h3⟩ := h 0 (by simp) env h0
    obtain ⟨e', h4, h5⟩ := loop_inv P ds (k := k + 1) (env := e2) h3 (fun i hi e pe => by
      have := h (i + 1) (by simpa using hi) e (by rw [show k + (i + 1) = k + 1 + i by omega]; exact pe)
      rw [show k + (i + 1) + 1 = k + 1 + i + 1 by omega] at this
      simpa using this)
    refine ⟨e', ?_, by rw [List.length_cons, show k + (ds.length + 1) = k + 1 + ds.length by omega]; exact h5⟩
    unfold sLoop
    rw [show g d env = .ok e1 from h1]
    dsimp only
    rw [h2, Res.bind_ok]
    exact h4
/-- a loop over a list that is told by α, a state that is told by β -/
theorem loop_fold {α β : Type} {g : DG} {f : DS} (nf : α → Dt) (step : β → α → β) (P : β → Env' → Prop) : ∀ (xs : List α) {b : β} {env : Env'}, P b env →
    (∀ x ∈ xs, ∀ b e, P b e → ∃ e1 e2, g (nf x) e = .ok e1 ∧ f e1 = .ok (.nx, e2) ∧ P (step b x) e2) → ∃ e', sLoop g f (xs.map nf) env = .ok (.nx, e') ∧ P (xs.foldl step b) e'
  | [], b, env, h0, _ => ⟨env, rfl, h0⟩
  | x :: xs, b, env, h0, h => by
    obtain ⟨e1, e2, h1, h2, h3⟩ := h x List.mem_cons_self b env h0
    obtain ⟨e', h4, h5⟩ := loop_fold nf step P xs h3 fun y hy => h y (List.mem_cons_of_mem _ hy)
    refine ⟨e', ?_, h5⟩
    rw [List.map_cons]
    unfold sLoop
    rw [h1]
    dsimp only
    rw [h2, Res.bind_ok]
    exact h4
theorem for_of {it : DA} {g : DG} {f : DS} {env e1 e2 : Env'} {ds : List Dt} (h1 : it env = .ok (ds, e1)) (h2 : sLoop g f ds e1 = .ok (.nx, e2)) : sFor it g f env = .ok (.nx, e2) := by
  unfold sFor
  rw [h1, Res.bind_ok]
  exact h2
/-- a comprehension whose turns leave all as it was -/
theorem lc_pure {α : Type} {vs : List Nat} {g : DG} {t : DT} {f : DE} {env : Env'} (nf φ : α → Dt) : ∀ (xs : List α), (∀ x ∈ xs, lcTurn vs g t f (nf x) env = .ok (some (φ x), env)) → lcLoop vs g t f (xs.map nf) env = .ok (xs.map φ, env)
  | [], _ => rfl
  | x :: xs, h => by
    rw [List.map_cons]
    unfold lcLoop
    rw [h x List.mem_cons_self, Res.bind_ok, lc_pure nf φ xs fun y hy => h y (List.mem_cons_of_mem _ hy)]
    rfl
/-- .. and that may leave items out -/
theorem lc_filter {α : Type} {vs : List Nat} {g : DG} {t : DT} {f : DE} {env : Env'} (nf φ : α → Dt) (p : α → Bool) : ∀ (xs : List α), (∀ x ∈ xs, lcTurn vs g t f (nf x) env = .ok (if p x = true then some (φ x) else none, env)) → lcLoop vs g t f (xs.map nf) env = .ok ((xs.filter p).map φ, env)
  | [], _ => rfl
  | x :: xs, h => by
    rw [List.map_cons]
    unfold lcLoop
    rw [h x List.mem_cons_self, Res.bind_ok, lc_filter nf φ p xs fun y hy => h y (List.mem_cons_of_mem _ hy)]
    by_cases hp : p x = true
    · rw [if_pos hp, List.filter_cons_of_pos hp]
      rfl
    · rw [if_neg hp, List.filter_cons_of_neg hp]
      rfl
/-- .. with a state -/
theorem lc_state {α : Type} {vs : List Nat} {g : DG} {t : DT} {f : DE} (nf : α → Dt) (P : Env' → Prop) (R : α → Dt → Prop) : ∀ (xs : List α) {env : Env'}, P env →
    (∀ x ∈ xs, ∀ e, P e → ∃ d e', lcTurn vs g t f (nf x) e = .ok (some d, e') ∧ R x d ∧ P e') → ∃ ds e', lcLoop vs g t f (xs.map nf) env = .ok (ds, e') ∧ ds.length = xs.length ∧ (∀ i (h : i < xs.length) (h' : i < ds.length), R xs[i] ds[i]) ∧ P e'
  | [], env, h0, _ => ⟨[], env, rfl, rfl, fun i h => absurd h (Nat.not_lt_zero _), h0⟩
  | x :: xs, env, h0, h => by
    obtain ⟨d, e1, h1, h2, h3⟩ := h x List.mem_cons_self env h0
    obtain ⟨ds, e2, h4, h5, h6, h7⟩ := lc_state nf P R xs h3 fun y hy => h y (List.mem_cons_of_mem _ hy)
    refine ⟨d :: ds, e2, ?_, by rw [List.length_cons, List.length_cons, h5], fun i hi hi' => ?_, h7⟩
    · rw [List.map_cons]
      unfold lcLoop
      rw [h1, Res.bind_ok, h4]
      rfl
    · cases i with
      | zero => exact h2
      | succ i => exact h6 i (by simpa using hi) (by simpa using hi')
theorem dlc_of {vs : List Nat} {it : DA} {g : DG} {t : DT} {f : DE} {env e1 e2 : Env'} {ds os : List Dt} (h1 : it env = .ok (ds, e1)) (h2 : lcOk e1 vs = true) (h3 : ds.length ≤ sizeLine) (h4 : lcLoop vs g t f ds (wipeE e1 vs) = .ok (os, e2)) :
    dLc vs it g t f env = .ok (.fresh (.lst os), backE e1 e2 vs) := by
  unfold dLc
  rw [h1, Res.bind_ok]
  dsimp only
  rw [if_pos ⟨h2, h3⟩, h4]
  rfl
theorem sizeLine_is : sizeLine = 16777216 := by decide
end G


set_option maxRecDepth 100000
set_option maxHeartbeats 4000000
set_option exponentiation.threshold 30000
/-! Kern23: what is shown and compared; steps through a body. -/
namespace G
open PySem PySem.Spec PyProof.Rows L2
variable [TabT]
/-- shown in at most k signs, nested at most n deep -/
def Sh (k n : Nat) (d : Dt) : Prop := ∃ p, dToP d = some p ∧ okP p = true ∧ p.canLay0 = true ∧ wtP p ≤ k ∧ p.depth ≤ n
theorem Sh.int {i : Int} (h : i.natAbs < 2 ^ 12900) : Sh 12901 0 (.int i) := ⟨.int i, rfl, decide_eq_true h, rfl, Nat.le_refl _, Nat.le_refl _⟩
theorem Sh.mono {k n k' n' : Nat} {d : Dt} (h : Sh k n d) (h1 : k ≤ k') (h2 : n ≤ n') : Sh k' n' d := by
  obtain ⟨p, a, b, c, e, f⟩ := h
  exact ⟨p, a, b, c, Nat.le_trans e h1, Nat.le_trans f h2⟩
theorem shs {k n : Nat} : ∀ {ds : List Dt}, (∀ d ∈ ds, Sh k n d) → ∃ ps, dToPs ds = some ps ∧ okPs ps = true ∧ PyData.canLayAll0 ps = true ∧ wtPs ps ≤ ds.length * (k + 2) ∧ PyData.depthAll ps ≤ n
  | [], _ => ⟨[], rfl, rfl, rfl, Nat.zero_le _, Nat.zero_le _⟩
  | d :: ds, h => by
    obtain ⟨p, a, b, c, e, f⟩ := h d List.mem_cons_self
    obtain ⟨ps, a', b', c', e', f'⟩ := shs fun x hx => h x (List.mem_cons_of_mem _ hx)
    refine ⟨p :: ps, by simp [dToPs, a, a'], by simp [okPs, b, b'], by simp [PyData.canLayAll0, c, c'], ?_, ?_⟩
    · rw [List.length_cons, Nat.succ_mul]
      show (wtP p + 2) + wtPs ps ≤ _
      omega
    · show max p.depth (PyData.depthAll ps) ≤ n
      omega
theorem Sh.lst {k n : Nat} {ds : List Dt} (h : ∀ d ∈ ds, Sh k n d) : Sh (2 + ds.length * (k + 2)) (n + 1) (.lst ds) := by
  obtain ⟨ps, a, b, c, e, f⟩ := shs h
  refine ⟨.list ps, by simp [dToP, a], by simpa [okP] using b, by simpa [PyData.canLay0] using c, ?_, ?_⟩
  · show 2 + wtPs ps ≤ _
    omega
  · show PyData.depthAll ps + 1 ≤ _
    omega
theorem Sh.tup {k n : Nat} {ds : List Dt} (h : ∀ d ∈ ds, Sh k n d) : Sh (3 + ds.length * (k + 2)) (n + 1) (.tup ds) := by
  obtain ⟨ps, a, b, c, e, f⟩ := shs h
  refine ⟨.tuple ps, by simp [dToP, a], by simpa [okP] using b, by simpa [PyData.canLay0] using c, ?_, ?_⟩
  · show 3 + wtPs ps ≤ _
    omega
  · show PyData.depthAll ps + 1 ≤ _
    omega
theorem Sh.repr {k n : Nat} {d : Dt} (h : Sh k n d) (h1 : k ≤ 16777216) (h2 : n ≤ 100) : ∃ s, bRepr [d] = .ok (.imm (.str s)) := by
  obtain ⟨p, a, b, c, e, f⟩ := h
  refine ⟨p.shown, ?_⟩
  have ok : reprOk p = true := by
    unfold reprOk
    rw [b, decide_eq_true (by rw [sizeLine_is]; omega), decide_eq_true (by omega)]
    rfl
  show (match dToP d with
    | some p => if reprOk p = true then Res.ok (Val.imm (Dt.str p.shown)) else Res.bad
    | none => Res.bad) = _
  rw [a]
  show (if reprOk p = true then Res.ok (Val.imm (Dt.str p.shown)) else Res.bad) = _
  rw [if_pos ok]
theorem str_neS (x : Str) : eqS true (.str x) (.str x) = .ok (.imm (.bl false)) := by
  show vB (!decide (V.str x = V.str x)) = _
  rw [decide_eq_true rfl]
  rfl
theorem str_eqS (x : Str) : eqS false (.str x) (.str x) = .ok (.imm (.bl true)) := by
  show vB (decide (V.str x = V.str x)) = _
  rw [decide_eq_true rfl]
  rfl
theorem Sh.same {k n : Nat} {d : Dt} (h : Sh k n d) (h2 : n ≤ 64) : eqS false d d = .ok (.imm (.bl true)) ∧ eqS true d d = .ok (.imm (.bl false)) := by
  obtain ⟨p, a, b, c, e, f⟩ := h
  have sh : SeqAt.shaped p = true := by
    unfold SeqAt.shaped
    rw [c, decide_eq_true (by omega)]
    rfl
  have q := SeqAt.eqv_refl p c
  have key : ∀ neg, eqD neg d d = .ok (.imm (.bl (if neg = true then false else true))) := fun neg => by
    unfold eqD
    rw [a]
    dsimp only
    rw [sh, q]
    cases neg <;> rfl
  constructor
  · rcases eqS_split false d d with ⟨x, y, rfl, e⟩ | e
    · cases e
      exact str_eqS x
    · rw [e, key]
      rfl
  · rcases eqS_split true d d with ⟨x, y, rfl, e⟩ | e
    · cases e
      exact str_neS x
    · rw [e, key]
      rfl
/-! steps -/
theorem seq_nx {f g : DS} {env e : Env'} (h : f env = .ok (.nx, e)) : sSeq f g env = g e := by
  unfold sSeq
  rw [h]
  rfl
theorem run_rt {n : Nat} {f : DS} {ds : List Dt} {e e' : Env'} {v : Val} (h0 : env0 false n ds = e) (h : f e = .ok (.rt v, e')) : runF false n f ds = .ok (v, none) := by
  unfold runF
  rw [h0, h]
  rfl
theorem if_no {env e : Env'} {t : DT} {f : DS} (h : t env = .ok (false, e)) : sIf t f sNext env = .ok (.nx, e) := by
  unfold sIf
  rw [h]
  rfl
end G


set_option maxRecDepth 100000
set_option maxHeartbeats 4000000
set_option exponentiation.threshold 30000
/-! Kern15: natural numbers as data; the pen that the laws draw with. -/
namespace G
open PySem PySem.Spec PyProof.Rows L2
variable [TabT]
theorem fmod_nat (a b : Nat) : Int.fmod (a : Int) (b : Int) = ((a % b : Nat) : Int) := by
  rw [Int.fmod_eq_emod_of_nonneg _ (by omega)]; rfl
theorem fdiv_nat (a b : Nat) : Int.fdiv (a : Int) (b : Int) = ((a / b : Nat) : Int) := by
  rw [Int.fdiv_eq_ediv_of_nonneg _ (by omega)]; rfl
theorem log_lt {n k : Nat} (hk : 0 < k) (h : n < 2 ^ k) : n.log2 < k := by
  by_cases h0 : n = 0
  · rw [h0]; simpa using hk
  · exact (Nat.log2_lt h0).mpr h
theorem pyl_y {a b : Nat} (h : b < 2 ^ 9000) : Builtin.divisionGoesByPylong (a : Int) (b : Int) = false := by
  have hl := log_lt (by decide) h
  clear h
  unfold Builtin.divisionGoesByPylong
  rw [Bool.and_eq_false_iff]
  left
  simp only [Int.natAbs_natCast]
  rw [decide_eq_false_iff_not]
  split <;> omega
theorem pyl_x {a b : Nat} (h : a < 2 ^ 13500) : Builtin.divisionGoesByPylong (a : Int) (b : Int) = false := by
  have hl := log_lt (by decide) h
  clear h
  unfold Builtin.divisionGoesByPylong
  simp only [Int.natAbs_natCast]
  rw [Bool.and_eq_false_iff, decide_eq_false_iff_not, decide_eq_false_iff_not]
  split <;> split <;> omega
theorem mul_small {a b : Nat} (ha : a < 2 ^ 20000) (hb : b < 2 ^ 20000) : mulOk (a : Int) (b : Int) = true := by
  have h1 := log_lt (by decide) ha
  have h2 := log_lt (by decide) hb
  clear ha hb
  unfold mulOk
  rw [Bool.or_eq_true]
  right
  rw [decide_eq_true_eq]
  unfold Builtin.Int.intBits
  simp only [Int.natAbs_natCast]
  split <;> split <;> omega
theorem mul_left_small {a b : Nat} (ha : a < 2 ^ 64) : mulOk (a : Int) (b : Int) = true := by
  unfold mulOk
  rw [Bool.or_eq_true, Bool.or_eq_true]
  left
  left
  exact decide_eq_true (by simpa using ha)
/-- a natural number as data -/
def ni (n : Nat) : Dt := .int n
theorem ni_def (n : Nat) : ni n = .int n := rfl
theorem ni_mod {a b : Nat} (hb : 0 < b) : opMod (ni a) (ni b) = .ok (.imm (ni (a % b))) := by
  show (if (b : Int) ≠ 0 then vI (Int.fmod a b) else .bad) = _
  rw [if_pos (by omega), fmod_nat]
  rfl
theorem ni_mulG {a b : Nat} (h : mulOk (a : Int) (b : Int) = true) : opMul (ni a) (ni b) = .ok (.imm (ni (a * b))) := by
  show (if mulOk (a : Int) (b : Int) = true then vI ((a : Int) * b) else .bad) = _
  rw [if_pos h]
  show Res.ok (Val.imm (Dt.int ((a : Int) * b))) = .ok (.imm (.int ((a * b : Nat) : Int)))
  rw [Int.natCast_mul]
theorem ni_mul {a b : Nat} (ha : a < 2 ^ 20000) (hb : b < 2 ^ 20000) : opMul (ni a) (ni b) = .ok (.imm (ni (a * b))) := ni_mulG (mul_small ha hb)
theorem ni_mulL {a b : Nat} (ha : a < 2 ^ 64) : opMul (ni a) (ni b) = .ok (.imm (ni (a * b))) := ni_mulG (mul_left_small ha)
theorem ni_fdivG {a b : Nat} (hb : 0 < b) (h : Builtin.divisionGoesByPylong (a : Int) (b : Int) = false) : opFDiv (ni a) (ni b) = .ok (.imm (ni (a / b))) := by
  show (if (b : Int) ≠ 0 ∧ Builtin.divisionGoesByPylong (a : Int) (b : Int) = false then vI (Int.fdiv a b) else .bad) = _
  rw [if_pos ⟨by omega, h⟩, fdiv_nat]
  rfl
theorem ni_fdivy {a b : Nat} (hb : 0 < b) (h : b < 2 ^ 9000) : opFDiv (ni a) (ni b) = .ok (.imm (ni (a / b))) := ni_fdivG hb (pyl_y h)
theorem ni_fdivx {a b : Nat} (hb : 0 < b) (h : a < 2 ^ 13500) : opFDiv (ni a) (ni b) = .ok (.imm (ni (a / b))) := ni_fdivG hb (pyl_x h)
theorem ni_add (a b : Nat) : opAdd (ni a) (ni b) = .ok (.imm (ni (a + b))) := by
  show vI ((a : Int) + b) = .ok (.imm (.int ((a + b : Nat) : Int)))
  rw [Int.natCast_add]
  rfl
theorem ni_sub {a b : Nat} (h : b ≤ a) : opSub (ni a) (ni b) = .ok (.imm (ni (a - b))) := by
  show vI ((a : Int) - b) = .ok (.imm (.int ((a - b : Nat) : Int)))
  rw [Int.ofNat_sub h]
  rfl
theorem ni_pow {a b : Nat} (hb : b ≤ 1000000) (ha : a < 2 ^ 64) : opPow (ni a) (ni b) = .ok (.imm (ni (a ^ b))) := by
  show (if 0 ≤ (b : Int) ∧ (b : Int).natAbs ≤ 1000000 ∧ (a : Int).natAbs < 2 ^ 64 then vI ((a : Int) ^ (b : Int).toNat) else .bad) = .ok (.imm (.int ((a ^ b : Nat) : Int)))
  rw [if_pos ⟨by omega, by simpa using hb, by simpa using ha⟩, Int.natCast_pow]
  rfl
theorem ni_gt (a c : Nat) : opGt (ni a) (ni c) = .ok (.imm (.bl (decide (c < a)))) := by
  show vB (decide ((c : Int) < (a : Int))) = _
  unfold vB
  congr 3
  simp
theorem ni_lt (a c : Nat) : opLt (ni a) (ni c) = .ok (.imm (.bl (decide (a < c)))) := by
  show vB (decide ((a : Int) < (c : Int))) = _
  unfold vB
  congr 3
  simp
theorem ni_le (a c : Nat) : opLe (ni a) (ni c) = .ok (.imm (.bl (decide (a ≤ c)))) := by
  show vB (decide ((a : Int) ≤ (c : Int))) = _
  unfold vB
  congr 3
  simp
theorem ni_ge (a c : Nat) : opGe (ni a) (ni c) = .ok (.imm (.bl (decide (c ≤ a)))) := by
  show vB (decide ((c : Int) ≤ (a : Int))) = _
  unfold vB
  congr 3
  simp
theorem ni_neg (a : Nat) : opNeg (ni a) = .ok (.imm (.int (-(a : Int)))) := rfl
theorem ni_abs (a : Nat) : bAbs [ni a] = .ok (.imm (ni a)) := by
  show vI (if (a : Int) < 0 then -(a : Int) else a) = _
  rw [if_neg (by omega)]
  rfl
theorem ni_int (a : Nat) : bInt [ni a] = .ok (.imm (ni a)) := rfl
theorem eqv_ni (a b : Nat) : PyData.eqv (.int a) (.int b) = decide (a = b) := by
  show ((a : Int) == b) = _
  by_cases h : a = b
  · subst h; simp
  · rw [decide_eq_false h]
    simp
    omega
theorem ni_eq (a b : Nat) : eqS false (ni a) (ni b) = .ok (.imm (.bl (decide (a = b)))) := by
  show vB (PyData.eqv (.int a) (.int b)) = _
  rw [eqv_ni]
  rfl
theorem ni_ne (a b : Nat) : eqS true (ni a) (ni b) = .ok (.imm (.bl (!decide (a = b)))) := by
  show vB (!PyData.eqv (.int a) (.int b)) = _
  rw [eqv_ni]
  rfl
theorem ni_isi (a : Nat) : isiD "int" (ni a) = .ok (.imm (.bl true)) := by
  have h : kitB "int" "int" = some true := by decide +kernel
  show (match (some "int").bind fun t => kitB t "int" with
    | some b => vB b
    | none => .bad) = _
  rw [show ((some "int").bind fun t => kitB t "int") = some true from h]
  rfl
theorem ni_isb (a : Nat) : isiD "bool" (ni a) = .ok (.imm (.bl false)) := by
  have h : kitB "int" "bool" = some false := by decide +kernel
  show (match (some "int").bind fun t => kitB t "bool" with
    | some b => vB b
    | none => .bad) = _
  rw [show ((some "int").bind fun t => kitB t "bool") = some false from h]
  rfl
theorem bLen_l (ds : List Dt) : bLen [.lst ds] = .ok (.imm (ni ds.length)) := rfl
theorem bLen_t (ds : List Dt) : bLen [.tup ds] = .ok (.imm (ni ds.length)) := rfl
theorem ix_l {ds : List Dt} {k : Nat} {d : Dt} (h : ds[k]? = some d) : opIx (.lst ds) (ni k) = .ok (.imm d) := by
  show (match L2.atI ds (k : Int) with
    | some d => Res.ok (Val.imm d)
    | none => Res.bad) = _
  rw [L2.atI_nat h]
theorem ix_t {ds : List Dt} {k : Nat} {d : Dt} (h : ds[k]? = some d) : opIx (.tup ds) (ni k) = .ok (.imm d) := by
  show (match L2.atI ds (k : Int) with
    | some d => Res.ok (Val.imm d)
    | none => Res.bad) = _
  rw [L2.atI_nat h]
theorem ixt0 (x : Dt) (xs : List Dt) : opIx (.tup (x :: xs)) (ni 0) = .ok (.imm x) := ix_t rfl
theorem ixt1 (x y : Dt) (xs : List Dt) : opIx (.tup (x :: y :: xs)) (ni 1) = .ok (.imm y) := ix_t rfl
theorem ixl0 (x : Dt) (xs : List Dt) : opIx (.lst (x :: xs)) (ni 0) = .ok (.imm x) := ix_l rfl
theorem ixl1 (x y : Dt) (xs : List Dt) : opIx (.lst (x :: y :: xs)) (ni 1) = .ok (.imm y) := ix_l rfl
theorem ixl2 (x y z : Dt) (xs : List Dt) : opIx (.lst (x :: y :: z :: xs)) (ni 2) = .ok (.imm z) := ix_l rfl
theorem putN {ds : List Dt} {k : Nat} (x : Dt) (h : k < ds.length) : putD (ni k) x (.lst ds) = some (.lst (ds.set k x)) := by
  have e : L2.ixN ds.length (k : Int) = some k := by
    unfold L2.ixN
    have : (k : Int) < (ds.length : Int) := by omega
    simp [this]
  show (match L2.ixN ds.length (k : Int) with
      | some j => some (Dt.lst (ds.set j x))
      | none => none) = _
  rw [e]
theorem put1 (x a b c : Dt) : putD (ni 1) x (.lst [a, b, c]) = some (.lst [a, x, c]) := putN x (by simp)
theorem put2 (x a b c : Dt) : putD (ni 2) x (.lst [a, b, c]) = some (.lst [a, b, x]) := putN x (by simp)
theorem lit0 : Dt.int 0 = ni 0 := rfl
theorem lit1 : Dt.int 1 = ni 1 := rfl
theorem lit2 : Dt.int 2 = ni 2 := rfl
theorem lit3 : Dt.int 3 = ni 3 := rfl
theorem lit5 : Dt.int 5 = ni 5 := rfl
theorem lit10 : Dt.int 10 = ni 10 := rfl
theorem lit18 : Dt.int 18 = ni 18 := rfl
theorem lit64 : Dt.int 64 = ni 64 := rfl
theorem i_abs (c : Int) : bAbs [.int c] = .ok (.imm (ni c.natAbs)) := by
  show vI (if c < 0 then -c else c) = .ok (.imm (.int (c.natAbs : Int)))
  have : (if c < 0 then -c else c) = (c.natAbs : Int) := by split <;> omega
  rw [this]
  rfl
theorem i_mod (c : Int) {p : Nat} (hp : 0 < p) : opMod (.int c) (ni p) = .ok (.imm (ni (c % p).toNat)) := by
  show (if (p : Int) ≠ 0 then vI (Int.fmod c p) else .bad) = .ok (.imm (.int ((c % p).toNat : Int)))
  rw [if_pos (by omega), Int.fmod_eq_emod_of_nonneg _ (by omega), Int.toNat_of_nonneg (Int.emod_nonneg _ (by omega))]
  rfl
theorem i_mod_lt (c : Int) {p : Nat} (hp : 0 < p) : (c % p).toNat < p := by
  have h1 := Int.emod_nonneg c (show (p : Int) ≠ 0 by omega)
  have h2 := Int.emod_lt_of_pos c (show (0 : Int) < p by omega)
  omega
theorem i_lt0 (c : Int) : opLt (.int c) (ni 0) = .ok (.imm (.bl (decide (c < 0)))) := rfl
theorem i_int (c : Int) : bInt [.int c] = .ok (.imm (.int c)) := rfl
theorem b_int (b : Bool) : bInt [.bl b] = .ok (.imm (ni (if b = true then 1 else 0))) := by cases b <;> rfl
theorem str_ne (x : Str) : eqS true (.str x) (.str x) = .ok (.imm (.bl false)) := by
  show vB (!decide (V.str x = V.str x)) = _
  rw [decide_eq_true rfl]
  rfl
theorem dps_ints : ∀ cs : List Int, dToPs (cs.map .int) = some (cs.map .int)
  | [] => rfl
  | c :: cs => by
    have ih := dps_ints cs
    simp [dToPs, dToP, ih]
theorem eq_nil (cs : List Int) : eqS false (.lst (cs.map .int)) (.lst []) = .ok (.imm (.bl cs.isEmpty)) := by
  have h1 : dToP (.lst (cs.map .int)) = some (.list (cs.map .int)) := by simp [dToP, dps_ints]
  have h2 : dToP (.lst []) = some (.list []) := rfl
  show eqD false _ _ = _
  unfold eqD
  rw [h1, h2]
  have sh : ∀ cs : List Int, PyData.canLayAll0 (cs.map PyData.int) = true ∧ PyData.depthAll (cs.map PyData.int) = 0 := fun cs => by
    induction cs with
    | nil => exact ⟨by simp [PyData.canLayAll0], by simp [PyData.depthAll]⟩
    | cons c cs ih => exact ⟨by simp [PyData.canLayAll0, PyData.canLay0, ih.1], by simp [PyData.depthAll, PyData.depth, ih.2]⟩
  have h3 : SeqAt.shaped (.list (cs.map .int)) = true := by simp [SeqAt.shaped, PyData.canLay0, PyData.depth, (sh cs).1, (sh cs).2]
  have h4 : SeqAt.shaped (.list []) = true := by simp [SeqAt.shaped, PyData.canLay0, PyData.depth, PyData.canLayAll0, PyData.depthAll]
  simp only [h3, h4, Bool.and_self, if_true]
  cases cs with
  | nil => rfl
  | cons c cs => rfl
end G


set_option maxRecDepth 100000
set_option maxHeartbeats 4000000
set_option exponentiation.threshold 30000
/-! Kern24: the pen that the laws draw with. -/
namespace G
open PySem PySem.Spec PyProof.Rows L2
variable [TabT]
def drawB (p1 c1 c2 p2 c3 p3 : Int) : DS := (sSeq (sSet 2 (dCallB bInt (aCons (dIxS 0 (dC (.int 2))) aNil)))
    (sSeq (sIf (dTest (dBin opGt (dVar 2) (dC (.int 0)))) (sSeq (sPut 0 (dC (.int 2)) (dBin opFDiv (dVar 2) (dVar 1)))
    (sRet (dBin opMod (dVar 2) (dVar 1)))) sNext)
    (sSeq (sIf (dTest (dBin (eqS false) (dIxS 0 (dC (.int 0))) (dLst aNil))) (sRet (dC (.int 0))) sNext)
    (sSeq (sSet 3 (dIxS 0 (dC (.int 1))))
    (sSeq (sPut 0 (dC (.int 1)) (dBin opAdd (dVar 3) (dC (.int 1))))
    (sSeq (sSet 4 (dBin opIx (dIxS 0 (dC (.int 0))) (dBin opMod (dCallB bInt (aCons (dVar 3) aNil)) (dCallB bLen (aCons (dIxS 0 (dC (.int 0))) aNil)))))
    (sSeq (sIf (tAndD (dTest (dBin opLt (dVar 3) (dCallB bLen (aCons (dIxS 0 (dC (.int 0))) aNil)))) (dTest (dBin opGe (dCallB bAbs (aCons (dVar 4) aNil)) (dBin opPow (dC (.int 10)) (dC (.int 18)))))) (sSeq (sSet 2 (dBin opAdd (dBin opMul (dC (.int 2)) (dBin opSub (dCallB bAbs (aCons (dVar 4) aNil)) (dBin opPow (dC (.int 10)) (dC (.int 18))))) (dCallB bInt (aCons (dBin opLt (dVar 4) (dC (.int 0))) aNil))))
    (sSeq (sPut 0 (dC (.int 2)) (dBin opFDiv (dVar 2) (dVar 1)))
    (sRet (dBin opMod (dVar 2) (dVar 1))))) sNext)
    (sSeq (sSet 5 (dBin opMod (dCallB bInt (aCons (dBin opPow (dBin opAdd (dBin opAdd (dBin opMod (dCallB bInt (aCons (dVar 4) aNil)) (dC (.int p1))) (dBin opMul (dC (.int c1)) (dVar 3))) (dC (.int c2))) (dC (.int 5))) aNil)) (dC (.int p2))))
    (sSeq (sSet 5 (dBin opMod (dCallB bInt (aCons (dBin opPow (dBin opAdd (dBin opAdd (dBin opMul (dVar 5) (dBin opAdd (dBin opMul (dC (.int 2)) (dVar 3)) (dC (.int c3)))) (dBin opMul (dBin opMul (dC (.int c1)) (dVar 3)) (dVar 3))) (dC (.int c2))) (dC (.int 3))) aNil)) (dC (.int p3))))
    (sRet (dBin opMod (dCallB bInt (aCons (dBin opFDiv (dVar 5) (dC (.int 64))) aNil)) (dVar 1))))))))))))
/-- the pen: cells, place, what is left -/
def PenD (cs : List Int) (p r : Nat) : Dt := .lst [.lst (cs.map .int), ni p, ni r]
section
variable {cs : List Int} {pl rest many : Nat} {s2 s3 s4 s5 : Slot}
abbrev PE6 (cs : List Int) (pl rest many : Nat) (s2 s3 s4 s5 : Slot) : Env' := [.io (PenD cs pl rest), .imm (ni many), s2, s3, s4, s5]
theorem pen_ix0 : dIxS 0 (dC (.int 0)) (PE6 cs pl rest many s2 s3 s4 s5) = .ok (.imm (.lst (cs.map .int)), PE6 cs pl rest many s2 s3 s4 s5) := rfl
theorem pen_ix1 : dIxS 0 (dC (.int 1)) (PE6 cs pl rest many s2 s3 s4 s5) = .ok (.imm (ni pl), PE6 cs pl rest many s2 s3 s4 s5) := rfl
theorem pen_ix2 : dIxS 0 (dC (.int 2)) (PE6 cs pl rest many s2 s3 s4 s5) = .ok (.imm (ni rest), PE6 cs pl rest many s2 s3 s4 s5) := rfl
theorem pen_put1 {f : DE} {x : Nat} {s2' s3' s4' s5' : Slot} (h : f (PE6 cs pl rest many s2 s3 s4 s5) = .ok (.imm (ni x), PE6 cs pl rest many s2' s3' s4' s5')) : sPut 0 (dC (.int 1)) f (PE6 cs pl rest many s2 s3 s4 s5) = .ok (.nx, PE6 cs x rest many s2' s3' s4' s5') := by
  unfold sPut
  rw [h, Res.bind_ok]
  rfl
theorem pen_put2 {f : DE} {x : Nat} {s2' s3' s4' s5' : Slot} (h : f (PE6 cs pl rest many s2 s3 s4 s5) = .ok (.imm (ni x), PE6 cs pl rest many s2' s3' s4' s5')) : sPut 0 (dC (.int 2)) f (PE6 cs pl rest many s2 s3 s4 s5) = .ok (.nx, PE6 cs pl x many s2' s3' s4' s5') := by
  unfold sPut
  rw [h, Res.bind_ok]
  rfl
theorem bin_ok {g : Dt → Dt → Res Val} {fa fb : DE} {e e1 e2 : Env'} {v w x : Val} (h1 : fa e = .ok (v, e1)) (h2 : fb e1 = .ok (w, e2)) (h3 : g v.d w.d = .ok x) : dBin g fa fb e = .ok (x, e2) := by
  unfold dBin
  rw [h1, Res.bind_ok, h2, Res.bind_ok, h3]
  rfl
theorem blt_ok {g : List Dt → Res Val} {fa : DE} {e e1 : Env'} {v x : Val} (h1 : fa e = .ok (v, e1)) (h3 : g [v.d] = .ok x) : dCallB g (aCons fa aNil) e = .ok (x, e1) := by
  unfold dCallB aCons aNil
  rw [h1, Res.bind_ok, Res.bind_ok, Res.bind_ok, h3]
  rfl
theorem test_ok {f : DE} {e e1 : Env'} {b : Bool} (h : f e = .ok (.imm (.bl b), e1)) : dTest f e = .ok (b, e1) := by
  unfold dTest
  rw [h]
  rfl
theorem if_yes {env e : Env'} {t : DT} {f h : DS} (ht : t env = .ok (true, e)) : sIf t f h env = f e := by
  unfold sIf
  rw [ht]
  rfl
theorem ret_ok {f : DE} {e e1 : Env'} {v : Val} (h : f e = .ok (v, e1)) : sRet f e = .ok (.rt v, e1) := by
  unfold sRet
  rw [h]
  rfl
theorem and_no {t u : DT} {e e1 : Env'} (h : t e = .ok (false, e1)) : tAndD t u e = .ok (false, e1) := by
  unfold tAndD
  rw [h]
  rfl
theorem and_yes {t u : DT} {e e1 : Env'} (h : t e = .ok (true, e1)) : tAndD t u e = u e1 := by
  unfold tAndD
  rw [h]
  rfl
theorem set_at {i : Nat} {f : DE} {e e1 e2 : Env'} {d : Dt} (h : f e = .ok (.imm d, e1)) (h1 : canSet e1 i = true) (h2 : e1.set i (.imm d) = e2) : sSet i f e = .ok (.nx, e2) := by
  unfold sSet
  rw [h, Res.bind_ok]
  unfold setVal
  dsimp only
  rw [if_pos h1, h2]
end
section
variable {p1 c1 c2 p2 c3 p3 : Nat} {cs : List Int} {pl rest many : Nat}
/-- a digit of what is left -/
theorem draw_rest (hm : 0 < many) (hm2 : many < 2 ^ 64) (hr : 0 < rest) : runF true 6 (drawB p1 c1 c2 p2 c3 p3) [PenD cs pl rest, ni many] = .ok (.imm (ni (rest % many)), some (PenD cs pl (rest / many))) := by
  have hm3 : many < 2 ^ 9000 := Nat.lt_of_lt_of_le hm2 (Nat.pow_le_pow_right (by decide) (by decide))
  have g0 := ni_gt rest 0
  rw [decide_eq_true hr] at g0
  have m := ni_mod (a := rest) hm
  have d := ni_fdivy (a := rest) hm hm3
  have b0 : sSet 2 (dCallB bInt (aCons (dIxS 0 (dC (.int 2))) aNil)) (PE6 cs pl rest many .un .un .un .un) = .ok (.nx, PE6 cs pl rest many (.imm (ni rest)) .un .un .un) := set_at (blt_ok pen_ix2 (ni_int rest)) rfl rfl
  have b1 : sPut 0 (dC (.int 2)) (dBin opFDiv (dVar 2) (dVar 1)) (PE6 cs pl rest many (.imm (ni rest)) .un .un .un) = .ok (.nx, PE6 cs pl (rest / many) many (.imm (ni rest)) .un .un .un) := pen_put2 (bin_ok (v := .imm (ni rest)) (w := .imm (ni many)) rfl rfl d)
  have b2 : sRet (dBin opMod (dVar 2) (dVar 1)) (PE6 cs pl (rest / many) many (.imm (ni rest)) .un .un .un) = .ok (.rt (.imm (ni (rest % many))), PE6 cs pl (rest / many) many (.imm (ni rest)) .un .un .un) := ret_ok (bin_ok (v := .imm (ni rest)) (w := .imm (ni many)) rfl rfl m)
  have t : dTest (dBin opGt (dVar 2) (dC (.int 0))) (PE6 cs pl rest many (.imm (ni rest)) .un .un .un) = .ok (true, PE6 cs pl rest many (.imm (ni rest)) .un .un .un) := test_ok (bin_ok (v := .imm (ni rest)) (w := .imm (ni 0)) rfl rfl g0)
  have all : drawB p1 c1 c2 p2 c3 p3 (PE6 cs pl rest many .un .un .un .un) = .ok (.rt (.imm (ni (rest % many))), PE6 cs pl (rest / many) many (.imm (ni rest)) .un .un .un) := by
    unfold drawB
    rw [seq_nx b0]
    have i : ∀ h : DS, sSeq (sIf (dTest (dBin opGt (dVar 2) (dC (.int 0)))) (sSeq (sPut 0 (dC (.int 2)) (dBin opFDiv (dVar 2) (dVar 1))) (sRet (dBin opMod (dVar 2) (dVar 1)))) sNext) h (PE6 cs pl rest many (.imm (ni rest)) .un .un .un) = .ok (.rt (.imm (ni (rest % many))), PE6 cs pl (rest / many) many (.imm (ni rest)) .un .un .un) := fun h => by
      unfold sSeq
      rw [if_yes t]
      have : sSeq (sPut 0 (dC (.int 2)) (dBin opFDiv (dVar 2) (dVar 1))) (sRet (dBin opMod (dVar 2) (dVar 1))) (PE6 cs pl rest many (.imm (ni rest)) .un .un .un) = _ := (seq_nx b1).trans b2
      unfold sSeq at this
      rw [this]
      rfl
    exact i _
  unfold runF
  rw [show env0 true 6 [PenD cs pl rest, ni many] = PE6 cs pl rest many .un .un .un .un from rfl, all]
  rfl
/-- the first steps, with nothing left -/
theorem draw_head {B : DS} {r : Res (Fl × Env')} (h : B (PE6 cs pl 0 many (.imm (ni 0)) .un .un .un) = r) : sSeq (sSet 2 (dCallB bInt (aCons (dIxS 0 (dC (.int 2))) aNil))) (sSeq (sIf (dTest (dBin opGt (dVar 2) (dC (.int 0)))) (sSeq (sPut 0 (dC (.int 2)) (dBin opFDiv (dVar 2) (dVar 1))) (sRet (dBin opMod (dVar 2) (dVar 1)))) sNext) B) (PE6 cs pl 0 many .un .un .un .un) = r := by
  have b0 : sSet 2 (dCallB bInt (aCons (dIxS 0 (dC (.int 2))) aNil)) (PE6 cs pl 0 many .un .un .un .un) = .ok (.nx, PE6 cs pl 0 many (.imm (ni 0)) .un .un .un) := set_at (blt_ok pen_ix2 (ni_int 0)) rfl rfl
  have t : dTest (dBin opGt (dVar 2) (dC (.int 0))) (PE6 cs pl 0 many (.imm (ni 0)) .un .un .un) = .ok (false, PE6 cs pl 0 many (.imm (ni 0)) .un .un .un) := test_ok (bin_ok (v := .imm (ni 0)) (w := .imm (ni 0)) rfl rfl (ni_gt 0 0))
  rw [seq_nx b0, seq_nx (if_no t)]
  exact h
theorem nil_test : dTest (dBin (eqS false) (dIxS 0 (dC (.int 0))) (dLst aNil)) (PE6 cs pl 0 many (.imm (ni 0)) .un .un .un) = .ok (cs.isEmpty, PE6 cs pl 0 many (.imm (ni 0)) .un .un .un) := by
  refine test_ok (bin_ok (v := .imm (.lst (cs.map .int))) (w := .fresh (.lst [])) pen_ix0 ?_ (eq_nil cs))
  unfold dLst aNil
  rw [Res.bind_ok]
  exact if_pos (Nat.zero_le _)
theorem draw_none : runF true 6 (drawB p1 c1 c2 p2 c3 p3) [PenD [] pl 0, ni many] = .ok (.imm (ni 0), some (PenD [] pl 0)) := by
  have all : drawB p1 c1 c2 p2 c3 p3 (PE6 [] pl 0 many .un .un .un .un) = .ok (.rt (.imm (ni 0)), PE6 [] pl 0 many (.imm (ni 0)) .un .un .un) := by
    unfold drawB
    refine draw_head ?_
    unfold sSeq
    rw [if_yes nil_test]
    rfl
  unfold runF
  rw [show env0 true 6 [PenD [] pl 0, ni many] = PE6 [] pl 0 many .un .un .un .un from rfl, all]
  rfl
/-- the cell that is begun -/
theorem draw_cell {B : DS} {c : Int} {r : Res (Fl × Env')} (hc : cs.isEmpty = false) (hl : 0 < cs.length) (X : opIx (.lst (cs.map .int)) (ni (pl % cs.length)) = .ok (.imm (.int c))) (h : B (PE6 cs (pl + 1) 0 many (.imm (ni 0)) (.imm (ni pl)) (.imm (.int c)) .un) = r) :
    sSeq (sSet 2 (dCallB bInt (aCons (dIxS 0 (dC (.int 2))) aNil))) (sSeq (sIf (dTest (dBin opGt (dVar 2) (dC (.int 0)))) (sSeq (sPut 0 (dC (.int 2)) (dBin opFDiv (dVar 2) (dVar 1))) (sRet (dBin opMod (dVar 2) (dVar 1)))) sNext)
      (sSeq (sIf (dTest (dBin (eqS false) (dIxS 0 (dC (.int 0))) (dLst aNil))) (sRet (dC (.int 0))) sNext)
      (sSeq (sSet 3 (dIxS 0 (dC (.int 1))))
      (sSeq (sPut 0 (dC (.int 1)) (dBin opAdd (dVar 3) (dC (.int 1))))
      (sSeq (sSet 4 (dBin opIx (dIxS 0 (dC (.int 0))) (dBin opMod (dCallB bInt (aCons (dVar 3) aNil)) (dCallB bLen (aCons (dIxS 0 (dC (.int 0))) aNil))))) B))))) (PE6 cs pl 0 many .un .un .un .un) = r := by
  refine draw_head ?_
  have nt := nil_test (cs := cs) (pl := pl) (many := many)
  rw [hc] at nt
  have s3 : sSet 3 (dIxS 0 (dC (.int 1))) (PE6 cs pl 0 many (.imm (ni 0)) .un .un .un) = .ok (.nx, PE6 cs pl 0 many (.imm (ni 0)) (.imm (ni pl)) .un .un) := set_at pen_ix1 rfl rfl
  have p1 : sPut 0 (dC (.int 1)) (dBin opAdd (dVar 3) (dC (.int 1))) (PE6 cs pl 0 many (.imm (ni 0)) (.imm (ni pl)) .un .un) = .ok (.nx, PE6 cs (pl + 1) 0 many (.imm (ni 0)) (.imm (ni pl)) .un .un) := pen_put1 (bin_ok (v := .imm (ni pl)) (w := .imm (ni 1)) rfl rfl (ni_add pl 1))
  have s4 : sSet 4 (dBin opIx (dIxS 0 (dC (.int 0))) (dBin opMod (dCallB bInt (aCons (dVar 3) aNil)) (dCallB bLen (aCons (dIxS 0 (dC (.int 0))) aNil)))) (PE6 cs (pl + 1) 0 many (.imm (ni 0)) (.imm (ni pl)) .un .un) = .ok (.nx, PE6 cs (pl + 1) 0 many (.imm (ni 0)) (.imm (ni pl)) (.imm (.int c)) .un) := by
    refine set_at (bin_ok (v := .imm (.lst (cs.map .int))) (w := .imm (ni (pl % cs.length))) pen_ix0 (bin_ok (v := .imm (ni pl)) (w := .imm (ni cs.length)) (blt_ok (v := .imm (ni pl)) rfl (ni_int pl)) (blt_ok pen_ix0 ?_) (ni_mod hl)) X) rfl rfl
    show bLen [.lst (cs.map .int)] = _
    rw [bLen_l, List.length_map]
  rw [seq_nx (if_no nt), seq_nx s3, seq_nx p1, seq_nx s4]
  exact h
theorem draw_big (hm : 0 < many) (hm2 : many < 2 ^ 64) {c : Int} (hc : cs.isEmpty = false) (hl : 0 < cs.length) (X : opIx (.lst (cs.map .int)) (ni (pl % cs.length)) = .ok (.imm (.int c))) (q1 : pl < cs.length) (q2 : 10 ^ 18 ≤ c.natAbs) :
    runF true 6 (drawB p1 c1 c2 p2 c3 p3) [PenD cs pl 0, ni many] = .ok (.imm (ni ((2 * (c.natAbs - 10 ^ 18) + (if decide (c < 0) = true then 1 else 0)) % many)), some (PenD cs (pl + 1) ((2 * (c.natAbs - 10 ^ 18) + (if decide (c < 0) = true then 1 else 0)) / many))) := by
  have hm3 : many < 2 ^ 9000 := Nat.lt_of_lt_of_le hm2 (Nat.pow_le_pow_right (by decide) (by decide))
  have S := ni_sub q2
  have S2 := ni_mulL (a := 2) (b := c.natAbs - 10 ^ 18) (by decide)
  have P10 := ni_pow (a := 10) (b := 18) (by decide) (by decide)
  generalize hR : 2 * (c.natAbs - 10 ^ 18) + (if decide (c < 0) = true then 1 else 0) = R
  have AD := ni_add (2 * (c.natAbs - 10 ^ 18)) (if decide (c < 0) = true then 1 else 0)
  rw [hR] at AD
  have m := ni_mod (a := R) hm
  have d := ni_fdivy (a := R) hm hm3
  have l1 := ni_lt pl cs.length
  rw [decide_eq_true q1] at l1
  have l2 := ni_ge c.natAbs (10 ^ 18)
  rw [decide_eq_true q2] at l2
  let E := PE6 cs (pl + 1) 0 many (.imm (ni 0)) (.imm (ni pl)) (.imm (.int c)) .un
  have pw : dBin opPow (dC (.int 10)) (dC (.int 18)) E = .ok (.imm (ni (10 ^ 18)), E) := bin_ok (v := .imm (ni 10)) (w := .imm (ni 18)) rfl rfl P10
  have ab : dCallB bAbs (aCons (dVar 4) aNil) E = .ok (.imm (ni c.natAbs), E) := blt_ok (v := .imm (.int c)) rfl (i_abs c)
  have ln : dCallB bLen (aCons (dIxS 0 (dC (.int 0))) aNil) E = .ok (.imm (ni cs.length), E) := blt_ok pen_ix0 (by
    show bLen [.lst (cs.map .int)] = _
    rw [bLen_l, List.length_map])
  have t : tAndD (dTest (dBin opLt (dVar 3) (dCallB bLen (aCons (dIxS 0 (dC (.int 0))) aNil)))) (dTest (dBin opGe (dCallB bAbs (aCons (dVar 4) aNil)) (dBin opPow (dC (.int 10)) (dC (.int 18))))) E = .ok (true, E) := by
    rw [and_yes (test_ok (bin_ok (v := .imm (ni pl)) rfl ln l1))]
    exact test_ok (bin_ok ab pw l2)
  have b2 : sSet 2 (dBin opAdd (dBin opMul (dC (.int 2)) (dBin opSub (dCallB bAbs (aCons (dVar 4) aNil)) (dBin opPow (dC (.int 10)) (dC (.int 18))))) (dCallB bInt (aCons (dBin opLt (dVar 4) (dC (.int 0))) aNil))) E = .ok (.nx, PE6 cs (pl + 1) 0 many (.imm (ni R)) (.imm (ni pl)) (.imm (.int c)) .un) :=
    set_at (bin_ok (bin_ok (v := .imm (ni 2)) rfl (bin_ok ab pw S) S2) (blt_ok (bin_ok (v := .imm (.int c)) (w := .imm (ni 0)) rfl rfl (i_lt0 c)) (b_int (decide (c < 0)))) AD) rfl rfl
  have b3 : sPut 0 (dC (.int 2)) (dBin opFDiv (dVar 2) (dVar 1)) (PE6 cs (pl + 1) 0 many (.imm (ni R)) (.imm (ni pl)) (.imm (.int c)) .un) = .ok (.nx, PE6 cs (pl + 1) (R / many) many (.imm (ni R)) (.imm (ni pl)) (.imm (.int c)) .un) := pen_put2 (bin_ok (v := .imm (ni R)) (w := .imm (ni many)) rfl rfl d)
  have b4 : sRet (dBin opMod (dVar 2) (dVar 1)) (PE6 cs (pl + 1) (R / many) many (.imm (ni R)) (.imm (ni pl)) (.imm (.int c)) .un) = .ok (.rt (.imm (ni (R % many))), PE6 cs (pl + 1) (R / many) many (.imm (ni R)) (.imm (ni pl)) (.imm (.int c)) .un) := ret_ok (bin_ok (v := .imm (ni R)) (w := .imm (ni many)) rfl rfl m)
  have all : drawB p1 c1 c2 p2 c3 p3 (PE6 cs pl 0 many .un .un .un .un) = .ok (.rt (.imm (ni (R % many))), PE6 cs (pl + 1) (R / many) many (.imm (ni R)) (.imm (ni pl)) (.imm (.int c)) .un) := by
    unfold drawB
    refine draw_cell hc hl X ?_
    have i := if_yes (f := sSeq (sSet 2 (dBin opAdd (dBin opMul (dC (.int 2)) (dBin opSub (dCallB bAbs (aCons (dVar 4) aNil)) (dBin opPow (dC (.int 10)) (dC (.int 18))))) (dCallB bInt (aCons (dBin opLt (dVar 4) (dC (.int 0))) aNil)))) (sSeq (sPut 0 (dC (.int 2)) (dBin opFDiv (dVar 2) (dVar 1))) (sRet (dBin opMod (dVar 2) (dVar 1))))) (h := sNext) t
    rw [seq_nx b2, seq_nx b3, b4] at i
    unfold sSeq at i ⊢
    rw [i]
    rfl
  unfold runF
  rw [show env0 true 6 [PenD cs pl 0, ni many] = PE6 cs pl 0 many .un .un .un .un from rfl, all]
  rfl
theorem draw_mix (h1 : 0 < p1 ∧ p1 < 2 ^ 32) (g1 : c1 < 2 ^ 20) (g2 : c2 < 2 ^ 20) (h2 : 0 < p2 ∧ p2 < 2 ^ 32) (g3 : c3 < 2 ^ 20) (h3 : 0 < p3 ∧ p3 < 2 ^ 32) (hm : 0 < many) (hpl : pl < 2 ^ 10) {c : Int} (hc : cs.isEmpty = false) (hl : 0 < cs.length) (X : opIx (.lst (cs.map .int)) (ni (pl % cs.length)) = .ok (.imm (.int c)))
    (hb : ¬ (pl < cs.length ∧ 10 ^ 18 ≤ c.natAbs)) : ∃ r, r < many ∧ runF true 6 (drawB p1 c1 c2 p2 c3 p3) [PenD cs pl 0, ni many] = .ok (.imm (ni r), some (PenD cs (pl + 1) 0)) := by
  have P10 := ni_pow (a := 10) (b := 18) (by decide) (by decide)
  have x1 := i_mod_lt c h1.1
  have bnd : c1 * pl < 2 ^ 30 := by
    have := Nat.mul_lt_mul_of_lt_of_lt g1 hpl
    rw [← Nat.pow_add] at this
    exact this
  have m1 := ni_mulL (a := c1) (b := pl) (by omega)
  have e1 := i_mod c h1.1
  generalize (c % p1).toNat = x at x1 e1
  have w1 := ni_pow (a := x + c1 * pl + c2) (b := 5) (by decide) (by omega)
  have e2 := ni_mod (a := (x + c1 * pl + c2) ^ 5) h2.1
  have x2 := Nat.mod_lt ((x + c1 * pl + c2) ^ 5) h2.1
  generalize hy : (x + c1 * pl + c2) ^ 5 % p2 = y at e2 x2
  have m2 := ni_mulL (a := 2) (b := pl) (by decide)
  have m3 := ni_mulL (a := y) (b := 2 * pl + c3) (by omega)
  have b4 : c1 * pl * pl < 2 ^ 40 := by
    have := Nat.mul_lt_mul_of_lt_of_lt bnd hpl
    rw [← Nat.pow_add] at this
    exact this
  have m4 := ni_mulL (a := c1 * pl) (b := pl) (by omega)
  have b5 : y * (2 * pl + c3) < 2 ^ 53 := by
    have := Nat.mul_lt_mul_of_lt_of_lt (a := y) (c := 2 ^ 32) (b := 2 * pl + c3) (d := 2 ^ 21) (by omega) (by omega)
    rw [← Nat.pow_add] at this
    exact this
  have w2 := ni_pow (a := y * (2 * pl + c3) + c1 * pl * pl + c2) (b := 3) (by decide) (by omega)
  have e3 := ni_mod (a := (y * (2 * pl + c3) + c1 * pl * pl + c2) ^ 3) h3.1
  generalize hz : (y * (2 * pl + c3) + c1 * pl * pl + c2) ^ 3 % p3 = z at e3
  have d64 := ni_fdivy (a := z) (b := 64) (by decide) (by decide)
  refine ⟨z / 64 % many, Nat.mod_lt _ hm, ?_⟩
  have mm := ni_mod (a := z / 64) hm
  have l1 := ni_lt pl cs.length
  have l2 := ni_ge c.natAbs (10 ^ 18)
  let E := PE6 cs (pl + 1) 0 many (.imm (ni 0)) (.imm (ni pl)) (.imm (.int c)) .un
  have pw : dBin opPow (dC (.int 10)) (dC (.int 18)) E = .ok (.imm (ni (10 ^ 18)), E) := bin_ok (v := .imm (ni 10)) (w := .imm (ni 18)) rfl rfl P10
  have ab : dCallB bAbs (aCons (dVar 4) aNil) E = .ok (.imm (ni c.natAbs), E) := blt_ok (v := .imm (.int c)) rfl (i_abs c)
  have ln : dCallB bLen (aCons (dIxS 0 (dC (.int 0))) aNil) E = .ok (.imm (ni cs.length), E) := blt_ok pen_ix0 (by
    show bLen [.lst (cs.map .int)] = _
    rw [bLen_l, List.length_map])
  have t : tAndD (dTest (dBin opLt (dVar 3) (dCallB bLen (aCons (dIxS 0 (dC (.int 0))) aNil)))) (dTest (dBin opGe (dCallB bAbs (aCons (dVar 4) aNil)) (dBin opPow (dC (.int 10)) (dC (.int 18))))) E = .ok (false, E) := by
    by_cases q1 : pl < cs.length
    · have q2 : ¬ 10 ^ 18 ≤ c.natAbs := fun h => hb ⟨q1, h⟩
      rw [decide_eq_true q1] at l1
      rw [decide_eq_false q2] at l2
      rw [and_yes (test_ok (bin_ok (v := .imm (ni pl)) rfl ln l1))]
      exact test_ok (bin_ok ab pw l2)
    · rw [decide_eq_false q1] at l1
      exact and_no (test_ok (bin_ok (v := .imm (ni pl)) rfl ln l1))
  have b5 : sSet 5 (dBin opMod (dCallB bInt (aCons (dBin opPow (dBin opAdd (dBin opAdd (dBin opMod (dCallB bInt (aCons (dVar 4) aNil)) (dC (.int p1))) (dBin opMul (dC (.int c1)) (dVar 3))) (dC (.int c2))) (dC (.int 5))) aNil)) (dC (.int p2))) E = .ok (.nx, PE6 cs (pl + 1) 0 many (.imm (ni 0)) (.imm (ni pl)) (.imm (.int c)) (.imm (ni y))) :=
    set_at (bin_ok (w := .imm (ni p2)) (blt_ok (bin_ok (w := .imm (ni 5)) (bin_ok (w := .imm (ni c2)) (bin_ok (bin_ok (w := .imm (ni p1)) (blt_ok (v := .imm (.int c)) rfl (i_int c)) rfl e1) (bin_ok (v := .imm (ni c1)) (w := .imm (ni pl)) rfl rfl m1) (ni_add _ _)) rfl (ni_add _ _)) rfl w1) (ni_int _)) rfl e2) rfl rfl
  have b6 : sSet 5 (dBin opMod (dCallB bInt (aCons (dBin opPow (dBin opAdd (dBin opAdd (dBin opMul (dVar 5) (dBin opAdd (dBin opMul (dC (.int 2)) (dVar 3)) (dC (.int c3)))) (dBin opMul (dBin opMul (dC (.int c1)) (dVar 3)) (dVar 3))) (dC (.int c2))) (dC (.int 3))) aNil)) (dC (.int p3))) (PE6 cs (pl + 1) 0 many (.imm (ni 0)) (.imm (ni pl)) (.imm (.int c)) (.imm (ni y))) = .ok (.nx, PE6 cs (pl + 1) 0 many (.imm (ni 0)) (.imm (ni pl)) (.imm (.int c)) (.imm (ni z))) :=
    set_at (bin_ok (w := .imm (ni p3)) (blt_ok (bin_ok (w := .imm (ni 3)) (bin_ok (w := .imm (ni c2)) (bin_ok (bin_ok (v := .imm (ni y)) rfl (bin_ok (w := .imm (ni c3)) (bin_ok (v := .imm (ni 2)) (w := .imm (ni pl)) rfl rfl m2) rfl (ni_add _ _)) m3) (bin_ok (w := .imm (ni pl)) (bin_ok (v := .imm (ni c1)) (w := .imm (ni pl)) rfl rfl m1) rfl m4) (ni_add _ _)) rfl (ni_add _ _)) rfl w2) (ni_int _)) rfl e3) rfl rfl
  have b7 : sRet (dBin opMod (dCallB bInt (aCons (dBin opFDiv (dVar 5) (dC (.int 64))) aNil)) (dVar 1)) (PE6 cs (pl + 1) 0 many (.imm (ni 0)) (.imm (ni pl)) (.imm (.int c)) (.imm (ni z))) = .ok (.rt (.imm (ni (z / 64 % many))), PE6 cs (pl + 1) 0 many (.imm (ni 0)) (.imm (ni pl)) (.imm (.int c)) (.imm (ni z))) :=
    ret_ok (bin_ok (w := .imm (ni many)) (blt_ok (bin_ok (v := .imm (ni z)) (w := .imm (ni 64)) rfl rfl d64) (ni_int _)) rfl mm)
  have all : drawB p1 c1 c2 p2 c3 p3 (PE6 cs pl 0 many .un .un .un .un) = .ok (.rt (.imm (ni (z / 64 % many))), PE6 cs (pl + 1) 0 many (.imm (ni 0)) (.imm (ni pl)) (.imm (.int c)) (.imm (ni z))) := by
    unfold drawB
    refine draw_cell hc hl X ?_
    rw [seq_nx (if_no t), seq_nx b5, seq_nx b6]
    exact b7
  unfold runF
  rw [show env0 true 6 [PenD cs pl 0, ni many] = PE6 cs pl 0 many .un .un .un .un from rfl, all]
  rfl
theorem draw_ok (h1 : 0 < p1 ∧ p1 < 2 ^ 32) (g1 : c1 < 2 ^ 20) (g2 : c2 < 2 ^ 20) (h2 : 0 < p2 ∧ p2 < 2 ^ 32) (g3 : c3 < 2 ^ 20) (h3 : 0 < p3 ∧ p3 < 2 ^ 32) {cs : List Int} {pl rest many : Nat} (hm : 0 < many) (hm2 : many < 2 ^ 64) (hpl : pl < 2 ^ 10) :
    ∃ r pl' rest', r < many ∧ pl' ≤ pl + 1 ∧ runF true 6 (drawB p1 c1 c2 p2 c3 p3) [PenD cs pl rest, ni many] = .ok (.imm (ni r), some (PenD cs pl' rest')) := by
  by_cases hr : 0 < rest
  · exact ⟨_, _, _, Nat.mod_lt _ hm, Nat.le_succ _, draw_rest hm hm2 hr⟩
  · obtain rfl : rest = 0 := by omega
    by_cases hc : cs = []
    · subst hc
      exact ⟨0, pl, 0, hm, Nat.le_succ _, draw_none⟩
    · have hl : 0 < cs.length := List.length_pos_iff.mpr hc
      have hne : cs.isEmpty = false := by simpa using hc
      have hix : pl % cs.length < cs.length := Nat.mod_lt _ hl
      have X := ix_l (ds := cs.map .int) (k := pl % cs.length) (d := .int cs[pl % cs.length]) (by simp [hix])
      by_cases hbig : pl < cs.length ∧ 10 ^ 18 ≤ (cs[pl % cs.length]).natAbs
      · exact ⟨_, _, _, Nat.mod_lt _ hm, Nat.le_refl _, draw_big hm hm2 hne hl X hbig.1 hbig.2⟩
      · obtain ⟨r, hr, e⟩ := draw_mix h1 g1 g2 h2 g3 h3 hm hpl hne hl X hbig
        exact ⟨r, _, _, hr, Nat.le_refl _, e⟩
end
end G


set_option maxRecDepth 100000
set_option maxHeartbeats 4000000
/-! Kern25: a lambda, with no parameter or one that has a default, is made and called by the def that it is handed to. -/
namespace G
open PySem PySem.Spec PyProof.Rows L2
variable [TabT]

/-- the lambda's object -/
abbrev LamO (X : Cx) (ps : Arguments) (e : Expr) (sc : Scope) (dV doc pm : Value) (c' : Addr) (ctv : Value) : Obj :=
  PySem.W.kdv_obj "<lambda>" (X.env.qual ++ "<lambda>") ps (.expr e) sc (cloFrom X.env.cells sc.names []) dV doc pm c' ctv
/-- its defaults: none, or a tuple that nobody writes -/
def DflAt (X : Cx) (H : Hp) (h : Heap) (dV : Value) (dv : List Value) : Prop := (dV = .none ∧ dv = []) ∨ ∃ t u, dV = .ref t ∧ dv = [u] ∧ h.get? t = some (PySem.W.kdv_tup dv) ∧ H t = none ∧ t ∉ frs X.stack
/-- what the making gives -/
def Made (X : Cx) (pins : List (Addr × Obj)) (σ : L2.St) (H : Hp) (ps : Arguments) (e : Expr) (sc : Scope) (dv : List Value) (f : Addr) (s' : Shared) : Prop :=
  ∃ (c' : Addr) (dV doc pm ctv : Value) (H1 : Hp), Inv X pins σ H1 s' ∧ LamX.ExtN H H1 ∧ LamX.Tabs TabT.T H1 ∧ s'.heap.get? f = some (LamO X ps e sc dV doc pm c' ctv) ∧ H1 f = none ∧ f ∉ frs X.stack ∧
    H1 c' = some (LamX.CodeO c' (X.env.qual ++ "<lambda>")) ∧ DflAt X H1 s'.heap dV dv
section
variable {X : Cx} {pins : List (Addr × Obj)} {σ : L2.St} {H : Hp} {s : Shared}
theorem new_frs (I : Inv X pins σ H s) {f : Addr} (hf : s.heap.objs.size ≤ f) : f ∉ frs X.stack := fun z => by
  rcases List.mem_cons.mp (I.stkSub _ z) with e | e
  · have lt := I.lt
    rw [← e] at lt
    exact Nat.lt_irrefl _ (Nat.lt_of_lt_of_le lt hf)
  · exact I.nofs hf e
/-- the function object, its defaults laid before -/
theorem lam_tail {c P : Addr} {ps : Arguments} {e : Expr} {sc : Scope} {pos : Pos} {E Q : Value → Shared → Prop} {dV : Value} {dv : List Value} (I : Inv X pins σ H s) (TB : LamX.TabB X.base X.mg c P) (hcode : X.env.code = .ref c)
    (hm : (P, X.env.qual ++ "<lambda>") ∈ TabT.T) (hu : ∀ p ∈ TabT.T, p.1 = P → p.2 = X.env.qual ++ "<lambda>") (hT : LamX.Tabs TabT.T H) (hfree : ∀ y ∈ sc.names, y.2 = .free → ∃ c, X.env.cells.lookup y.1 = some c)
    (hd : DflAt X H s.heap dV dv) (h : ∀ f s', Made X pins σ H ps e sc dv f s' → Q (.ref f) s') :
    wpAny (model X.prog X.w) X.A (makeTail "<lambda>" (X.env.qual ++ "<lambda>") ps (.expr e) sc X.env dV .none none pos pos.line) Q E s := by
  obtain ⟨tb, hP, ht, ha⟩ := hT _ hm
  have bP : s.heap.BuiltinsAt X.mg P := TB.bm.keeps I.bk
  have oP : s.heap.get? P = some { cls := .none, data := .fields tb } := I.hok P _ hP
  cases hc : codeAmong pos tb.toList with
  | none =>
    refine PySem.W.kdv_makeTail (mg := X.mg) (c := c) (P := P) (ps := tb) (closure_ok hfree) I.ok.glob (I.mod.glob.keeps I.bk) hcode (TB.code.keeps I.bk) oP ht hc TB.gP bP fun c' ctv doc h' tk ext ge lt rec tab => ?_
    obtain ⟨c2, oc, vs, t, ec, g1, g2, g3⟩ := rec
    cases ec
    have big : s.heap.objs.size ≤ h'.objs.size := Nat.le_trans ge (Nat.le_of_lt lt)
    have nc : H c' = none := I.hok.fresh ge
    let F : Obj := LamO X ps e sc dV doc ((X.mg "__name__").getD .none) c' ctv
    have I1 := LamX.inv_table (t' := tk) (more := #[rawInt pos.line, rawInt pos.col, .ref c']) (h' := h'.push F) I hP (fun b o nb eo => Heap.get?_push_of_some _ (ext b o nb eo)) (Heap.get?_push_of_some _ tab) ge ⟨oc, vs, t, Heap.get?_push_of_some _ g1, g2, g3⟩
    have hE : LamX.ExtN H (upd (upd H P (.tbl (tb ++ #[rawInt pos.line, rawInt pos.col, .ref c']))) c' (LamX.CodeO c' (X.env.qual ++ "<lambda>"))) := fun b o eo no => by
      have b1 : b ≠ c' := ne_of_none eo nc
      have b2 : b ≠ P := fun z => no tb (Option.some.inj (eo.symm.trans (by rw [z]; exact hP)))
      rw [upd_ne b1, upd_ne b2]
      exact eo
    have lst : (tb ++ #[rawInt pos.line, rawInt pos.col, .ref c']).toList = tb.toList ++ [rawInt pos.line, rawInt pos.col, .ref c'] := by simp
    refine h h'.objs.size _ ⟨c', dV, doc, (X.mg "__name__").getD .none, ctv, _, I1, hE, fun p hp => ?_, Heap.get?_push_size _ rfl, ?_, new_frs I big, upd_same, ?_⟩
    · by_cases hb : p.1 = P
      · rw [hu p hp hb, hb]
        refine ⟨_, by rw [upd_ne (ne_of_none hP nc), upd_same], by rw [lst]; exact PySem.TriplesOk_snoc _ _ _ _ ht, fun p' cv hcv => ?_⟩
        rw [lst] at hcv
        rcases LamX.among_app _ ht hcv with z | z
        · obtain ⟨c0, k1, k2⟩ := ha p' cv z
          exact ⟨c0, k1, hE _ _ k2 LamX.codeO_ne⟩
        · exact ⟨c', z, upd_same⟩
      · obtain ⟨tb2, k1, k2, k3⟩ := hT p hp
        refine ⟨tb2, by rw [upd_ne (ne_of_none k1 nc), upd_ne hb]; exact k1, k2, fun p' cv hcv => ?_⟩
        obtain ⟨c0, m1, m2⟩ := k3 p' cv hcv
        exact ⟨c0, m1, hE _ _ m2 LamX.codeO_ne⟩
    · have n1 : h'.objs.size ≠ c' := Nat.ne_of_gt lt
      have n2 : h'.objs.size ≠ P := Nat.ne_of_gt (Nat.lt_of_lt_of_le (Heap.lt_size oP) big)
      rw [upd_ne n1, upd_ne n2]
      exact I.hok.fresh big
    · rcases hd with hd | ⟨t1, u1, k1, k2, k3, k4, k5⟩
      · exact .inl hd
      · have n1 : t1 ≠ c' := fun z => Nat.lt_irrefl _ (Nat.lt_of_lt_of_le (Heap.lt_size (by rw [← z]; exact k3)) ge)
        have n2 : t1 ≠ P := fun z => by
          rw [z, hP] at k4
          cases k4
        exact .inr ⟨t1, u1, k1, k2, Heap.get?_push_of_some _ (ext _ _ n2 k3), by rw [upd_ne n1, upd_ne n2]; exact k4, k5⟩
  | some cv =>
    obtain ⟨c', ec, hco⟩ := ha pos cv hc
    subst ec
    refine PySem.W.kdv_makeTailHit (mg := X.mg) (c := c) (P := P) (ps := tb) (closure_ok hfree) I.ok.glob (I.mod.glob.keeps I.bk) hcode (TB.code.keeps I.bk) oP ht hc bP fun ctv doc h' tk ext big => ?_
    let F : Obj := LamO X ps e sc dV doc ((X.mg "__name__").getD .none) c' ctv
    have I1 : Inv X pins σ H { s with heap := h'.push F, toks := tk } := I.kept fun b o eo => Heap.get?_push_of_some _ (ext b o eo)
    refine h h'.objs.size _ ⟨c', dV, doc, (X.mg "__name__").getD .none, ctv, H, I1, LamX.ExtN.refl H, hT, Heap.get?_push_size _ rfl, I.hok.fresh big, new_frs I big, hco, ?_⟩
    rcases hd with hd | ⟨t1, u1, k1, k2, k3, k4, k5⟩
    · exact .inl hd
    · exact .inr ⟨t1, u1, k1, k2, Heap.get?_push_of_some _ (ext _ _ k3), k4, k5⟩
theorem DflAt.none {H' : Hp} {h : Heap} : DflAt X H' h .none [] := .inl ⟨rfl, rfl⟩
/-- the defaults of a lambda: none, or one that is plain -/
def Plain (X : Cx) (ps : Arguments) : Prop := ps.kw_defaults = [] ∧ (ps.defaults = [] ∨ ∃ e v, ps.defaults = [e] ∧ PE X e (tC v))
theorem lam_made {c P : Addr} {ps : Arguments} {e : Expr} {sc : Scope} {pos : Pos} {E Q : Value → Shared → Prop} (I : Inv X pins σ H s) (TB : LamX.TabB X.base X.mg c P) (hcode : X.env.code = .ref c)
    (hm : (P, X.env.qual ++ "<lambda>") ∈ TabT.T) (hu : ∀ p ∈ TabT.T, p.1 = P → p.2 = X.env.qual ++ "<lambda>") (hT : LamX.Tabs TabT.T H) (hfree : ∀ y ∈ sc.names, y.2 = .free → ∃ c, X.env.cells.lookup y.1 = some c)
    (hps : Plain X ps) (hE : ∀ u s', X.xe u s' → E u s') (h : ∀ f s' dv, dv.length = ps.defaults.length → Made X pins σ H ps e sc dv f s' → Q (.ref f) s') :
    wpAny (model X.prog X.w) X.A (eval (.Lambda ps e sc pos) X.env) Q E s := by
  obtain ⟨hk, hd⟩ := hps
  rw [arm_eval_Lambda, defaultsOf_eq, hk]
  show wpAny _ _ (do let dv ← evalAll (evalEach ps.defaults X.env); let kdv ← holding dv (evalAllOpt []); makeFunction "<lambda>" (X.env.qual ++ "<lambda>") ps (.expr e) sc X.env dv kdv [] pos pos.line) _ _ _
  rcases hd with hd | ⟨ed, v, hd, pe⟩
  · rw [hd]
    refine wpAny_bind (evalAll_nil (wpAny_bind (wpAny_holding (wpAny_pure ?_))))
    rw [makeFunction_eq]
    simp only [List.zip_nil_right, List.filterMap_nil, List.isEmpty_nil, if_true, pure_bind]
    exact lam_tail I TB hcode hm hu hT hfree .none fun f s' m => h f s' [] (by rw [hd]; rfl) m
  · rw [hd]
    refine wpAny_bind (evalAll_cons (wpAny_mono (pe.run pins s σ H (fun v' H' => v' = v ∧ H' = H) I ⟨rfl, rfl⟩) (fun u s1 hq => ?_) fun u s1 hx => hE u s1 hx))
    obtain ⟨v', H', I1, r1, ev, eH⟩ := hq
    subst ev
    rw [eH] at I1
    refine evalAll_nil (wpAny_bind (wpAny_holding (wpAny_pure ?_)))
    rw [makeFunction_eq]
    simp only [List.zip_nil_right, List.filterMap_nil, List.isEmpty_nil, if_true, pure_bind, List.isEmpty_cons, Bool.false_eq_true, if_false]
    refine wpAny_bind (wpAny_newTextTuple ?_)
    have I2 : Inv X pins σ H { s1 with heap := s1.heap.push (PySem.W.kdv_tup [u]), toks := s1.toks } := I1.kept fun b o eo => Heap.get?_push_of_some _ eo
    exact lam_tail I2 TB hcode hm hu hT hfree (.inr ⟨s1.heap.objs.size, u, rfl, rfl, Heap.get?_push_size _ rfl, I1.hok.fresh (Nat.le_refl _), new_frs I1 (Nat.le_refl _)⟩) fun f s' m => h f s' [u] (by rw [hd]; rfl) m
end
end G


set_option maxRecDepth 100000
set_option maxHeartbeats 4000000
/-! Kern26: the lambda's body runs over the slots of its maker. -/
namespace G
open PySem PySem.Spec PyProof.Rows L2
variable [TabT]

/-- the names of a lambda: captured ones, globals, parameters that its maker does not know -/
structure LamD (sc sl : Scope) (N : List Str) : Prop where
  kind : sl.kind = .function
  co : sl.isCoroutine = false
  gen : sl.isGenerator = false
  cell : ∀ y ∈ sl.names, y.2 ≠ .cell
  own : ∀ y ∈ sl.names, y.2 = .local → y.1 ∉ N
  free : ∀ y ∈ sl.names, y.2 = .free → sc.names.lookup y.1 = some .cell ∨ sc.names.lookup y.1 = some .free
def lamDB (sc sl : Scope) (N : List Str) : Bool :=
  decide (sl.kind = .function) && !sl.isCoroutine && !sl.isGenerator && sl.names.all fun y => !decide (y.2 = .cell) && (!decide (y.2 = .local) || !N.contains y.1) && (!decide (y.2 = .free) || decide (sc.names.lookup y.1 = some .cell) || decide (sc.names.lookup y.1 = some .free))
theorem lamD_of {sc sl : Scope} {N : List Str} (h : lamDB sc sl N = true) : LamD sc sl N := by
  unfold lamDB at h
  simp only [Bool.and_eq_true, Bool.or_eq_true, Bool.not_eq_true', decide_eq_true_eq, decide_eq_false_iff_not, List.all_eq_true] at h
  obtain ⟨⟨⟨a1, a2⟩, a3⟩, a4⟩ := h
  refine ⟨a1, a2, a3, fun y hy => (a4 y hy).1.1, fun y hy e hm => ?_, fun y hy e => ?_⟩
  · rcases (a4 y hy).1.2 with z | z
    · exact z e
    · rw [List.contains_iff_mem.mpr hm] at z
      cases z
  · rcases (a4 y hy).2 with (z | z) | z
    · exact absurd e z
    · exact .inl z
    · exact .inr z
/-- how the lambda's parameters are bound when it is called with nothing -/
def BindL (ps : Arguments) (e : Expr) (sl : Scope) : Prop := ∀ (q : Str) (cl : List (Str × Addr)) (dV doc pm cv ctv : Value) (dv : List Value) (s : Shared), dv.length = ps.defaults.length →
  ((dV = .none ∧ dv = []) ∨ ∃ t u, dV = .ref t ∧ dv = [u] ∧ s.heap.get? t = some (PySem.W.kdv_tup dv)) →
  ∃ bn : List (Str × Value), (∀ y ∈ bn, sl.names.lookup y.1 = some .local) ∧ BindsTo s (PySem.W.kdv_fn "<lambda>" q ps (.expr e) sl cl dV doc pm cv ctv) ⟨[], []⟩ bn
theorem bindL_none {ps : Arguments} {e : Expr} {sl : Scope} (hd : ps.defaults = []) (h : ∀ (q : Str) (cl : List (Str × Addr)) (doc pm cv ctv : Value), bindArgs (PySem.W.kdv_fn "<lambda>" q ps (.expr e) sl cl .none doc pm cv ctv) ⟨[], []⟩ = pure []) : BindL ps e sl :=
  fun q cl dV doc pm cv ctv dv s hl hv => by
    rcases hv with ⟨rfl, rfl⟩ | ⟨t, u, _, rfl, _⟩
    · exact ⟨[], (fun y hy => nomatch hy), .of_eq (h q cl doc pm cv ctv)⟩
    · rw [hd] at hl
      cases hl
theorem bindL_one {ps : Arguments} {e : Expr} {sl : Scope} {x : Str} {ed : Expr} (hd : ps.defaults = [ed]) (hx : sl.names.lookup x = some .local)
    (h1 : ∀ (q : Str) (cl : List (Str × Addr)) (t : Addr) (doc pm cv ctv u : Value), ∃ k : Option (Array Value) → Sem (List (Str × Value)), bindArgs (PySem.W.kdv_fn "<lambda>" q ps (.expr e) sl cl (.ref t) doc pm cv ctv) ⟨[], []⟩ = seqItems? (.ref t) >>= k ∧ k (some #[u]) = pure [(x, u)]) : BindL ps e sl :=
  fun q cl dV doc pm cv ctv dv s hl hv => by
    rcases hv with ⟨rfl, rfl⟩ | ⟨t, u, rfl, rfl, ht⟩
    · rw [hd] at hl
      cases hl
    · obtain ⟨k, k1, k2⟩ := h1 q cl t doc pm cv ctv u
      exact ⟨[(x, u)], fun y hy => by rw [List.mem_singleton.mp hy]; exact hx, .of_defaults rfl ht rfl k1 k2⟩
section
variable {X : Cx} {pins : List (Addr × Obj)} {σ : L2.St} {H HZ : Hp} {s s1 : Shared}
theorem LamD.has {sl : Scope} (L : LamD X.env.scope sl X.N) (ok : X.Ok) : ∀ y ∈ sl.names, y.2 = .free → ∃ c, X.env.cells.lookup y.1 = some c := fun y hy e => ok.has _ (L.free y hy e)
/-- the body's start -/
theorem lam_enter {A : Around} {outer : List Env} {E : XK} {sl : Scope} {f c' : Addr} {h1 : Heap} {tk : Nat} {bn : List (Str × Value)} (I : Inv X pins σ H s) (L : LamD X.env.scope sl X.N) (e0 : Env0 X.prog X.w X.K X.mg X.base A outer s1 HZ) (hd : A.handled = none)
    (un : Un (frs X.stack) [] H HZ s.heap s1.heap) (hns : h1.Ns s1.heap.objs.size fun y => bn.reverse.lookup y) (kp : ∀ b o, s1.heap.get? b = some o → h1.get? b = some o) :
    Inv (LamX.lamCx X A outer s1 HZ E sl f c') [] σ HZ { s1 with heap := h1, toks := tk } := by
  have fr := L.has I.ok
  have back : ∀ {y c}, (cloFrom X.env.cells sl.names []).lookup y = some c → X.env.cells.lookup y = some c := fun {y c} e => by
    rcases cloFrom_mem (PySem.mem_of_lookup e) with hm | ⟨g1, g2⟩
    · exact nomatch hm
    · obtain ⟨c1, k⟩ := fr _ g1 rfl
      have k : X.env.cells.lookup y = some c1 := k
      have e2 : c = c1 := by
        rw [g2, k] <;> rfl
      exact e2 ▸ k
  have seen : ∀ {y}, sl.names.lookup y = some .free → ∃ c, (cloFrom X.env.cells sl.names []).lookup y = some c := fun {y} hl =>
    mem_lookup (cloFrom_has (cells := X.env.cells) (acc := []) (show (y, NameKind.free) ∈ sl.names from PySem.mem_of_lookup hl))
  have kept : ∀ {c : Addr} {v : Option Value}, H c = none → s.heap.IsCell c v → h1.IsCell c v := fun {c v} n ⟨o, ho, hdt⟩ => by
    obtain ⟨sl', q⟩ := un.any ho n (by simp)
    exact ⟨_, kp _ _ q, hdt⟩
  have no : ∀ b : Addr, b ∉ (LamX.lamCx X A outer s1 HZ E sl f c').ex := fun b z => nomatch (show b ∈ ([] : List Addr) from z)
  constructor
  · refine ⟨e0.mod, L.kind, rfl, rfl, Nat.le_refl _, fun y z c e1 e2 => I.ok.inj y z c (back e1) (back e2), fun y hy => ?_, fun y c z _ => ?_, fun _ => hd, Around.frames_deeper e0.frames, .inr ⟨rfl, rfl⟩, fun b z => absurd z (no b), e0.bs, e0.bsz, fun b _ _ => no b, fun b z => absurd z (no b), e0.funs, e0.frf⟩
    · have hy : sl.names.lookup y = some .cell ∨ sl.names.lookup y = some .free := hy
      rcases hy with hy | hy
      · exact absurd rfl (L.cell _ (PySem.mem_of_lookup hy))
      · exact seen hy
    · exact nomatch (show false = true from z)
  · rfl
  · exact e0.bare
  · exact Un.kept kp
  · refine ⟨_, hns, fun i y v e1 e2 e3 => ?_⟩
    have e3 : Vis sl y := e3
    rcases e3 with k | k | k
    · exact absurd (List.mem_of_getElem? (show X.N[i]? = some y from e1)) (L.own _ (PySem.mem_of_lookup k) rfl)
    · exact absurd rfl (L.cell _ (PySem.mem_of_lookup k))
    · obtain ⟨m, hn, hl⟩ := I.loc
      have vis : Vis X.env.scope y := (L.free _ (PySem.mem_of_lookup k) rfl).elim (fun k => .inr (.inl k)) (fun k => .inr (.inr k))
      obtain ⟨u, r, q⟩ := hl i y v e1 e2 vis
      obtain ⟨c2, h2⟩ := seen k
      refine ⟨u, r, .inr ⟨.inr k, c2, h2, ?_⟩⟩
      have c1 := back h2
      rcases q with ⟨k1, _⟩ | ⟨_, c3, e4, z⟩
      · have k1 : X.env.scope.names.lookup y = some .local := k1
        rcases L.free _ (PySem.mem_of_lookup k) rfl with k2 | k2 <;> (rw [show X.env.scope.names.lookup y = _ from k2] at k1; cases k1)
      · rw [c1] at e4
        cases e4
        exact kept (I.freeC y _ c1) z
  · intro y c e
    obtain ⟨u, z⟩ := I.cell y c (back e)
    exact ⟨u, kept (I.freeC y c (back e)) z⟩
  · exact e0.hok.fresh (Nat.le_refl _)
  · intro y c e
    obtain ⟨v, o, ho, _⟩ := I.cell y c (back e)
    exact un.free c o ho (I.freeC y c (back e)) (by simp)
  · exact fun q hq => nomatch (show q ∈ ([] : List (Addr × Obj)) ++ [] from hq)
  · exact e0.hok.kept kp
  · exact I.len
/-- a(), in the def that got the lambda -/
theorem lam_call {CXg : CXT} {Eg : XK} {Ng : List Str} {qg : Str} {sg : Scope} {g f c' : Addr} {cdg dV doc pm ctv : Value} {dv : List Value} {ps : Arguments} {body : Expr} {sl : Scope} {k i : Nat} {a : Str} {pn : List (Addr × Obj)} {xe : Value → Shared → Prop} {W : WX} {E : XK} {tb : TE} {p1 p2 : Pos}
    (I : Inv X pins σ H s) (L : LamD X.env.scope sl X.N) (hf : s.heap.get? f = some (LamO X ps body sl dV doc pm c' ctv)) (hfn : H f = none) (hfr : f ∉ frs X.stack) (hdv : DflAt X H s.heap dV dv) (hlen : dv.length = ps.defaults.length) (hb : BindL ps body sl)
    (tk : Takes ((cxOf CXg X.prog X.w X.K X.mg X.base Ng qg sg g cdg X.A X.stack s H Eg).tr pn xe) W) (hW : ∀ cls d σ' H', σ'.length = Ng.length → E cls d H' → W cls d σ' H') (hr : Room (k + 1) (X.A.deeper (envOfC qg sg s.heap.objs.size g cdg)))
    (run : ∀ (A : Around) (outer : List Env) (s : Shared) (H : Hp), A.guards = X.A.guards → Room k (A.deeper (LamX.lamEnv X sl s.heap.objs.size f c')) → PE (LamX.lamCx X A outer s H E sl f c') body tb)
    (hN : Ng[i]? = some a) (hv : Vis sg a) (hd : (a == ("__debug__" : Str)) = false := by decide) (hcd : (a == ("__classdict__" : Str)) = false := by decide) :
    PE ((cxOf CXg X.prog X.w X.K X.mg X.base Ng qg sg g cdg X.A X.stack s H Eg).tr pn xe) (.Call (.Name a p1) [] [] p2)
      (fun σZ HZ Q => σZ[i]? = some (some (.ref f)) ∧ HZ c' = some (LamX.CodeO c' (X.env.qual ++ "<lambda>")) ∧ tb σ HZ Q) := by
  refine ⟨fun pinsZ sZ σZ HZ Q IZ hyp => ?_⟩
  obtain ⟨hs, hc, ht⟩ := hyp
  refine wpAny_Call_Name_kw (thn ((pe_var (pos := p1) (i := i) hN hv hd hcd).run pinsZ sZ σZ HZ (fun v H1 => v = .ref f ∧ H1 = HZ) IZ ⟨.ref f, hs, rfl, rfl⟩) fun u s1 ⟨v, H1, I1, r1, q1⟩ => ?_)
  obtain ⟨ev, eH⟩ := q1
  subst ev
  rw [eH] at I1
  obtain rfl : u = Value.ref f := r1
  have stay : ∀ {b : Addr} {o : Obj}, s.heap.get? b = some o → H b = none → b ∉ frs X.stack → s1.heap.get? b = some o := fun {b o} e n nf => I1.base.keep b o e n nf (fun z => nomatch (show b ∈ ([] : List Addr) from z))
  have hf1 := stay hf hfn hfr
  refine PySem.W.callWith_F0 ⟨_, _, _, _, hf1⟩ ?_
  have un : Un (frs X.stack) [] H HZ s.heap s1.heap := I1.base
  obtain ⟨⟨oc, vs, t, c1, c2, c3⟩, _, _⟩ := I1.hok c' _ hc
  have dv1 : (dV = .none ∧ dv = []) ∨ ∃ t u, dV = .ref t ∧ dv = [u] ∧ s1.heap.get? t = some (PySem.W.kdv_tup dv) := by
    rcases hdv with z | ⟨t, u, k1, k2, k3, k4, k5⟩
    · exact .inl z
    · exact .inr ⟨t, u, k1, k2, stay k3 k4 k5⟩
  obtain ⟨bn, bl, bt⟩ := hb (X.env.qual ++ "<lambda>") (cloFrom X.env.cells sl.names []) dV doc pm (.ref c') ctv dv s1 hlen dv1
  have rc : codeAny (model X.prog X.w) (X.A.deeper (envOfC qg sg s.heap.objs.size g cdg)) (.call (.ref f) ⟨[], []⟩) (CR (L2.CX X.prog X.w) (envOfC qg sg s.heap.objs.size g cdg :: X.stack) X.prog X.w HZ s1 Q E) s1 := by
    refine PySem.W.kla_callFunE hr.depth hf1 rfl L.co L.gen rfl ⟨c', oc, vs, t, rfl, c1, c2, c3⟩ (bt _ _ _ _ ?_)
    refine wpAny_newFunctionEnv (fun y hy => L.cell y hy) bl (fun h1 hns hsb => ⟨I1.nolimit.fresh _ hsb, ?_⟩) L.kind
    show codeAny _ _ (.expr body (LamX.lamEnv X sl s1.heap.objs.size f c')) _ _
    have kp : ∀ b o, s1.heap.get? b = some o → h1.get? b = some o := fun b o e => hsb.extBut b o (Nat.ne_of_lt (Heap.lt_size e)) (Heap.get?_push_of_some _ e)
    have J := lam_enter (A := X.A.deeper (envOfC qg sg s.heap.objs.size g cdg)) (outer := envOfC qg sg s.heap.objs.size g cdg :: X.stack) (E := E) (f := f) (c' := c') (tk := s1.toks + bn.length) I L I1.env0 hr.hd un hns kp
    refine PySem.W.kla_codeExpr (wpAny_mono ((run (X.A.deeper (envOfC qg sg s.heap.objs.size g cdg)) _ s1 HZ rfl (hr.deeper _)).run [] _ _ HZ Q J ht) (fun v s' hq => ?_) fun e s' hq => hq)
    obtain ⟨w1, H', J1, rv, q⟩ := hq
    exact ⟨w1, H', J1.os, J1.bare, J1.base, J1.hok, rv, q⟩
  refine wpAny_call (codeAny_mono rc fun r s' hq => ?_)
  cases r with
  | error e => exact tk e s' (XE.of_call I1 (fun cls d H' h => hW cls d σZ H' IZ.len h) hq)
  | ok fl =>
    cases fl with
    | ret u => exact I1.after hq
    | next => exact hq.elim
    | brk => exact hq.elim
    | cont => exact hq.elim
end
end G


set_option maxRecDepth 100000
set_option maxHeartbeats 4000000
/-! Kern27: try .. except C as n: what is caught stays as an object that is looked after. -/
namespace G
open PySem PySem.Spec PyProof.Rows L2
variable [TabT]

section
variable {X : Cx} {pins : List (Addr × Obj)} {σ : L2.St} {H : Hp} {s : Shared}
theorem exF_ok {P : Program} {w : World} {H : Hp} {h : Heap} {C a : Addr} {d : Option Addr} {oe : Obj} {vs : Array Value} (e : h.get? a = some oe) (z : Zc (.ref C) d oe) (k : oe.data = .fields vs) : ObjOk P w H h a (ExF C d a) :=
  ⟨⟨oe, vs, e, z, k⟩, ⟨oe, e⟩, fun h1 h2 ⟨o, us, m1, m2, m3⟩ st => ⟨o, us, st _ m1, m2, m3⟩⟩
/-- an exception that was not there when the def was entered is looked after from now on -/
theorem Inv.hold {C a : Addr} {d : Option Addr} {oe : Obj} {vs : Array Value} (I : Inv X ((a, oe) :: pins) σ H s) (hz : Zc (.ref C) d oe) (hd : oe.data = .fields vs) (hnew : X.s_0.heap.get? a = none) (hp : ∀ p ∈ X.pn ++ pins, p.1 ≠ a) :
    Inv X pins σ (upd H a (ExF C d a)) s := by
  obtain ⟨p1, p2, p3, p4, p5⟩ := I.pin (a, oe) (List.mem_append_right _ List.mem_cons_self)
  have ne : ∀ {b : Addr} {o : HO}, H b = some o → b ≠ a := fun {b o} e => ne_of_none e p2
  have ne0 : ∀ {b : Addr} {o : Obj}, X.s_0.heap.get? b = some o → b ≠ a := fun {b o} e z => by
    rw [z, hnew] at e
    cases e
  refine ⟨I.ok, I.os, I.bare, ⟨I.base.keep, I.base.slot, fun b o e n hx => ?_, I.base.there, fun b xs e => ?_, fun b o u e => ?_, fun b ps e => ?_⟩, I.loc, I.cell, ?_, fun x c e => ?_, fun p hq => ?_, fun b u e => ?_, I.len⟩
  · rw [upd_ne (ne0 e)]
    exact I.base.free b o e n hx
  · have q := I.base.tups b xs e
    rw [upd_ne (ne q)]
    exact q
  · have q := I.base.frzs b o u e
    rw [upd_ne (ne q)]
    exact q
  · obtain ⟨m, q⟩ := I.base.tbls b ps e
    exact ⟨m, by rw [upd_ne (ne q)]; exact q⟩
  · rw [upd_ne (fun z => p3 z.symm)]
    exact I.free
  · rw [upd_ne (fun z => by
      obtain ⟨v, o, q1, q2⟩ := I.cell x c e
      rw [z] at q1
      have q1 : s.heap.get? a = some o := q1
      rw [show s.heap.get? a = some oe from p1] at q1
      cases q1
      exact p5 v q2)]
    exact I.freeC x c e
  · obtain ⟨q1, q2, q3, q4, q5⟩ := I.pin p (by
      rcases List.mem_append.mp hq with h | h
      · exact List.mem_append_left _ h
      · exact List.mem_append_right _ (List.mem_cons_of_mem _ h))
    exact ⟨q1, by rw [upd_ne (hp p hq)]; exact q2, q3, q4, q5⟩
  · by_cases hb : b = a
    · rw [hb, upd_same] at e
      cases e
      rw [hb]
      exact exF_ok p1 hz hd
    · rw [upd_ne hb] at e
      exact (I.hok b u e).stay (fun _ _ _ q => q) (fun c q => by rw [upd_ne (ne q)]; exact q) fun c xs q => by rw [upd_ne (ne q)]; exact q
theorem Inv.offsuite {a : Addr} {oe : Obj} {pn' : List (Addr × Obj)} (I : Inv (X.suite a ((a, oe) :: (X.pn ++ pins))) pn' σ H s) (ok : X.Ok) : Inv X ((a, oe) :: pins) σ H s :=
  ⟨ok, I.os, I.bare, I.base, I.loc, I.cell, I.free, I.freeC, fun p hp => I.pin p (List.mem_append_left _ (by
    rcases List.mem_append.mp hp with h | h
    · exact List.mem_cons_of_mem _ (List.mem_append_left _ h)
    · rcases List.mem_cons.mp h with h | h
      · rw [h]
        exact List.mem_cons_self
      · exact List.mem_cons_of_mem _ (List.mem_append_right _ h))), I.hok, I.len⟩
end
/-- what is wanted of an exception that the body lets out; ts: the suite, i: the clause's name -/
def wHold (n : Nat) (K : PySem.W.Frag) (c : Value) (i : Nat) (ts : Addr → Value → Option Addr → TS) (D : Ends) : WX := fun cls d σ H => σ.length = n → ∃ C : Addr, cls = .ref C ∧ PySem.W.exmOne K cls c = some true ∧
  ∀ a, H a = none → ts a cls d { nx := fun σ' H' => H' a = none → D.nx (σ'.set i none) (upd H' a (ExF C d a)), rt := fun _ _ => False, bk := fun _ _ => False, ct := fun _ _ => False } (σ.set i (some (.ref a))) H
theorem ps_hold {X : Cx} {x n : Str} {c : Value} {i : Nat} {body suite : List Stmt} {b1 : Stmt} {np pos pos' : Pos} {tb : WX → TS} {ts : Addr → Value → Option Addr → TS}
    (hs : X.stack = X.env :: X.outer) (hf : X.env.frame = some X.env.locals) (hex : X.ex = []) (hN : X.N.Nodup) (hi : X.N[i]? = some n) (hln : X.env.kindOf n = some .local) (hc : Names X x c)
    (hb : ∀ (W : WX) (pn : List (Addr × Obj)) (xe : Value → Shared → Prop), Takes (X.tr pn xe) W → PassesOwn (model X.prog X.w) X.A X.env xe → PSs (X.tr pn xe) body (tb W))
    (hsu : ∀ (a : Addr) (oe : Obj) (cls : Value) (d : Option Addr) (pn : List (Addr × Obj)), Zc cls d oe → (∃ vs, oe.data = .fields vs) → PSs (X.suite a ((a, oe) :: pn)) (b1 :: suite) (ts a cls d)) :
    PS X (.Try body [.ExceptHandler (some (.Name x np)) (some n) (b1 :: suite) pos'] [] [] pos) (fun D σ H => tb (wHold X.N.length X.K c i ts D) D σ H) := by
  refine ⟨fun pins s σ H D I h => ?_⟩
  have ok := I.ok
  have hfr : X.A.frames = some (X.env :: X.outer) := by rw [ok.frames, hs]
  refine wpAny_Try_except ?_
  refine wpAny_mono ((hb (wHold X.N.length X.K c i ts D) (X.pn ++ pins) (fun e s1 => wpAny (model X.prog X.w) X.A (noteFrame e X.env) (fun _ s2 => wpAny (model X.prog X.w) X.A (setFlight e none) (fun _ s3 =>
    wpAny (model X.prog X.w) X.A (handleBy e X.env [.ExceptHandler (some (.Name x np)) (some n) (b1 :: suite) pos']) (SP X pins D) X.xe s3) X.xe s2) X.xe s1) (fun u s' out => ?_) PassesOwn.looking).run [] s σ H D (I.toTry _) h) (fun f s1 hsp => ?_) (fun e s1 he => he)
  · obtain ⟨a, B, sI, pins', σ', H', cls, d, rfl, J1, nb, up, sky, na, os, ag, wh⟩ := out
    have J : Inv X pins σ' H' sI := J1.ofTry ok
    obtain ⟨C, rfl, hyes, want⟩ := wh J.len
    have sky1 : Sky B (X.env :: X.outer) a (Zc (.ref C) d) X.env.locals s'.heap := by rw [← hs]; exact sky
    show wpAny (model X.prog X.w) X.A (noteFrame (.ref a) X.env) _ _ _
    refine Sky.land Zc.steady hfr hf sky1 fun h3 fl3 up3 => ?_
    have J3 : Inv X pins σ' H' { s' with heap := h3 } := J.landed nb fl3.1 (up.trans up3) os ag
    obtain ⟨o3, vs3, g3, z3, d3⟩ := fl3.there
    have nfr : a ∉ frs (X.env :: X.outer) := fun hm => by
      obtain ⟨_, o', e', k'⟩ := (fl3.2.2.1).mem hm
      rw [g3] at e'
      cases e'
      exact k' _ d3
    have nL : a ≠ X.env.locals := fun z => nfr (List.mem_filterMap.mpr ⟨X.env, List.mem_cons_self, by rw [hf, z]⟩)
    have nF : a ∉ X.fs := fun hm => by
      obtain ⟨e, he, q⟩ := List.mem_filterMap.mp hm
      exact nfr (List.mem_filterMap.mpr ⟨e, List.mem_cons_of_mem _ he, q⟩)
    -- it is new
    have newI : sI.heap.get? a = none := by
      cases q : sI.heap.get? a with
      | none => rfl
      | some o =>
        have e1 := nb a o q (by rw [hs]; exact nfr)
        have e2 : B.get? a = none := fl3.2.1
        rw [e2] at e1
        cases e1
    have new0 : X.s_0.heap.get? a = none := by
      cases q : X.s_0.heap.get? a with
      | none => rfl
      | some o =>
        obtain ⟨o', e⟩ := J.base.there a o q (by rw [hex]; simp)
        rw [newI] at e
        cases e
    have nP : ∀ p ∈ X.pn ++ pins, p.1 ≠ a := fun p hp z => by
      have e := (J.pin p hp).1
      rw [z, newI] at e
      cases e
    have S3 := J3.suite g3 d3 na nL nF
    refine wpAny_handleBy_cons (codeAny_handlers_test ?_) (by intro q; cases q)
    have LT : PySem.W.Looks (model X.prog X.w) h3 (typeOf (.ref a)) (.ref C) := fun A Q E s k q => wpAny_typeOf_ref (k _ _ g3) (by rw [z3.1]; exact q)
    have LM := PySem.W.exm_one (M := model X.prog X.w) (J3.kIn) LT hyes
    have test : ∀ {Q : Value → Shared → Prop} {E : Value → Shared → Prop}, Q c { s' with heap := h3 } → wpAny (model X.prog X.w) (X.A.mark (some (.ref a))) (eval (.Name x np) X.env) Q E { s' with heap := h3 } := fun {Q E} q => by
      obtain ⟨m1, m2, m3 | ⟨m3, m4, m5⟩⟩ := hc
      · exact ld_glob (X := X.suite a ((a, o3) :: (X.pn ++ pins))) S3 m1 m3 q m2
      · exact ld_blt (X := X.suite a ((a, o3) :: (X.pn ++ pins))) S3 m1 m3 m4 q m5 m2
    refine test (LM.here ?_)
    refine codeAny_handlers_suite_as ?_
    refine HandSPX.lands_againZ fl3 fun h4 fl4 up4 => ?_
    have J4 : Inv X pins σ' H' { s' with heap := h4 } := J.landed nb fl4.1 ((up.trans up3).trans up4) os ag
    obtain ⟨o4, vs4, g4, z4, d4⟩ := fl4.there
    have S4 := J4.suite g4 d4 na nL nF
    refine store_ok (X := X.suite a ((a, o4) :: (X.pn ++ pins))) (v := .ref a) S4 hN hi (.inl hln) rfl (fun s5 S5 => ?_) (.inr hln)
    refine wpAny_mono ((hsu a o4 (.ref C) d (X.pn ++ pins) z4 ⟨_, d4⟩).run [] s5 _ H' _ S5 (want a na)) (fun f s6 hsp => ?_) (fun _ _ z => False.elim z)
    cases f with
    | next =>
      obtain ⟨σ6, H6, S6, q6⟩ := hsp
      have T6 := Inv.offsuite (X := X) (pins := pins) S6 ok
      have n6 : H6 a = none := (S6.pin (a, o4) (List.mem_append_left _ List.mem_cons_self)).2.1
      refine gone_ok T6 hN hi hln fun s7 J7 => ⟨_, _, Inv.hold J7 z4 d4 new0 nP, q6 n6⟩
    | brk =>
      obtain ⟨σ6, H6, S6, q6⟩ := hsp
      exact q6.elim
    | cont =>
      obtain ⟨σ6, H6, S6, q6⟩ := hsp
      exact q6.elim
    | ret u =>
      obtain ⟨v6, σ6, H6, S6, r6, q6⟩ := hsp
      exact q6.elim
  · cases f with
    | next =>
      obtain ⟨σ', H', J', q⟩ := hsp
      exact wpAny_execs_nil ⟨σ', H', J'.ofTry ok, q⟩
    | brk =>
      obtain ⟨σ', H', J', q⟩ := hsp
      exact ⟨σ', H', J'.ofTry ok, q⟩
    | cont =>
      obtain ⟨σ', H', J', q⟩ := hsp
      exact ⟨σ', H', J'.ofTry ok, q⟩
    | ret u =>
      obtain ⟨v, σ', H', J', r, q⟩ := hsp
      exact ⟨v, σ', H', J'.ofTry ok, r, q⟩
end G


set_option maxRecDepth 100000
set_option maxHeartbeats 4000000
/-! Kern28: caught exceptions as data: isinstance, attributes. -/
namespace G
open PySem PySem.Spec PyProof.Rows L2
variable [TabT]

/-- an own class as a global name -/
theorem pe_cls {X : Cx} {x : Str} {C : Addr} {pos : Pos} (hg : Gl X x) (hm : X.mg x = some (.ref C)) (hdb : (x == ("__debug__" : Str)) = false) : PE X (.Name x pos) (tC (.ref C)) := pe_glob hg hm rfl hdb
section
variable {X : Cx} {pins : List (Addr × Obj)} {σ : L2.St} {H : Hp} {s : Shared}
/-- the exception at a, as the rules of the library want it -/
theorem exF_inst {C a : Addr} {dx : Option Addr} (hok : HOk X.prog X.w H s.heap) (h : H a = some (ExF C dx a)) (hd : dx = none ∨ ∃ d fs, dx = some d ∧ H d = some (.xd fs)) : ∃ (oe : Obj) (od : Option Obj), PySem.W.InstAt s.heap a oe C od := by
  obtain ⟨⟨oe, vs, g1, ⟨z1, z2⟩, g3⟩, _⟩ := (show ObjOk X.prog X.w H s.heap a (.ext fun h => ∃ oe vs, h.get? a = some oe ∧ Zc (.ref C) dx oe ∧ oe.data = .fields vs) from hok a _ h)
  rcases hd with rfl | ⟨d, fs, rfl, hx⟩
  · exact ⟨oe, none, g1, z1, by unfold PySem.W.notCls; rw [g3] <;> rfl, by rw [z2]; trivial⟩
  · obtain ⟨mA, hns, _⟩ := (show ObjOk X.prog X.w H s.heap d (.xd fs) from hok d _ hx)
    obtain ⟨od, ho, _⟩ := lookIn_ns hns
    exact ⟨oe, some od, g1, z1, by unfold PySem.W.notCls; rw [g3] <;> rfl, by rw [z2]; exact ho⟩
/-- isinstance(x, C), C an own class: x nothing, or an exception that was caught -/
def rIsX (K : PySem.W.Frag) (C' : Addr) : List V → Hp → VK → Prop := fun xs H Q => ∃ (x : V) (b : Bool), xs = [x, .ref C'] ∧
  ((x = .non ∧ PySem.W.kitOne K (.type "NoneType") (.ref C') = some b) ∨ ∃ a C dx, x = .ref a ∧ H a = some (ExF C dx a) ∧ (dx = none ∨ ∃ d fs, dx = some d ∧ H d = some (.xd fs)) ∧ ExcC K C ∧ PySem.W.kitOne K (.ref C) (.ref C') = some b) ∧ Q (.bl b) H
theorem call_isX {C' : Addr} : CallR X (.builtin "isinstance") (rIsX X.K C') := by
  intro pins s σ H xs us Q I r h
  obtain ⟨x, b, rfl, h, q⟩ := h
  obtain ⟨u1, u2, rfl, r1, r2⟩ := vals2 r
  obtain rfl : u2 = Value.ref C' := r2
  rcases h with ⟨rfl, e⟩ | ⟨a, C, dx, rfl, ha, hd, F, e⟩
  · obtain ⟨P, Z, p, nx⟩ := kit_of I r1 (.base .non)
    exact PySem.W.kia_one Z I.kIn p e nx fun tk => ⟨.bl b, H, I.tok tk, rfl, q⟩
  · obtain rfl : u1 = Value.ref a := r1
    obtain ⟨oe, od, J⟩ := exF_inst I.hok ha hd
    have cl : (PySem.W.clsIn X.K C).isSome = true := by
      obtain ⟨cd, hc, _⟩ := PySem.W.any_some F.hd
      rw [hc]
      rfl
    exact PySem.W.kia_one (PySem.W.kitx_exc cl F.hg F.hk F.hs F.ha F.hn F.ht F.hm) I.kIn J e (fun z => nomatch z) fun tk => ⟨.bl b, H, I.tok tk, rfl, q⟩
/-- e.n, e an exception that was caught -/
def tXF (K : PySem.W.Frag) (n : Str) (te : TE) : TE := fun σ H Q => te σ H fun x H1 => ∃ a C d fs v, x = .ref a ∧ H1 a = some (ExF C (some d) a) ∧ H1 d = some (.xd fs) ∧ fs.lookup n = some v ∧ XfC K C ∧ PySem.W.findIn K (.ref C) n = some none ∧ Q v H1
theorem pe_xF {e : Expr} {te : TE} {pos : Pos} {n : Str} (he : PE X e te) (hb : attributeBase e n X.env (eval e X.env) = eval e X.env) : PE X (.Attribute e n pos) (tXF X.K n te) := by
  refine ⟨fun pins s σ H Q I h => ?_⟩
  refine attr_of hb (thn (he.run pins s σ H _ I h) fun u s1 got => ?_)
  obtain ⟨x, H1, I1, rx, a, C, d, fs, v, rfl, ha, hx, hl, T, hno, q⟩ := got
  obtain rfl : u = Value.ref a := rx
  obtain ⟨⟨oe, vs, g1, ⟨z1, z2⟩, g3⟩, _⟩ := (show ObjOk X.prog X.w H1 s1.heap a (.ext fun h => ∃ oe vs, h.get? a = some oe ∧ Zc (.ref C) (some d) oe ∧ oe.data = .fields vs) from I1.hok a _ ha)
  obtain ⟨mA, hns, hr⟩ := (show ObjOk X.prog X.w H1 s1.heap d (.xd fs) from I1.hok d _ hx)
  obtain ⟨od, ho, lk⟩ := lookIn_ns hns
  obtain ⟨w, hw, rw'⟩ := RelO.some_of (v := v) (o := mA n) (by rw [← hl]; exact hr n)
  have J : PySem.W.InstAt s1.heap a oe C (some od) := ⟨g1, z1, by unfold PySem.W.notCls; rw [g3] <;> rfl, by rw [z2]; exact ho⟩
  exact HandSPX.exc_get I1.kIn J T.ga T.gg T.exC (PySem.W.findObj_own T.hdC hno rfl (by rw [lk, hw])) (handed_of rw') ⟨v, H1, I1.tok _, rw', q⟩
end
/-! ### over data -/
def isoD (T : List (Str × Bool)) : Dt → Res Val
  | .non => vB false
  | .exn c _ _ => match T.lookup c with
    | some b => vB b
    | none => .bad
  | _ => .bad
/-- what the classes of exceptions must be -/
structure ExC (K : PySem.W.Frag) (mg : Str → Option Value) (c : Str) (C : Addr) : Prop where
  m : mg c = some (.ref C)
  i : ExcC K C
  x : XfC K C
def IsoOk (K : PySem.W.Frag) (mg : Str → Option Value) (C' : Addr) (T : List (Str × Bool)) : Prop := PySem.W.kitOne K (.type "NoneType") (.ref C') = some false ∧ ∀ c b, T.lookup c = some b → ∃ C, ExC K mg c C ∧ PySem.W.kitOne K (.ref C) (.ref C') = some b
section
variable {X : Cx} {EX : XK} {a : Expr} {f : DE} {p p1 pos : Pos}
theorem xd_of {W : Wd} {Hb H : Hp} {c : Str} {ks : List Str} {ds : List Dt} {v : V} (s : Same Hb H) (r : RdD W Hb (.exn c ks ds) v) : ∃ a C dx, v = .ref a ∧ W.mg c = some (.ref C) ∧ H a = some (ExF C dx a) ∧ (dx = none ∨ ∃ d fs, dx = some d ∧ H d = some (.xd fs)) := by
  obtain ⟨a, C, dx, h1, h2, h3, h4⟩ := r
  refine ⟨a, C, dx, h1, h2, s _ _ h3, ?_⟩
  rcases h4 with ⟨_, _, rfl⟩ | ⟨d, vs, h5, h6, _⟩
  · exact .inl rfl
  · exact .inr ⟨d, _, h5, s _ _ h6⟩
theorem se_isO {x y : Str} {C' : Addr} {T : List (Str × Bool)} (ok : IsoOk X.K X.mg C' T) (hg : Gl X x) (hm : X.mg x = none) (hv : bootBuiltins x = some (.builtin "isinstance")) (hn : x ≠ "__name__") (hdb : (x == ("__debug__" : Str)) = false)
    (hg2 : Gl X y) (hm2 : X.mg y = some (.ref C')) (hdb2 : (y == ("__debug__" : Str)) = false) (ha : SE X EX a f) (hst : isStar a = false) : SE X EX (.Call (.Name x p) [a, .Name y p1] [] pos) (dUn (isoD T) f) := by
  have hA : PA X [a, .Name y p1] (tCons (rdE (wd X) EX f) (tCons (tC (.ref C')) tNil)) := pa_cons ha (pa_cons (pe_cls hg2 hm2 hdb2) pa_nil (star_no rfl)) (star_no hst)
  refine pe_mono (pe_callB (call_isX (C' := C')) hg hm hv hA hn hdb (star_no hst) (star_none rfl)) fun σ H Q ⟨Fm, Hb, ia, env, A, p⟩ => ?_
  refine ⟨Fm, Hb, ia, env, A, Post.bindV p fun va e1 v H1 Hb1 s1 A1 r1 q1 => ?_⟩
  cases hd : va.d with
  | non =>
    rw [hd] at r1 q1
    exact ⟨v, false, rfl, .inl ⟨r1, ok.1⟩, Post.imm q1 A1 rfl⟩
  | exn c ks ds =>
    rw [hd] at r1 q1
    dsimp only [isoD] at q1
    split at q1
    · rename_i b hb
      obtain ⟨C, E, k⟩ := ok.2 c b hb
      obtain ⟨a, C2, dx, rfl, m, h3, h4⟩ := xd_of A1.bs.hb r1
      have m : X.mg c = some (.ref C2) := m
      rw [E.m] at m
      cases m
      exact ⟨_, b, rfl, .inr ⟨a, C, dx, rfl, h3, h4, E.i, k⟩, Post.imm q1 A1 rfl⟩
    · exact q1.elim
  | bl _ => rw [hd] at q1; exact q1.elim
  | int _ => rw [hd] at q1; exact q1.elim
  | str _ => rw [hd] at q1; exact q1.elim
  | lst _ => rw [hd] at q1; exact q1.elim
  | tup _ => rw [hd] at q1; exact q1.elim
  | scr _ => rw [hd] at q1; exact q1.elim
  | dct _ _ => rw [hd] at q1; exact q1.elim
  | dcf _ _ => rw [hd] at q1; exact q1.elim
  | obj _ _ _ => rw [hd] at q1; exact q1.elim
/-- e.n over data: cs, the classes that are known -/
def fldD (cs : List Str) (n : Str) : Dt → Res Val
  | .exn c ks ds => if c ∈ cs then match (ks.zip ds).lookup n with
    | some d => .ok (.imm d)
    | none => .bad else .bad
  | _ => .bad
def FldOk (K : PySem.W.Frag) (mg : Str → Option Value) (cs : List Str) (n : Str) : Prop := ∀ c ∈ cs, ∃ C, ExC K mg c C ∧ PySem.W.findIn K (.ref C) n = some none
theorem lookup_rd {W : Wd} {H : Hp} {n : Str} {d : Dt} : ∀ {ks : List Str} {ds : List Dt} {vs : List V}, RdL W H ds vs → (ks.zip ds).lookup n = some d → ∃ v, (ks.zip vs).lookup n = some v ∧ RdD W H d v
  | [], _, _, _, e => nomatch e
  | _ :: _, [], _, _, e => nomatch e
  | k :: ks, x :: ds, _, r, e => by
    obtain ⟨v, vs, rfl, h1, h2⟩ := r
    simp only [List.zip_cons_cons, List.lookup_cons] at e ⊢
    by_cases hk : n == k
    · rw [hk] at e ⊢
      cases e
      exact ⟨v, rfl, h1⟩
    · rw [Bool.eq_false_iff.mpr hk] at e ⊢
      exact lookup_rd h2 e
theorem se_fld {e : Expr} {n : Str} {cs : List Str} (ok : FldOk X.K X.mg cs n) (he : SE X EX e f) (hb : attributeBase e n X.env (eval e X.env) = eval e X.env) : SE X EX (.Attribute e n pos) (dUn (fldD cs n) f) :=
  pe_mono (pe_xF he hb) fun σ H Q ⟨Fm, Hb, ia, env, A, p⟩ => by
    refine ⟨Fm, Hb, ia, env, A, Post.bindV p fun va e1 v H1 Hb1 s1 A1 r1 q1 => ?_⟩
    cases hd : va.d with
    | exn c ks ds =>
      rw [hd] at r1 q1
      dsimp only [fldD] at q1
      split at q1
      · rename_i hc
        split at q1
        · rename_i d hl
          obtain ⟨C, E, hno⟩ := ok c hc
          obtain ⟨a, C2, dx, rfl, m, h3, h4⟩ := r1
          have m : X.mg c = some (.ref C2) := m
          rw [E.m] at m
          cases m
          rcases h4 with ⟨rfl, rfl, _⟩ | ⟨dd, vs, rfl, h6, h7, h8⟩
          · cases hl
          · obtain ⟨w, hw, rw'⟩ := lookup_rd h8 hl
            exact ⟨a, C, dd, _, w, rfl, A1.bs.hb _ _ h3, A1.bs.hb _ _ h6, hw, E.x, hno, Post.imm q1 A1 rw'⟩
        · exact q1.elim
      · exact q1.elim
    | non => rw [hd] at q1; exact q1.elim
    | bl _ => rw [hd] at q1; exact q1.elim
    | int _ => rw [hd] at q1; exact q1.elim
    | str _ => rw [hd] at q1; exact q1.elim
    | lst _ => rw [hd] at q1; exact q1.elim
    | tup _ => rw [hd] at q1; exact q1.elim
    | scr _ => rw [hd] at q1; exact q1.elim
    | dct _ _ => rw [hd] at q1; exact q1.elim
    | dcf _ _ => rw [hd] at q1; exact q1.elim
    | obj _ _ _ => rw [hd] at q1; exact q1.elim
end
end G


set_option maxRecDepth 100000
set_option maxHeartbeats 4000000
/-! Kern29: raise C(..), C an own class of exceptions with an own __init__. -/
namespace G
open PySem PySem.Spec PyProof.Rows L2
variable [TabT]

/-- the class whose __init__ is ValueError's -/
structure PeC (K : PySem.W.Frag) (C : Addr) : Prop where
  g : PySem.W.specialIn K (.ref C) "__getattribute__" = some (some (.builtin "type.__getattribute__"))
  r : PySem.W.readsIn K C (.type "type") = true
  f : PySem.W.findCls K (.ref C) (.type "type") "__init__" = some (.val (.builtin "ValueError.__init__"))
section
variable {X : Cx} {e : Expr} {es : List Expr} {ta : TA} {p1 p2 pos : Pos}
/-- C.__init__(self, ..), C a class over ValueError without an own __init__ -/
theorem pe_pinit {x : Str} {C0 : Addr} {pl : Sem Bool} (hg : Gl X x) (hm : X.mg x = some (.ref C0)) (hdb : (x == ("__debug__" : Str)) = false) (T : PeC X.K C0) (ha : PA X (e :: es) ta)
    (hc : eval (.Call (.Attribute (.Name x p1) "__init__" p2) (e :: es) [] pos) X.env = (do
      let ov ← eval (.Name x p1) X.env
      standAt p2.atName
      let (f, first) ← holding [ov] (getMethod ov "__init__" pl)
      callWith pos f first (backTo pos (starEach (e :: es) X.env)) (backToKw pos (keywordEach [] X.env))))
    (he : starEach (e :: es) X.env = (false, eval e X.env) :: starEach es X.env) (hpl : (backTo pos (starEach es X.env)).any (·.1) = false) :
    PE X (.Call (.Attribute (.Name x p1) "__init__" p2) (e :: es) [] pos) (tVeI X.K ta) := by
  refine ⟨fun pins s σ H Q I h => ?_⟩
  refine PySem.W.methodCall_KW (ld_glob I hg hm ?_ hdb) hc
  refine PySem.W.method_cls I.kIn T.g (PySem.W.cls_value I.kIn T.r T.f (by decide +kernel) ?_)
  show wpAny _ _ (callWith pos (Value.builtin "ValueError.__init__") [] (backTo pos (starEach (e :: es) X.env)) []) _ _ _
  refine PyProof.Rows.callWith_method1 (thn (ha.run pos pins _ σ H _ (I.tok _) h) fun us s1 ⟨vs, H1, I1, r1, a, C, ws, ev, hl, T1, ea, q⟩ => ?_) he hpl
  subst ev
  cases r1 with
  | @cons _ u0 _ ur ra rr =>
    obtain rfl : u0 = Value.ref a := ra
    exact oinit_ok T1 I1 ea (by rw [← Paired.length rr, sizeLine_eq]; omega) fun s' J => ⟨.non, H1, J, rfl, q⟩
end
/-- what the __init__ of such a class promises: each argument is stored under its name -/
def spI (K : PySem.W.Frag) (ks : List Str) : Sp := fun vs H Q _ => ∃ (a C : Addr) (ws : List V), vs = .ref a :: ws ∧ ws.length = ks.length ∧ OexC K C ∧ (∀ k ∈ ks, PySem.W.findIn K (.ref C) k = some none) ∧ H a = some (exo a C none) ∧
  ∀ dx H2, H dx = none → dx ≠ a → (∀ b, b ≠ a → b ≠ dx → H2 b = H b) → H2 a = some (exo a C (some dx)) → H2 dx = some (exd dx (ks.zip ws).reverse) → Q .non H2
section
variable {P : Program} {w : World} {K : PySem.W.Frag} {mg : Str → Option Value} {base : Heap} {f qual : Str} {st : Stmt} {fI : Addr} {fd : FuncData}
/-- one field -/
theorem init_one {m k : Str} (F : Fun K "__init__" qual st fI fd) (S : FnScope ["self", k] ["self", k] (defScope st))
    (hb : ∀ (cdv : Value) (A : Around) (outer : List Env) (s : Shared) (H : Hp) (E : XK), PSs (cxOf L2.CX0 P w K mg base ["self", k] qual (defScope st) fI cdv A outer s H E).nox (defBody st) (tSeq (tDrop (tVeI K (tCons (tVar 0) (tCons (tC (.str m)) tNil)))) (tOst K k (tVar 0) (tVar 1)))) :
    FnOk P w K mg base L2.CX0 1 fI fd ["self", k] (spI K [k]) :=
  F.ok S (fun vs H Q E ⟨a, C, ws, h, hl, _⟩ => by rw [h, List.length_cons, hl]; rfl) fun cdv A outer s H vs Q E hr ⟨a, C, ws, h, hl, T, hk, ha, hq⟩ => by
    match ws, hl with
    | [v], _ =>
      subst h
      refine ⟨_, hb cdv A outer s H E, ?_⟩
      refine ⟨.ref a, rfl, ?_⟩
      refine ⟨a, C, [.str m], rfl, (show 1 ≤ 1000 by decide), T, ha, ?_⟩
      refine ⟨v, rfl, .ref a, rfl, a, C, rfl, T, hk k List.mem_cons_self, .inl ⟨ha, fun dx hn ne => ?_⟩⟩
      exact hq dx _ hn ne (fun b b1 b2 => by rw [upd_ne b1, upd_ne b2]) upd_same (by rw [upd_ne ne, upd_same]; rfl)
/-- two fields -/
theorem init_two {m k l : Str} (F : Fun K "__init__" qual st fI fd) (S : FnScope ["self", k, l] ["self", k, l] (defScope st))
    (hb : ∀ (cdv : Value) (A : Around) (outer : List Env) (s : Shared) (H : Hp) (E : XK), PSs (cxOf L2.CX0 P w K mg base ["self", k, l] qual (defScope st) fI cdv A outer s H E).nox (defBody st)
      (tSeq (tDrop (tVeI K (tCons (tVar 0) (tCons (tC (.str m)) tNil)))) (tSeq (tOst K k (tVar 0) (tVar 1)) (tOst K l (tVar 0) (tVar 2))))) :
    FnOk P w K mg base L2.CX0 1 fI fd ["self", k, l] (spI K [k, l]) :=
  F.ok S (fun vs H Q E ⟨a, C, ws, h, hl, _⟩ => by rw [h, List.length_cons, hl]; rfl) fun cdv A outer s H vs Q E hr ⟨a, C, ws, h, hl, T, hk, ha, hq⟩ => by
    match ws, hl with
    | [v, y], _ =>
      subst h
      refine ⟨_, hb cdv A outer s H E, ?_⟩
      refine ⟨.ref a, rfl, ?_⟩
      refine ⟨a, C, [.str m], rfl, (show 1 ≤ 1000 by decide), T, ha, ?_⟩
      refine ⟨v, rfl, .ref a, rfl, a, C, rfl, T, hk k List.mem_cons_self, .inl ⟨ha, fun dx hn ne => ?_⟩⟩
      refine ⟨y, rfl, .ref a, rfl, a, C, rfl, T, hk l (List.mem_cons_of_mem _ List.mem_cons_self), .inr ⟨dx, [(k, v)], upd_same, by rw [upd_ne ne, upd_same], (show 1 ≤ 900 by decide), ?_⟩⟩
      exact hq dx _ hn ne (fun b b1 b2 => by rw [upd_ne b2, upd_ne b1, upd_ne b2]) (by rw [upd_ne (Ne.symm ne), upd_same]) upd_same
end
/-! ### raise, over data -/
theorem RdL.reverse {W : Wd} {H : Hp} : ∀ {ds : List Dt} {vs : List V}, RdL W H ds vs → RdL W H ds.reverse vs.reverse
  | [], vs, h => by cases (show vs = [] from h); rfl
  | d :: ds, _, h => by
    obtain ⟨v, r, rfl, h1, h2⟩ := h
    rw [List.reverse_cons, List.reverse_cons]
    exact RdL.append (RdL.reverse h2) (RdL.cons h1 RdL.nil)
/-- the exception -/
def exnOf (c : Str) (ks : List Str) (ds : List Dt) : Exn := ⟨c, (ks.zip ds).reverse⟩
def sRaise (c : Str) (ks : List Str) (g : DA) : DS := fun env => (g env).bind fun p => if p.1.length = ks.length then .err (exnOf c ks p.1) else .bad
/-- what an own class of exceptions with an own __init__ must be -/
structure RaC (P : Program) (w : World) (K : PySem.W.Frag) (mg : Str → Option Value) (base : Heap) (c : Str) (ks : List Str) : Prop where
  ex : ∃ (C fI : Addr) (fd : FuncData), mg c = some (.ref C) ∧ OexC K C ∧ (∀ k ∈ ks, PySem.W.findIn K (.ref C) k = some none) ∧ PySem.W.findIn K (.ref C) "__init__" = some (some (.ref fI)) ∧ PySem.W.typeIn K (.ref fI) = some (.type "function") ∧
    FnOk P w K mg base L2.CX0 1 fI fd ("self" :: ks) (spI K ks) ∧ L2.Binds K fd ("self" :: ks) []
section
variable {X : Cx} {EX : XK} {e : Expr} {es : List Expr} {fa : DA} {p pos pos' : Pos}
theorem ss_raise {x : Str} {ks : List Str} (R : RaC X.prog X.w X.K X.mg X.base x ks) (hg : Gl X x) (hdb : (x == ("__debug__" : Str)) = false) (hc : X.calm = true) (tk : Takes X (fun cls d _ H => EX cls d H)) (hr : Room 2 X.A) (hks : ks.length ≤ 900)
    (ha : SA X EX (e :: es) fa) (he : starEach (e :: es) X.env = (false, eval e X.env) :: starEach es X.env) (hpl : (backTo pos (starEach es X.env)).any (·.1) = false) : SS X EX (.Raise (some (.Call (.Name x p) (e :: es) [] pos)) none pos') (sRaise x ks fa) := by
  obtain ⟨C, fI, fd, hm, T, hk, iC, tI, F1, hb⟩ := R.ex
  refine ps_mono (ps_raise (W := fun cls d _ H => EX cls d H) hc tk (pmk_oex (dvs := []) T iC tI F1 hr hb .nil (fun _ _ _ _ _ _ _ h => h.elim) hg hm ha hdb he hpl)) fun D σ H ⟨Fm, Hb, ia, env, A, h⟩ => ?_
  refine ⟨Fm, Hb, ia, env, A, Post.bindS h fun ds e1 H1 Hb1 s1 A1 q1 vs hv => ?_⟩
  dsimp only at q1
  split at q1
  · rename_i hl
    have hlv : vs.length = ks.length := by rw [← hv.len]; exact hl
    refine ⟨by omega, fun a hn => ⟨a, C, vs, by rw [List.append_nil], hlv, T, hk, upd_same, fun dx H2 d1 d2 same ea ed => ?_⟩⟩
    have dn : H1 dx = none := by rw [upd_ne d2] at d1; exact d1
    refine ⟨rfl, dx, _, ea, ed, dn, ?_⟩
    have eq : upd (L2.del H2 a) dx (.xd (ks.zip vs).reverse) = upd H1 dx (.xd (ks.zip vs).reverse) := by
      funext b
      by_cases h1 : b = dx
      · rw [h1, upd_same, upd_same]
      · rw [upd_ne h1, upd_ne h1]
        by_cases h2 : b = a
        · rw [h2, del_same, hn]
        · rw [del_ne h2, same b h2 h1, upd_ne h2]
    rw [eq]
    obtain ⟨f1, f2⟩ := A1.bs.free dn
    refine q1 _ dx _ _ (Same.refl _) (A1.bs.put f1 f2 (Wri.new dn)) ⟨hm, .inr ⟨dx, _, rfl, upd_same, ?_, ?_⟩⟩
    · show ((ks.zip vs).reverse).map (·.1) = ((ks.zip ds).reverse).map (·.1)
      rw [List.map_reverse, List.map_reverse, List.map_fst_zip (by omega), List.map_fst_zip (by omega)]
    · show RdL _ _ (((ks.zip ds).reverse).map (·.2)) (((ks.zip vs).reverse).map (·.2))
      rw [List.map_reverse, List.map_reverse, List.map_snd_zip (by omega), List.map_snd_zip (by omega)]
      exact hv.reverse
  · exact q1.elim
end
end G


set_option maxRecDepth 100000
set_option maxHeartbeats 4000000
/-! Kern30: x(lambda: body), x a def that calls what it gets, catches, and tells what it heard. -/
namespace G
open PySem PySem.Spec PyProof.Rows L2
variable [TabT]

/-- the text of x: `caught = None; try: ask() except E as err: caught = err; rest` -/
structure HearT (bg rest : List Stmt) (ask cN eN xE : Str) : Prop where
  ex : ∃ p1 p2 p3 p4 p5 p6 p7 p8 p9 q1 q2 q3 : Pos, ∃ j : Nat, bg = .Assign [.Name cN p1] (.Constant .none j p2) p3 :: .Try [.Expr (.Call (.Name ask p4) [] [] p5) p6] [.ExceptHandler (some (.Name xE p7)) (some eN) [.Assign [.Name cN p8] (.Name eN p9) q1] q2] [] [] q3 :: rest
/-- x: where it stands, its names -/
structure HearD (K : PySem.W.Frag) (mg : Str → Option Value) (x ask cN eN xE : Str) (jc je : Nat) (Ng : List Str) (sg : Scope) (rest : List Stmt) (g : Addr) (cdg : Value) (CE : Addr) : Prop where
  m : mg x = some (.ref g)
  kp : PySem.W.keepIn K (.ref g) = true
  fn : ∃ (pg : Arguments) (bg : List Stmt) (dV kV doc pm ct oc : Value) (an od : Option Addr) (osl : Array (Option Value)), K.lookup g = some ⟨oc, od, .func (PySem.W.fnOf x x pg bg sg dV kV doc pm an cdg ct), osl⟩ ∧ HearT bg rest ask cN eN xE ∧ L2.Binds K (PySem.W.fnOf x x pg bg sg dV kV doc pm an cdg ct) [ask] []
  cd : PySem.W.codeIn K cdg x = true
  sc : FnScope Ng [ask] sg
  n0 : Ng[0]? = some ask
  nc : Ng[jc]? = some cN
  ne : Ng[je]? = some eN
  ce : jc ≠ je
  cz : jc ≠ 0
  l0 : sg.names.lookup ask = some .local
  lc : sg.names.lookup cN = some .local
  le : sg.names.lookup eN = some .local
  gE : sg.names.lookup xE = some .globalImplicit
  mE : mg xE = some (.ref CE)
  db : (x == ("__debug__" : Str)) = false ∧ (ask == ("__debug__" : Str)) = false ∧ (ask == ("__classdict__" : Str)) = false ∧ (eN == ("__debug__" : Str)) = false ∧ (eN == ("__classdict__" : Str)) = false ∧ (xE == ("__debug__" : Str)) = false
section
variable {X : Cx} {x ask cN eN xE : Str} {jc je : Nat} {Ng : List Str} {sg : Scope} {rest : List Stmt} {g : Addr} {cdg : Value} {CE : Addr}
/-- x's context -/
abbrev CH (X : Cx) (Ng : List Str) (x : Str) (sg : Scope) (g : Addr) (cdg : Value) (s : Shared) (H : Hp) : Cx := cxOf (L2.CX X.prog X.w) X.prog X.w X.K X.mg X.base Ng x sg g cdg X.A X.stack s H EN
/-- x's end -/
abbrev hEnds (Q : VK) : Ends := { nx := fun _ H' => Q .non H', rt := Q }
/-- the reading -/
def tHear (K : PySem.W.Frag) (CE : Addr) (Ng : List Str) (jc je : Nat) (t : XK → TE) (tr : TS) : TE := fun σ H Q => LamX.Tabs TabT.T H ∧ ∀ H1 f, LamX.ExtN H H1 → LamX.Tabs TabT.T H1 →
  t (fun cls d H2 => ∀ σ2 : L2.St, σ2.length = Ng.length → wHold Ng.length K (.ref CE) je (fun _ _ _ => tAsg (tVar je) (gName jc)) { hEnds Q with nx := tr (hEnds Q) } cls d σ2 H2) σ H1 (fun _ H2 => tr (hEnds Q) ((L2.start Ng [V.ref f]).set jc (some .non)) H2)
theorem pe_hear {c P : Addr} {k : Nat} {ps : Arguments} {body : Expr} {sl : Scope} {t : XK → TE} {tr : TS} {p lpos pos : Pos} (D : HearD X.K X.mg x ask cN eN xE jc je Ng sg rest g cdg CE) (hg : Gl X x)
    (TB : LamX.TabB X.base X.mg c P) (hcode : X.env.code = .ref c) (hmT : (P, X.env.qual ++ "<lambda>") ∈ TabT.T) (hu : ∀ p ∈ TabT.T, p.1 = P → p.2 = X.env.qual ++ "<lambda>") (hr : Room (k + 2) X.A) (L : LamD X.env.scope sl X.N) (hps : Plain X ps) (hbind : BindL ps body sl)
    (hbody : ∀ (A : Around) (outer : List Env) (s : Shared) (H : Hp) (E : XK) (f c' : Addr), A.guards = X.A.guards → Room k (A.deeper (LamX.lamEnv X sl s.heap.objs.size f c')) → PE (LamX.lamCx X A outer s H E sl f c') body (t E))
    (hrest : ∀ (s : Shared) (H : Hp), (CH X Ng x sg g cdg s H).A.guards = X.A.guards → Room (k + 1) (CH X Ng x sg g cdg s H).A → PSs (CH X Ng x sg g cdg s H) rest tr) :
    PE X (.Call (.Name x p) [.Lambda ps body sl lpos] [] pos) (tHear X.K CE Ng jc je t tr) := by
  refine ⟨fun pins s σ H Q I h => ?_⟩
  obtain ⟨hT, h⟩ := h
  obtain ⟨d1, d2, d3, d4, d5, d6⟩ := D.db
  obtain ⟨pg, bg, dVg, kVg, docg, pmg, ctg, ocg, ang, odg, oslg, lk, ⟨p1, p2, p3, p4, p5, p6, p7, p8, p9, q1, q2, q3, j, rfl⟩, hb⟩ := D.fn
  refine wpAny_Call_Name_kw (ld_glob I hg D.m ?_ d1)
  refine PySem.W.callWith_K (h₀ := X.base) I.ok.mod.kin D.kp ?_ (by rfl) (by rfl)
  show wpAny _ _ (spliced ((false, eval (.Lambda ps body sl lpos) X.env) :: backTo pos (starEach [] X.env))) _ _ s
  refine Calls.spliced_cons (lam_made I TB hcode hmT hu hT (L.has I.ok) hps (fun _ _ z => z) fun f s1 dv hdl made => ?_)
  obtain ⟨c', dV, doc, pm, ctv, H1, I1, eN1, T1, hf, hfn, hfr, hco, hdv⟩ := made
  refine Calls.spliced_nil ⟨I1.kIn, ?_⟩
  have want := h H1 f eN1 T1
  have rc : codeAny (model X.prog X.w) X.A (.call (.ref g) ⟨[.ref f], []⟩) (CR (L2.CX X.prog X.w) X.stack X.prog X.w H1 s1 Q EN) s1 := by
    refine LamX.run_ofS (N := Ng) (ps := [ask]) (us := [.ref f]) (vs := [.ref f]) lk D.cd D.sc hr I1.env0 (hb s1 [.ref f] I1.kIn rfl) (.cons rfl .nil) rfl fun hr1 => ?_
    have nd := D.sc.nd
    have fin0 := hrest s1 H1 rfl hr1
    have lenS : (L2.start Ng [V.ref f]).length = Ng.length := by
      unfold L2.start
      have : 0 < Ng.length := (List.getElem?_eq_some_iff.mp D.n0).1
      simp
      omega
    have s0 : (L2.start Ng [V.ref f])[0]? = some (some (V.ref f)) := rfl
    have jlt : jc < Ng.length := (List.getElem?_eq_some_iff.mp D.nc).1
    have elt : je < Ng.length := (List.getElem?_eq_some_iff.mp D.ne).1
    let C := CH X Ng x sg g cdg s1 H1
    let wB : WX → TS := fun W D σ' H' => ∃ Ec : XK, (∀ cls d σ2 H2, σ2.length = Ng.length → Ec cls d H2 → W cls d σ2 H2) ∧ σ'[0]? = some (some (.ref f)) ∧ H' c' = some (LamX.CodeO c' (X.env.qual ++ "<lambda>")) ∧ t Ec σ H' fun _ H2 => D.nx σ' H2
    have try_ := ps_hold (X := C) (x := xE) (n := eN) (c := .ref CE) (i := je) (body := [.Expr (.Call (.Name ask p4) [] [] p5) p6]) (suite := []) (b1 := .Assign [.Name cN p8] (.Name eN p9) q1) (np := p7) (pos := q3) (pos' := q2)
      (tb := wB) (ts := fun _ _ _ => tAsg (tVar je) (gName jc)) rfl rfl rfl nd D.ne D.le ⟨D.gE, d6, .inl D.mE⟩
      (fun W pn xe tk _ => ⟨fun pins' s' σ' H' D' I' h' => by
        obtain ⟨Ec, hW, k1, k2, k3⟩ := h'
        have call := lam_call (CXg := L2.CX X.prog X.w) (Eg := EN) (Ng := Ng) (qg := x) (sg := sg) (g := g) (cdg := cdg) (i := 0) (a := ask) (pn := pn) (xe := xe) (W := W) (E := Ec) (tb := t Ec) (p1 := p4) (p2 := p5) I1 L hf hfn hfr hdv hdl hbind tk hW hr1 (fun A outer s H hA hr2 => hbody A outer s H Ec f c' hA hr2) D.n0 (.inl D.l0) d2 d3
        exact (pss_one (ps_expr (pos := p6) call)).run pins' s' σ' H' D' I' ⟨k1, k2, k3⟩⟩)
      (fun a oe cls d pn _ _ => pss_one (ps_set (X := C.suite a ((a, oe) :: pn)) (i := jc) nd D.nc (.inl D.lc) (pe_var (X := C.suite a ((a, oe) :: pn)) (i := je) D.ne (.inl D.le) d4 d5) (by rfl) (.inr D.lc)))
    refine ⟨_, pss_cons (ps_set (X := C) (i := jc) nd D.nc (.inl D.lc) pe_non (by rfl) (.inr D.lc)) (pss_cons try_ fin0), ?_⟩
    show wB _ _ ((L2.start Ng [V.ref f]).set jc (some .non)) H1
    refine ⟨_, fun cls d σ2 H2 hl h2 => h2 σ2 hl, ?_, hco, want⟩
    rw [List.getElem?_set_ne D.cz]
    exact s0
  refine wpAny_call (codeAny_mono rc fun r s2 hq => ?_)
  cases r with
  | error e =>
    obtain ⟨_, _, _, _, _, _, _, _, _, _, _, _, no⟩ := hq
    exact no.elim
  | ok fl =>
    cases fl with
    | ret u => exact I1.after hq
    | next => exact hq.elim
    | brk => exact hq.elim
    | cont => exact hq.elim
end
end G


set_option maxRecDepth 100000
set_option maxHeartbeats 4000000
/-! Kern31: the same over data. -/
namespace G
open PySem PySem.Spec PyProof.Rows L2
variable [TabT]

/-- what is captured is data from now on -/
def frz : List Nat → Env' → Env'
  | [], e => e
  | i :: is, e => frz is (match e[i]? with
    | some (.own d) => e.set i (.imm d)
    | _ => e)
/-- nothing but what is captured -/
def onlyE (caps : List Nat) (e : Env') : Env' := e.mapIdx fun i s => if i ∈ caps then (match s with
  | .imm d => .imm d
  | _ => .un) else .un
def exnD (x : Exn) : Dt := .exn x.cls (x.fs.map (·.1)) (x.fs.map (·.2))
def hEnd (e1 : Env') : Res (Fl × Env') → Res (Val × Env')
  | .ok (.rt v, _) => .ok (.imm v.d, e1)
  | .ok (.nx, _) => .ok (.imm .non, e1)
  | _ => .bad
/-- x(lambda: ..): fb, the lambda's body over what it captures; fr, what x does with what it heard; n, j: x's slots, the one that holds it -/
def dHear (cs : List Str) (n j : Nat) (caps : List Nat) (fb : DE) (fr : DS) : DE := fun env => match fb (onlyE caps (frz caps env)) with
  | .ok _ => hEnd (frz caps env) (fr ((List.replicate n Slot.un).set j (.imm .non)))
  | .err x => if x.cls ∈ cs then hEnd (frz caps env) (fr ((List.replicate n Slot.un).set j (.imm (exnD x)))) else .bad
  | .bad => .bad
section
variable {W : Wd} {EX : XK} {Fm Hb Hb' H H' : Hp} {ia : Option Addr} {env : Env'} {σ : L2.St}
theorem Agr.frz : ∀ {caps : List Nat} {Hb : Hp} {env : Env'}, Agr W Fm Hb ia env σ H → ∃ Hb', Same Hb Hb' ∧ Agr W Fm Hb' ia (G.frz caps env) σ H
  | [], Hb, env, A => ⟨Hb, Same.refl _, A⟩
  | i :: is, Hb, env, A => by
    unfold G.frz
    split
    · rename_i d hd
      obtain ⟨a, Hb1, _, s1, A1, _⟩ := A.give hd
      obtain ⟨Hb2, s2, A2⟩ := Agr.frz (caps := is) A1
      exact ⟨Hb2, s1.trans s2, A2⟩
    · exact Agr.frz A
theorem Agr.tab (A : Agr W Fm Hb ia env σ H) (e : LamX.ExtN H H') (t : LamX.Tabs TabT.T H') : Agr W Fm Hb ia env σ H' where
  bs := {
    hb := fun a o h => e a o (A.bs.hb a o h) fun ps z => A.bs.nb a ps (by rw [← z]; exact h)
    fm := fun a o h => e a o (A.bs.fm a o h) ((A.bs.nt a o h).ntbl)
    dj := A.bs.dj
    nt := A.bs.nt
    tb := t
    nb := A.bs.nb }
  len := A.len
  imm := A.imm
  own := fun i d h => by
    obtain ⟨a, g1, g2, g3, g4⟩ := A.own i d h
    exact ⟨a, g1, g2, g3, g4.move (Same.refl _) fun o ho => e a o ho (g4.ld ho).ntbl⟩
  inj := A.inj
  io := A.io
  ioh := A.ioh
theorem onlyE_get {caps : List Nat} {i : Nat} {s : Slot} (h : (onlyE caps env)[i]? = some s) : s = .un ∨ ∃ d, s = .imm d ∧ env[i]? = some (.imm d) := by
  unfold onlyE at h
  rw [List.getElem?_mapIdx] at h
  obtain ⟨s0, h1, h2⟩ := Option.map_eq_some_iff.mp h
  subst h2
  split
  · split
    · exact .inr ⟨_, rfl, h1⟩
    · exact .inl rfl
  · exact .inl rfl
theorem Agr.onlyE (A : Agr W Fm Hb ia env σ H) (s : Same Hb Hb') (b : Bse (lend Fm H env σ none) Hb' H') (caps : List Nat) : Agr W (lend Fm H env σ none) Hb' none (G.onlyE caps env) σ H' where
  bs := b
  len := by
    unfold G.onlyE
    rw [List.length_mapIdx]
    exact A.len
  imm := fun i d h => by
    rcases onlyE_get h with z | ⟨d', z, h'⟩
    · cases z
    · cases z
      obtain ⟨v, g1, g2⟩ := A.imm i d h'
      exact ⟨v, g1, RdD.mono s _ _ g2⟩
  own := fun i d h => by
    rcases h with h | h
    · rcases onlyE_get h with z | ⟨d', z, _⟩ <;> cases z
    · rcases onlyE_get h with z | ⟨d', z, _⟩ <;> cases z
  inj := fun i j d d' a h => by
    rcases h with h | h
    · rcases onlyE_get h with z | ⟨d', z, _⟩ <;> cases z
    · rcases onlyE_get h with z | ⟨d', z, _⟩ <;> cases z
  io := fun i d h => by
    rcases onlyE_get h with z | ⟨d', z, _⟩ <;> cases z
  ioh := fun a e => nomatch e
theorem solo_get {n j i : Nat} {d : Dt} {s : Slot} (h : ((List.replicate n Slot.un).set j (.imm d))[i]? = some s) : s = .un ∨ (i = j ∧ s = .imm d) := by
  rcases get_set h with ⟨rfl, e, _⟩ | ⟨_, e⟩
  · exact .inr ⟨rfl, e⟩
  · rw [List.getElem?_replicate] at e
    split at e
    · exact .inl (Option.some.inj e).symm
    · cases e
theorem agr_solo {n j : Nat} {d : Dt} {v : V} (b : Bse Fm Hb H) (hl : σ.length = n) (hv : σ[j]? = some (some v)) (r : RdD W Hb d v) : Agr W Fm Hb none ((List.replicate n Slot.un).set j (.imm d)) σ H where
  bs := b
  len := by rw [List.length_set, List.length_replicate, hl]
  imm := fun i d' h => by
    rcases solo_get h with z | ⟨rfl, z⟩
    · cases z
    · cases z
      exact ⟨v, hv, r⟩
  own := fun i d' h => by
    rcases h with h | h <;> rcases solo_get h with z | ⟨_, z⟩ <;> cases z
  inj := fun i j d d' a h => by
    rcases h with h | h <;> rcases solo_get h with z | ⟨_, z⟩ <;> cases z
  io := fun i d' h => by
    rcases solo_get h with z | ⟨_, z⟩ <;> cases z
  ioh := fun a e => nomatch e
/-- a caught exception is data -/
theorem exn_base {x : Exn} {C a : Addr} {dx : Option Addr} (b : Bse Fm Hb H) (e : ErrAt W Hb H x (.ref C) dx) (ha : H a = none) : ∃ Hb', Same Hb Hb' ∧ Bse Fm Hb' (upd H a (ExF C dx a)) ∧ RdD W Hb' (exnD x) (.ref a) := by
  have b1 : Bse Fm (upd Hb a (ExF C dx a)) (upd H a (ExF C dx a)) := b.lay ha (fun _ z => nomatch (show HO.ext _ = HO.tbl _ from z))
  have s1 : Same Hb (upd Hb a (ExF C dx a)) := same_lay (b.hb.free ha)
  obtain ⟨hm, h0 | ⟨d, fs, rfl, hd, hn, hr⟩⟩ := e
  · obtain ⟨h1, rfl⟩ := h0
    refine ⟨_, s1, b1, a, C, none, rfl, hm, upd_same, .inl ⟨?_, ?_, rfl⟩⟩
    · rw [h1]; rfl
    · rw [h1]; rfl
  · have da : d ≠ a := ne_of_none hd ha
    -- the dict joins the base
    have b2 : Bse Fm (upd (upd Hb a (ExF C (some d) a)) d (.xd fs)) (upd H a (ExF C (some d) a)) := b1.freeze (by
        cases q : Fm d with
        | none => rfl
        | some o =>
          have := b.fm d o q
          rw [hd] at this
          cases this
          exact (b.nt d _ q).elim) (by rw [upd_ne da]; exact hd) (fun _ z => nomatch z)
    have s2 : Same (upd Hb a (ExF C (some d) a)) (upd (upd Hb a (ExF C (some d) a)) d (.xd fs)) := fun c o h => by
      by_cases hc : c = d
      · rw [hc] at h ⊢
        have h2 := b1.hb d o h
        rw [upd_ne da, hd] at h2
        cases h2
        rw [upd_same]
      · rw [upd_ne hc]
        exact h
    refine ⟨_, s1.trans s2, b2, a, C, some d, rfl, hm, by rw [upd_ne da.symm, upd_same], .inr ⟨d, fs.map (·.2), rfl, ?_, ?_, RdL.mono (s1.trans s2) _ _ hr⟩⟩
    · rw [upd_same, ← hn]
      have z : (fs.map (·.1)).zip (fs.map (·.2)) = fs := by
        clear hd hn hr b2 s2
        induction fs with
        | nil => rfl
        | cons q r ih => rw [List.map_cons, List.map_cons, List.zip_cons_cons, ih]
      rw [z]
    · rw [← hn, List.length_map, List.length_map]
/-- x's end -/
theorem hEnd_ok {Q : VK} {r : Res (Fl × Env')} {e1 : Env'} {H1 : Hp} (A : Agr W Fm Hb ia e1 σ H1) (s : Same Hb Hb') (p : Post W EX Fm Hb ia σ (GE W Fm σ Q) (hEnd e1 r)) : PostS W EN (lend Fm H1 e1 σ none) Hb' none (hEnds Q) r := by
  cases r with
  | err x => exact p.elim
  | bad => exact p.elim
  | ok q =>
    obtain ⟨fl, e⟩ := q
    cases fl with
    | bk => exact p.elim
    | ct => exact p.elim
    | nx => exact fun σ' H2 Hb2 s2 A2 => p H2 Hb2 (s.trans s2) (agr_after A (s.trans s2) A2.bs) _ rfl
    | rt val =>
      intro σ' H2 Hb2 s2 A2 v hv
      obtain ⟨Hb3, s3, A3, r3⟩ := hv.use A2
      have s4 := (s.trans s2).trans s3
      exact p H2 Hb3 s4 (agr_after A s4 A3.bs) v r3
theorem start_one {Ng : List Str} {f : Addr} {j : Nat} (h0 : 0 < Ng.length) : (L2.start Ng [V.ref f]).length = Ng.length := by
  unfold L2.start
  rw [List.length_append, List.length_map, List.length_replicate, List.length_singleton]
  omega
theorem rd_hear {K : PySem.W.Frag} {CE : Addr} {Ng : List Str} {jc je : Nat} {cs : List Str} {caps : List Nat} {fb : DE} {fr : DS} (hK : W.K = K) (hcs : ∀ c ∈ cs, ∃ C, W.mg c = some (.ref C) ∧ PySem.W.exmOne K (.ref C) (.ref CE) = some true)
    (hj : jc < Ng.length) (he : je < Ng.length) (hne : jc ≠ je) : ∀ σ H Q, rdE W EX (dHear cs Ng.length jc caps fb fr) σ H Q → tHear K CE Ng jc je (fun E => rdE W E fb) (rdS W EN fr) σ H Q := fun σ H Q ⟨Fm, Hb, ia, env, A, p⟩ => by
  refine ⟨A.bs.tb, fun H1 f eN T1 => ?_⟩
  obtain ⟨Hb1, s1, A1⟩ := (A.tab eN T1).frz (caps := caps)
  have p1 := Post.mono s1 p
  have lenS := start_one (Ng := Ng) (f := f) (j := jc) (by omega)
  refine ⟨lend Fm H1 (frz caps env) σ none, Hb1, none, onlyE caps (frz caps env), A1.onlyE (Same.refl _) (lend_bse A1 none) caps, ?_⟩
  unfold dHear at p1
  cases hf : fb (onlyE caps (frz caps env)) with
  | bad => rw [hf] at p1; exact p1.elim
  | ok q =>
    obtain ⟨val, e2⟩ := q
    rw [hf] at p1
    intro H2 Hb2 s2 A2 v hv
    exact ⟨_, Hb2, none, _, agr_solo (d := .non) (v := .non) A2.bs (by rw [List.length_set]; exact lenS) (List.getElem?_set_self (by rw [lenS]; exact hj)) (show RdD W Hb2 .non V.non from rfl), hEnd_ok A1 s2 p1⟩
  | err x =>
    rw [hf] at p1
    dsimp only at p1
    split at p1
    · rename_i hx
      intro c dx H2 Hb2 s2 b2 er σ2 hl hl2
      obtain ⟨C, m1, m2⟩ := hcs x.cls hx
      have m3 := er.1
      rw [m1] at m3
      cases m3
      refine ⟨C, rfl, m2, fun a ha => ⟨.ref a, List.getElem?_set_self (by rw [hl]; exact he), fun _ => ?_⟩⟩
      obtain ⟨Hb3, s3, b3, r3⟩ := exn_base b2 er ha
      refine ⟨_, Hb3, none, _, agr_solo (v := .ref a) b3 (by rw [List.length_set, List.length_set, List.length_set]; exact hl) ?_ r3, hEnd_ok A1 (s2.trans s3) p1⟩
      rw [List.getElem?_set_ne hne.symm]
      exact List.getElem?_set_self (by rw [List.length_set, hl]; exact hj)
    · exact p1.elim
end
section
variable {X : Cx} {EX : XK} {x ask cN eN xE : Str} {jc je : Nat} {Ng : List Str} {sg : Scope} {rest : List Stmt} {g : Addr} {cdg : Value} {CE : Addr}
/-- x(lambda: body) -/
theorem se_hear {c P : Addr} {k n : Nat} {ps : Arguments} {body : Expr} {sl : Scope} {fb : DE} {fr : DS} {cs : List Str} {caps : List Nat} {p lpos pos : Pos} (D : HearD X.K X.mg x ask cN eN xE jc je Ng sg rest g cdg CE) (hn : Ng.length = n) (hcs : ∀ c ∈ cs, ∃ C, X.mg c = some (.ref C) ∧ PySem.W.exmOne X.K (.ref C) (.ref CE) = some true) (hg : Gl X x)
    (TB : LamX.TabB X.base X.mg c P) (hcode : X.env.code = .ref c) (hmT : (P, X.env.qual ++ "<lambda>") ∈ TabT.T) (hu : ∀ p ∈ TabT.T, p.1 = P → p.2 = X.env.qual ++ "<lambda>") (hr : Room (k + 2) X.A) (L : LamD X.env.scope sl X.N) (hps : Plain X ps) (hbind : BindL ps body sl)
    (hbody : ∀ (A : Around) (outer : List Env) (s : Shared) (H : Hp) (E : XK) (f c' : Addr), A.guards = X.A.guards → Room k (A.deeper (LamX.lamEnv X sl s.heap.objs.size f c')) → SE (LamX.lamCx X A outer s H E sl f c') E body fb)
    (hrest : ∀ (s : Shared) (H : Hp), (CH X Ng x sg g cdg s H).A.guards = X.A.guards → Room (k + 1) (CH X Ng x sg g cdg s H).A → SSs (CH X Ng x sg g cdg s H) EN rest fr) :
    SE X EX (.Call (.Name x p) [.Lambda ps body sl lpos] [] pos) (dHear cs n jc caps fb fr) := by
  subst hn
  exact pe_mono (pe_hear (t := fun E => rdE (wd X) E fb) (tr := rdS (wd X) EN fr) D hg TB hcode hmT hu hr L hps hbind hbody hrest)
    (rd_hear (W := wd X) rfl hcs (List.getElem?_eq_some_iff.mp D.nc).1 (List.getElem?_eq_some_iff.mp D.ne).1 D.ce)
end
end G


set_option maxRecDepth 100000
set_option maxHeartbeats 4000000
/-! Kern32: what a law's walk needs beside: defs that make lambdas, classes of exceptions out of the written part, {1: 2, ..}[i]. -/
namespace G
open PySem PySem.Spec PyProof.Rows L2
variable [TabT]

/-! ### {k: v, ..}[i], ints -/
def dixD (kvs : List (Key × V)) : Dt → Res Val
  | .int i => match valV (mergeK [] kvs) (.inl i) with
    | some (.int v) => .ok (.imm (.int v))
    | _ => .bad
  | _ => .bad
theorem tPairs_int {σ : L2.St} {H : Hp} {Q : List (V × V) → Hp → Prop} : ∀ {kv : List (Int × Int)} {ps : List (V × V)}, Q (ps ++ kv.map fun p => (V.int p.1, V.int p.2)) H → tPairs (kv.map fun p => (tC (.int p.1), tC (.int p.2))) σ H (fun qs H' => Q (ps ++ qs) H')
  | [], ps, h => h
  | p :: kv, ps, h => tPairs_int (kv := kv) (ps := ps ++ [(V.int p.1, V.int p.2)]) (Q := Q) (by rw [List.append_assoc]; exact h) |> fun z => by
    have e : ∀ qs : List (V × V), (ps ++ [(V.int p.1, V.int p.2)]) ++ qs = ps ++ ((V.int p.1, V.int p.2) :: qs) := fun qs => by rw [List.append_assoc]; rfl
    simp only [e] at z
    exact z
theorem se_dix {X : Cx} {EX : XK} {keys : List (Option Expr)} {vals : List Expr} {kv : List (Int × Int)} {i : Expr} {fi : DE} {p pos : Pos} (hu : X.A.units + 1 < cLine) (hp : PPs X p keys vals (kv.map fun q => (tC (.int q.1), tC (.int q.2)))) (hall : keys.all (·.isSome) = true) (hl : keys.length = vals.length) (h0 : keys ≠ [])
    (h15 : keys.length ≤ 15) (hk : kv.length ≤ 15) (hi : SE X EX i fi) (hs : NoSl i) : SE X EX (.Subscript (.Dict keys vals p) i pos) (dUn (dixD (kv.map fun q => (.inl q.1, .int q.2))) fi) :=
  pe_mono (pe_dget hu (pe_disp hp hall hl h0 h15) hi hs) fun σ H Q ⟨Fm, Hb, ia, env, A, pz⟩ => fun q hq => by
    have goal : ∀ M : List (Key × V), M = mergeK [] (kv.map fun q => (.inl q.1, .int q.2)) → rdE (wd X) EX fi σ (upd H q (.dK M)) fun y H2 => ∃ a v, V.ref q = .ref a ∧ DGet H2 a y (some v) ∧ Q v H2 := fun M hM => by
      obtain ⟨h1, h2⟩ := A.bs.free hq
      have A0 : Agr (wd X) (upd Fm q (.dK M)) Hb ia env σ (upd H q (.dK M)) := Agr.alien (A.put h1 h2 (Wri.new hq) (A.apart hq) (o := .dK M)) trivial h1 upd_same (A.apart hq)
      refine ⟨_, Hb, ia, env, A0, Post.unal h2 pz fun vi e1 H1 Hb1 s1 A1 p1 => GE.use (fun d Hb2 y ed s2 A2 r2 => ?_) A1⟩
      have p2 := Post.mono s2 p1
      dsimp only at p2
      rw [ed] at p2
      unfold dixD at p2
      split at p2
      · rename_i j
        split at p2
        · rename_i v hv
          obtain rfl : y = .int j := r2
          have at_ : H1 q = some (.dK M) := A2.bs.fm q _ upd_same
          refine ⟨q, .int v, rfl, ?_, p2 _ Hb2 (Same.refl _) (A2.unalien h2) _ rfl⟩
          rw [← hv, ← hM]
          exact DGet.k (k := .inl j) at_
        · exact p2.elim
      · exact p2.elim
    have e2 : ∀ M : HO, upd (upd H q (.dK [])) q M = upd H q M := fun M => by
      funext b
      by_cases hb : b = q
      · rw [hb, upd_same, upd_same]
      · rw [upd_ne hb, upd_ne hb, upd_ne hb]
    have t := tPairs_int (σ := σ) (H := upd H q (.dK [])) (kv := kv) (ps := []) (Q := fun ps H2 => H2 q = some (.dK []) ∧ ∃ kvs : List (Key × V), ps = kvs.map (fun kv => (kV kv.1, kv.2)) ∧ kvs.length ≤ 15 ∧ rdE (wd X) EX fi σ (upd H2 q (.dK (mergeK [] kvs))) fun y H2 => ∃ a v, V.ref q = .ref a ∧ DGet H2 a y (some v) ∧ Q v H2)
      ⟨upd_same, kv.map fun q => (.inl q.1, .int q.2), by rw [List.map_map]; rfl, by rw [List.length_map]; exact hk, by rw [e2]; exact goal _ rfl⟩
    exact t

/-! ### defs that make lambdas -/
abbrev qL (x : Str) (sc : Scope) : Str := (envOfC x sc 0 0 .none).qual ++ "<lambda>"
/-- what is known of a def that makes lambdas: its code object, its table -/
def LamK (mg : Str → Option Value) (base : Heap) (fd : FuncData) (q : Str) : Prop := ∃ c P, LamX.TabB base mg c P ∧ fd.code = .ref c ∧ (P, q) ∈ TabT.T ∧ ∀ p ∈ TabT.T, p.1 = P → p.2 = q
section
variable {P : Program} {w : World} {K : PySem.W.Frag} {mg : Str → Option Value} {base : Heap} {x qual : Str} {st : Stmt} {f : Addr} {fd : FuncData} {N ps : List Str} {k : Nat}
theorem fn_textC {io : Bool} {fb : DS} {cdv : Value} (F : Fun K x qual st f fd) (S : FnScope N ps (defScope st)) (hc : fd.code = cdv)
    (hb : ∀ (A : Around) (outer : List Env) (s : Shared) (H : Hp) (E : XK), (A.deeper (envOfC qual (defScope st) s.heap.objs.size f cdv)).guards = some [] → Room k (A.deeper (envOfC qual (defScope st) s.heap.objs.size f cdv)) → SSs (CB P w K mg base N qual (defScope st) f cdv A outer s H E) E (defBody st) fb) :
    FnG P w K mg base (k + 1) f fd ps (spF ⟨K, mg⟩ ps.length io (runF io N.length fb)) := by
  obtain ⟨oc, od, kV, doc, pm, an, cdv', ct, osl, rfl, lk, hcd⟩ := F.ex
  obtain rfl : cdv' = cdv := hc
  exact fn_body lk hcd S fun A outer s H E hg hr => hb A outer s H E hg hr
theorem pass_lam {X : Cx} {A : Around} {outer : List Env} {s : Shared} {H : Hp} {E : XK} {sl : Scope} {f c' : Addr} : Passes (L2.CX (LamX.lamCx X A outer s H E sl f c').prog (LamX.lamCx X A outer s H E sl f c').w) (LamX.lamCx X A outer s H E sl f c') E := passes_call (takes_of rfl rfl rfl rfl) fun _ _ _ _ h => h
/-- the code object of a def of the top -/
theorem lam_tab {h : Heap} {q : Program} {c Pt : Addr} {oc e : Value} {od dd : Option Addr} {osl sl : Array (Option Value)} {vs : Array Value} (T : TabsK q K h) (nt : PySem.W.noTabs K = true) (inK : K.In h) (hp : PySem.W.nsIn K mainGlobals x = some (some (.ref f))) (l : K.lookup f = some ⟨oc, od, .func fd, osl⟩) (hc : fd.code = .ref c)
    (lc : K.lookup c = some ⟨e, dd, .fields vs, sl⟩) (hv : vs[11]? = some (.ref Pt)) (hr : ((recsOf q).any fun e => e.name == x) = true) : PySem.W.CodeHd h c Pt ∧ h.get? Pt = some { cls := .none, data := .fields #[] } ∧ K.lookup Pt = none := by
  have ht : PySem.W.tabIn K x = some (c, Pt) := by
    unfold PySem.W.tabIn
    simp only [hp, l, hc, lc, hv]
  obtain ⟨k1, k2⟩ := T x c Pt hr ht
  refine ⟨k1, k2, ?_⟩
  cases hl : K.lookup Pt with
  | none => rfl
  | some o =>
    have e1 := inK _ _ hl
    rw [k2] at e1
    cases e1
    have h2 := List.all_eq_true.mp nt (Pt, _) (PySem.W.mem_of_lookupK hl)
    exact nomatch (show false = true from h2)
end

/-! ### classes of exceptions -/
theorem kit_ref {K : PySem.W.Frag} {C : Addr} {t : Value} {b : Bool} (hc : PySem.W.hasDictIn K C = true) (ht : PySem.W.typeIn K (.ref C) = some (.type "type")) (hs : PySem.W.subIn K t (.ref C) = some b) (hb : b = false → t ≠ .ref C) : PySem.W.kitOne K t (.ref C) = some b := by
  obtain ⟨cd, hcd, _⟩ := PySem.W.any_some hc
  unfold PySem.W.kitOne
  split
  · rename_i he
    have e := beq_iff_eq.mp he
    cases b with
    | true => rfl
    | false => exact absurd e (hb rfl)
  · show (if ((PySem.W.clsIn K C).isSome && PySem.W.typeIn K (.ref C) == some (.type "type")) = true then PySem.W.subIn K t (.ref C) else none) = some b
    have e : ((PySem.W.clsIn K C).isSome && PySem.W.typeIn K (.ref C) == some (.type "type")) = true := by rw [hcd, ht] <;> rfl
    rw [if_pos e]
    exact hs
/-- what is wanted of a class that is raised -/
structure InC (K : PySem.W.Frag) (C : Addr) (ks : List Str) (qual : Str) (st : Stmt) : Prop where
  o : OexC K C
  f : ∀ k ∈ ks, PySem.W.findIn K (.ref C) k = some none
  i : ∃ fI fd, PySem.W.findIn K (.ref C) "__init__" = some (some (.ref fI)) ∧ PySem.W.typeIn K (.ref fI) = some (.type "function") ∧ L2.Fun K "__init__" qual st fI fd
theorem raC_one {P : Program} {w : World} {K : PySem.W.Frag} {mg : Str → Option Value} {base : Heap} {c qual k m : Str} {C : Addr} {st : Stmt} (hm : mg c = some (.ref C)) (I : InC K C [k] qual st) (S : FnScope ["self", k] ["self", k] (defScope st))
    (hb : ∀ (fI : Addr) (cdv : Value) (A : Around) (outer : List Env) (s : Shared) (H : Hp) (E : XK), PSs (cxOf L2.CX0 P w K mg base ["self", k] qual (defScope st) fI cdv A outer s H E).nox (defBody st) (tSeq (tDrop (tVeI K (tCons (tVar 0) (tCons (tC (.str m)) tNil)))) (tOst K k (tVar 0) (tVar 1))))
    (bn : ∀ (kV doc pm : Value) (an : Option Addr) (cdv ct : Value) (us : List Value), us.length = (["self", k] : List Str).length → bindArgs (PySem.W.fnOf "__init__" qual (defArgs st) (defBody st) (defScope st) .none kV doc pm an cdv ct) ⟨us, []⟩ = pure ((["self", k] : List Str).zip us)) : RaC P w K mg base c [k] := by
  obtain ⟨fI, fd, h1, h2, F⟩ := I.i
  exact ⟨C, fI, fd, hm, I.o, I.f, h1, h2, init_one F S fun cdv A outer s H E => hb fI cdv A outer s H E, F.binds bn⟩
theorem raC_two {P : Program} {w : World} {K : PySem.W.Frag} {mg : Str → Option Value} {base : Heap} {c qual k l m : Str} {C : Addr} {st : Stmt} (hm : mg c = some (.ref C)) (I : InC K C [k, l] qual st) (S : FnScope ["self", k, l] ["self", k, l] (defScope st))
    (hb : ∀ (fI : Addr) (cdv : Value) (A : Around) (outer : List Env) (s : Shared) (H : Hp) (E : XK), PSs (cxOf L2.CX0 P w K mg base ["self", k, l] qual (defScope st) fI cdv A outer s H E).nox (defBody st) (tSeq (tDrop (tVeI K (tCons (tVar 0) (tCons (tC (.str m)) tNil)))) (tSeq (tOst K k (tVar 0) (tVar 1)) (tOst K l (tVar 0) (tVar 2)))))
    (bn : ∀ (kV doc pm : Value) (an : Option Addr) (cdv ct : Value) (us : List Value), us.length = (["self", k, l] : List Str).length → bindArgs (PySem.W.fnOf "__init__" qual (defArgs st) (defBody st) (defScope st) .none kV doc pm an cdv ct) ⟨us, []⟩ = pure ((["self", k, l] : List Str).zip us)) : RaC P w K mg base c [k, l] := by
  obtain ⟨fI, fd, h1, h2, F⟩ := I.i
  exact ⟨C, fI, fd, hm, I.o, I.f, h1, h2, init_two F S fun cdv A outer s H E => hb fI cdv A outer s H E, F.binds bn⟩
end G


set_option maxRecDepth 100000
set_option maxHeartbeats 4000000
set_option exponentiation.threshold 30000
namespace G
open PySem PySem.Spec PyProof.Rows L2
variable [TabT]
def topS (i : Nat) : Stmt := PySem.Challenge.pw_hindprice_k73_even_purses_refused.main.body.getD i (.Pass ⟨0, 0, 0, 0⟩)
def forBody : Stmt → List Stmt
  | .For _ _ b _ _ => b
  | _ => []
abbrev s__law_pen : Stmt := topS 56
theorem sc__law_pen : FnScope ["_law_script", "_law_cell"] ["_law_script"] (defScope s__law_pen) := ⟨rfl, rfl, rfl, by decide +kernel, rfl, by decide +kernel, by decide +kernel⟩
def b__law_pen : DS := (sRet (dLst (aCons (dLc [1] (itSeq (dSl (dVar 0) oNone (oSome (dC (.int 60))))) (gSet 1) dYes (dCallB bInt (aCons (dVar 1) aNil))) (aCons (dC (.int 0)) (aCons (dC (.int 0)) aNil)))))
def F__law_pen : List Dt → FR := runF false 2 b__law_pen
abbrev s__law_draw : Stmt := topS 57
theorem sc__law_draw : FnScope ["_law_pen_here", "_law_many", "_law_rest", "_law_at", "_law_cell", "_law_mixed"] ["_law_pen_here", "_law_many"] (defScope s__law_draw) := ⟨rfl, rfl, rfl, by decide +kernel, rfl, by decide +kernel, by decide +kernel⟩
def b__law_draw : DS := (sSeq (sSet 2 (dCallB bInt (aCons (dIxS 0 (dC (.int 2))) aNil)))
    (sSeq (sIf (dTest (dBin opGt (dVar 2) (dC (.int 0)))) (sSeq (sPut 0 (dC (.int 2)) (dBin opFDiv (dVar 2) (dVar 1)))
    (sRet (dBin opMod (dVar 2) (dVar 1)))) sNext)
    (sSeq (sIf (dTest (dBin (eqS false) (dIxS 0 (dC (.int 0))) (dLst aNil))) (sRet (dC (.int 0))) sNext)
    (sSeq (sSet 3 (dIxS 0 (dC (.int 1))))
    (sSeq (sPut 0 (dC (.int 1)) (dBin opAdd (dVar 3) (dC (.int 1))))
    (sSeq (sSet 4 (dBin opIx (dIxS 0 (dC (.int 0))) (dBin opMod (dCallB bInt (aCons (dVar 3) aNil)) (dCallB bLen (aCons (dIxS 0 (dC (.int 0))) aNil)))))
    (sSeq (sIf (tAndD (dTest (dBin opLt (dVar 3) (dCallB bLen (aCons (dIxS 0 (dC (.int 0))) aNil)))) (dTest (dBin opGe (dCallB bAbs (aCons (dVar 4) aNil)) (dBin opPow (dC (.int 10)) (dC (.int 18)))))) (sSeq (sSet 2 (dBin opAdd (dBin opMul (dC (.int 2)) (dBin opSub (dCallB bAbs (aCons (dVar 4) aNil)) (dBin opPow (dC (.int 10)) (dC (.int 18))))) (dCallB bInt (aCons (dBin opLt (dVar 4) (dC (.int 0))) aNil))))
    (sSeq (sPut 0 (dC (.int 2)) (dBin opFDiv (dVar 2) (dVar 1)))
    (sRet (dBin opMod (dVar 2) (dVar 1))))) sNext)
    (sSeq (sSet 5 (dBin opMod (dCallB bInt (aCons (dBin opPow (dBin opAdd (dBin opAdd (dBin opMod (dCallB bInt (aCons (dVar 4) aNil)) (dC (.int 2147483629))) (dBin opMul (dC (.int 52127)) (dVar 3))) (dC (.int 7103))) (dC (.int 5))) aNil)) (dC (.int 2147483543))))
    (sSeq (sSet 5 (dBin opMod (dCallB bInt (aCons (dBin opPow (dBin opAdd (dBin opAdd (dBin opMul (dVar 5) (dBin opAdd (dBin opMul (dC (.int 2)) (dVar 3)) (dC (.int 6089)))) (dBin opMul (dBin opMul (dC (.int 52127)) (dVar 3)) (dVar 3))) (dC (.int 7103))) (dC (.int 3))) aNil)) (dC (.int 2147483587))))
    (sRet (dBin opMod (dCallB bInt (aCons (dBin opFDiv (dVar 5) (dC (.int 64))) aNil)) (dVar 1))))))))))))
def F__law_draw : List Dt → FR := runF true 6 b__law_draw
abbrev s__law_one_of : Stmt := topS 58
theorem sc__law_one_of : FnScope ["_law_pen_here", "_law_some"] ["_law_pen_here", "_law_some"] (defScope s__law_one_of) := ⟨rfl, rfl, rfl, by decide +kernel, rfl, by decide +kernel, by decide +kernel⟩
def b__law_one_of : DS := (sRet (dIxS 1 (dCallIo 0 2 F__law_draw (aCons (dCallB bLen (aCons (dVar 1) aNil)) aNil))))
def F__law_one_of : List Dt → FR := runF true 2 b__law_one_of
abbrev s__law_heard : Stmt := topS 59
theorem sc__law_heard : FnScope ["_law_ask", "_law_caught", "error", "_law_kinds", "_law_words", "_law_word", "_law_is_so"] ["_law_ask"] (defScope s__law_heard) := ⟨rfl, rfl, rfl, by decide +kernel, rfl, by decide +kernel, by decide +kernel⟩
def b__law_heard : DS := (sSeq (sIf (dTru (dUn (isoD [("BadNumber", false), ("BadMarket", false), ("TooMany", true), ("BadMix", false)]) (dVar 1))) (sRet (dTup (aCons (dC (.str "many")) (aCons (dUn (fldD ["TooMany"] "what") (dVar 1)) (aCons (dUn (fldD ["TooMany"] "most") (dVar 1)) aNil))))) sNext)
    (sSeq (sSet 3 (dLst (aCons (dTup (aCons (dC (.str "number")) (aCons (dUn (isoD [("BadNumber", true), ("BadMarket", false), ("TooMany", false), ("BadMix", false)]) (dVar 1)) aNil))) (aCons (dTup (aCons (dC (.str "market")) (aCons (dUn (isoD [("BadNumber", false), ("BadMarket", true), ("TooMany", false), ("BadMix", false)]) (dVar 1)) aNil))) (aCons (dTup (aCons (dC (.str "mix")) (aCons (dUn (isoD [("BadNumber", false), ("BadMarket", false), ("TooMany", false), ("BadMix", true)]) (dVar 1)) aNil))) aNil)))))
    (sSeq (sSet 4 (dLc [5, 6] (itSeq (dVar 3)) (gTupD 2 (gsCons (gSet 5) (gsCons (gSet 6) gsNil))) (dTru (dVar 6)) (dVar 5)))
    (sSeq (sIf (dTest (dBin (eqS false) (dCallB bLen (aCons (dVar 4) aNil)) (dC (.int 1)))) (sRet (dTup (aCons (dIxS 4 (dC (.int 0))) (aCons (dUn (fldD ["BadNumber", "BadMarket", "BadMix"] "part") (dVar 1)) aNil)))) sNext)
    (sRet (dIf (dTest (dBin opIs (dVar 1) (dC .non))) (dC .non) (dTup (aCons (dC (.str "other")) (aCons (dC .non) aNil)))))))))
abbrev s_is_integer : Stmt := topS 9
theorem sc_is_integer : FnScope ["value"] ["value"] (defScope s_is_integer) := ⟨rfl, rfl, rfl, by decide +kernel, rfl, by decide +kernel, by decide +kernel⟩
def b_is_integer : DS := (sRet (dAnd (dUn (isiD "int") (dVar 0)) (dNot (dUn (isiD "bool") (dVar 0)))))
def F_is_integer : List Dt → FR := runF false 1 b_is_integer
abbrev s_is_within : Stmt := topS 10
theorem sc_is_within : FnScope ["value", "least", "most"] ["value", "least", "most"] (defScope s_is_within) := ⟨rfl, rfl, rfl, by decide +kernel, rfl, by decide +kernel, by decide +kernel⟩
def b_is_within : DS := (sSeq (sIf (tNotD (dTru (dCall F_is_integer ⟨1, [], [.pos 0]⟩ (aCons (dVar 0) aNil) aNil))) (sRet (dC (.bl false))) sNext)
    (sRet (dAnd (dOr (dBin opIs (dVar 1) (dC .non)) (dBin opLe (dVar 1) (dVar 0))) (dOr (dBin opIs (dVar 2) (dC .non)) (dBin opLe (dVar 0) (dVar 2))))))
def F_is_within : List Dt → FR := runF false 3 b_is_within
abbrev s_need_integer : Stmt := topS 22
theorem sc_need_integer : FnScope ["value", "part", "least", "most"] ["value", "part", "least", "most"] (defScope s_need_integer) := ⟨rfl, rfl, rfl, by decide +kernel, rfl, by decide +kernel, by decide +kernel⟩
def b_need_integer : DS := (sIf (tNotD (dTru (dCall F_is_within ⟨3, [], [.pos 0, .pos 1, .pos 2]⟩ (aCons (dVar 0) (aCons (dVar 2) (aCons (dVar 3) aNil))) aNil))) (sRaise "BadNumber" ["part"] (aCons (dVar 1) aNil)) sNext)
def F_need_integer : List Dt → FR := runF false 4 b_need_integer
abbrev s_need_goods : Stmt := topS 23
theorem sc_need_goods : FnScope ["value"] ["value"] (defScope s_need_goods) := ⟨rfl, rfl, rfl, by decide +kernel, rfl, by decide +kernel, by decide +kernel⟩
def b_need_goods : DS := (sExpr (dCall F_need_integer ⟨4, [], [.pos 0, .pos 1, .pos 2, .pos 3]⟩ (aCons (dVar 0) (aCons (dC (.str "goods")) (aCons (dC (.int 1)) (aCons (dC (.int 5)) aNil)))) aNil))
def F_need_goods : List Dt → FR := runF false 1 b_need_goods
abbrev s_is_list : Stmt := topS 11
theorem sc_is_list : FnScope ["value"] ["value"] (defScope s_is_list) := ⟨rfl, rfl, rfl, by decide +kernel, rfl, by decide +kernel, by decide +kernel⟩
def b_is_list : DS := (sRet (dUn (isiD2 "list" "tuple") (dVar 0)))
def F_is_list : List Dt → FR := runF false 1 b_is_list
abbrev s_common : Stmt := topS 12
theorem sc_common : FnScope ["one", "other"] ["one", "other"] (defScope s_common) := ⟨rfl, rfl, rfl, by decide +kernel, rfl, by decide +kernel, by decide +kernel⟩
def b_common : DS := (sSeq (sPar 0 1 (aCons (dCallB bAbs (aCons (dVar 0) aNil)) (aCons (dCallB bAbs (aCons (dVar 1) aNil)) aNil)))
    (sSeq (sWhile (dTest (dBin opGt (dVar 1) (dC (.int 0)))) (sPar 0 1 (aCons (dVar 1) (aCons (dBin opMod (dVar 0) (dVar 1)) aNil))) fuel)
    (sRet (dMove 0))))
def F_common : List Dt → FR := runF false 2 b_common
abbrev s_is_number : Stmt := topS 13
theorem sc_is_number : FnScope ["value"] ["value"] (defScope s_is_number) := ⟨rfl, rfl, rfl, by decide +kernel, rfl, by decide +kernel, by decide +kernel⟩
def b_is_number : DS := (sSeq (sIf (dTru (dCall F_is_integer ⟨1, [], [.pos 0]⟩ (aCons (dVar 0) aNil) aNil)) (sRet (dC (.bl true))) sNext)
    (sSeq (sIf (tOrD (tNotD (dTru (dCall F_is_list ⟨1, [], [.pos 0]⟩ (aCons (dVar 0) aNil) aNil))) (tOrD (dTest (dBin (eqS true) (dCallB bLen (aCons (dVar 0) aNil)) (dC (.int 2)))) (tNotD (dTru (dCall F_is_integer ⟨1, [], [.pos 0]⟩ (aCons (dIxS 0 (dC (.int 0))) aNil) aNil))))) (sRet (dC (.bl false))) sNext)
    (sRet (dAnd (dCall F_is_within ⟨3, [], [.pos 0, .pos 1, .pos 2]⟩ (aCons (dIxS 0 (dC (.int 1))) (aCons (dC (.int 2)) (aCons (dC .non) aNil))) aNil) (dBin (eqS false) (dCall F_common ⟨2, [], [.pos 0, .pos 1]⟩ (aCons (dIxS 0 (dC (.int 0))) (aCons (dIxS 0 (dC (.int 1))) aNil)) aNil) (dC (.int 1)))))))
def F_is_number : List Dt → FR := runF false 1 b_is_number
abbrev s_above_in : Stmt := topS 14
theorem sc_above_in : FnScope ["number"] ["number"] (defScope s_above_in) := ⟨rfl, rfl, rfl, by decide +kernel, rfl, by decide +kernel, by decide +kernel⟩
def b_above_in : DS := (sRet (dIf (dTru (dCall F_is_list ⟨1, [], [.pos 0]⟩ (aCons (dVar 0) aNil) aNil)) (dIxS 0 (dC (.int 0))) (dMove 0)))
def F_above_in : List Dt → FR := runF false 1 b_above_in
abbrev s_is_from_0 : Stmt := topS 15
theorem sc_is_from_0 : FnScope ["value"] ["value"] (defScope s_is_from_0) := ⟨rfl, rfl, rfl, by decide +kernel, rfl, by decide +kernel, by decide +kernel⟩
def b_is_from_0 : DS := (sRet (dAnd (dCall F_is_number ⟨1, [], [.pos 0]⟩ (aCons (dVar 0) aNil) aNil) (dBin opGe (dCall F_above_in ⟨1, [], [.pos 0]⟩ (aCons (dVar 0) aNil) aNil) (dC (.int 0)))))
def F_is_from_0 : List Dt → FR := runF false 1 b_is_from_0
abbrev s_is_row : Stmt := topS 16
theorem sc_is_row : FnScope ["value", "many", "each"] ["value", "many"] (defScope s_is_row) := ⟨rfl, rfl, rfl, by decide +kernel, rfl, by decide +kernel, by decide +kernel⟩
def b_is_row : DS := (sRet (dAnd (dCall F_is_list ⟨1, [], [.pos 0]⟩ (aCons (dVar 0) aNil) aNil) (dAnd (dBin (eqS false) (dCallB bLen (aCons (dVar 0) aNil)) (dVar 1)) (dCallB bAll (aCons (dLc [2] (itSeq (dVar 0)) (gSet 2) dYes (dCall F_is_from_0 ⟨1, [], [.pos 0]⟩ (aCons (dVar 2) aNil) aNil)) aNil)))))
def F_is_row : List Dt → FR := runF false 3 b_is_row
abbrev s_is_market_of : Stmt := topS 19
theorem sc_is_market_of : FnScope ["value", "goods", "day"] ["value", "goods"] (defScope s_is_market_of) := ⟨rfl, rfl, rfl, by decide +kernel, rfl, by decide +kernel, by decide +kernel⟩
def b_is_market_of : DS := (sRet (dAnd (dCall F_is_list ⟨1, [], [.pos 0]⟩ (aCons (dVar 0) aNil) aNil) (dCallB bAll (aCons (dLc [2] (itSeq (dVar 0)) (gSet 2) dYes (dCall F_is_row ⟨2, [], [.pos 0, .pos 1]⟩ (aCons (dVar 2) (aCons (dVar 1) aNil)) aNil)) aNil))))
def F_is_market_of : List Dt → FR := runF false 3 b_is_market_of
abbrev s_kept : Stmt := topS 20
theorem sc_kept : FnScope ["number"] ["number"] (defScope s_kept) := ⟨rfl, rfl, rfl, by decide +kernel, rfl, by decide +kernel, by decide +kernel⟩
def b_kept : DS := (sRet (dIf (dTru (dUn (isiD2 "list" "tuple") (dVar 0))) (dCallB bTuple (aCons (dVar 0) aNil)) (dMove 0)))
def F_kept : List Dt → FR := runF false 1 b_kept
abbrev s_kept_row : Stmt := topS 21
theorem sc_kept_row : FnScope ["row", "each"] ["row"] (defScope s_kept_row) := ⟨rfl, rfl, rfl, by decide +kernel, rfl, by decide +kernel, by decide +kernel⟩
def b_kept_row : DS := (sRet (dCallB bTuple (aCons (dLc [1] (itSeq (dVar 0)) (gSet 1) dYes (dCall F_kept ⟨1, [], [.pos 0]⟩ (aCons (dVar 1) aNil) aNil)) aNil)))
def F_kept_row : List Dt → FR := runF false 2 b_kept_row
abbrev s_need_market : Stmt := topS 26
theorem sc_need_market : FnScope ["value", "goods", "part", "day"] ["value", "goods", "part"] (defScope s_need_market) := ⟨rfl, rfl, rfl, by decide +kernel, rfl, by decide +kernel, by decide +kernel⟩
def b_need_market : DS := (sSeq (sIf (tNotD (dTru (dCall F_is_market_of ⟨2, [], [.pos 0, .pos 1]⟩ (aCons (dVar 0) (aCons (dVar 1) aNil)) aNil))) (sRaise "BadMarket" ["part"] (aCons (dVar 2) aNil)) sNext)
    (sRet (dCallB bTuple (aCons (dLc [3] (itSeq (dVar 0)) (gSet 3) dYes (dCall F_kept_row ⟨1, [], [.pos 0]⟩ (aCons (dVar 3) aNil) aNil)) aNil))))
def F_need_market : List Dt → FR := runF false 4 b_need_market
abbrev s_choose_in : Stmt := topS 39
theorem sc_choose_in : FnScope ["many", "some", "found", "turn"] ["many", "some"] (defScope s_choose_in) := ⟨rfl, rfl, rfl, by decide +kernel, rfl, by decide +kernel, by decide +kernel⟩
def b_choose_in : DS := (sSeq (sSet 2 (dC (.int 1)))
    (sSeq (sFor (itRng1 (aCons (dVar 1) aNil)) (gSet 3) (sSet 2 (dBin opFDiv (dBin opMul (dVar 2) (dBin opSub (dVar 0) (dVar 3))) (dBin opAdd (dVar 3) (dC (.int 1))))))
    (sRet (dMove 2))))
def F_choose_in : List Dt → FR := runF false 4 b_choose_in
abbrev s_factor_in : Stmt := topS 45
theorem sc_factor_in : FnScope ["goods", "days"] ["goods", "days"] (defScope s_factor_in) := ⟨rfl, rfl, rfl, by decide +kernel, rfl, by decide +kernel, by decide +kernel⟩
def b_factor_in : DS := (sRet (dCall F_choose_in ⟨2, [], [.pos 0, .pos 1]⟩ (aCons (dBin opSub (dBin opAdd (dVar 1) (dVar 0)) (dC (.int 1))) (aCons (dBin opSub (dVar 0) (dC (.int 1))) aNil)) aNil))
def F_factor_in : List Dt → FR := runF false 2 b_factor_in
abbrev s_need_few : Stmt := topS 49
theorem sc_need_few : FnScope ["goods", "market"] ["goods", "market"] (defScope s_need_few) := ⟨rfl, rfl, rfl, by decide +kernel, rfl, by decide +kernel, by decide +kernel⟩
def b_need_few : DS := (sIf (dTest (dBin opGt (dCall F_factor_in ⟨2, [], [.pos 0, .pos 1]⟩ (aCons (dVar 0) (aCons (dCallB bLen (aCons (dVar 1) aNil)) aNil)) aNil) (dC (.int 5000)))) (sRaise "TooMany" ["what", "most"] (aCons (dC (.str "counts")) (aCons (dC (.int 5000)) aNil))) sNext)
def F_need_few : List Dt → FR := runF false 2 b_need_few
abbrev s_lowest : Stmt := topS 30
theorem sc_lowest : FnScope ["above", "under", "part"] ["above", "under"] (defScope s_lowest) := ⟨rfl, rfl, rfl, by decide +kernel, rfl, by decide +kernel, by decide +kernel⟩
def b_lowest : DS := (sSeq (sSet 2 (dCall F_common ⟨2, [], [.pos 0, .pos 1]⟩ (aCons (dVar 0) (aCons (dVar 1) aNil)) aNil))
    (sSeq (sSet 2 (dIf (dTest (dBin opLt (dVar 1) (dC (.int 0)))) (dUn opNeg (dVar 2)) (dMove 2)))
    (sSeq (sPar 0 1 (aCons (dBin opFDiv (dVar 0) (dVar 2)) (aCons (dBin opFDiv (dVar 1) (dVar 2)) aNil)))
    (sRet (dIf (dTest (dBin (eqS false) (dVar 1) (dC (.int 1)))) (dMove 0) (dTup (aCons (dVar 0) (aCons (dVar 1) aNil))))))))
def F_lowest : List Dt → FR := runF false 3 b_lowest
abbrev s_halves : Stmt := topS 29
theorem sc_halves : FnScope ["number"] ["number"] (defScope s_halves) := ⟨rfl, rfl, rfl, by decide +kernel, rfl, by decide +kernel, by decide +kernel⟩
def b_halves : DS := (sRet (dIf (dTru (dUn (isiD "int") (dVar 0))) (dTup (aCons (dVar 0) (aCons (dC (.int 1)) aNil))) (dTup (aCons (dIxS 0 (dC (.int 0))) (aCons (dIxS 0 (dC (.int 1))) aNil)))))
def F_halves : List Dt → FR := runF false 1 b_halves
abbrev s_added : Stmt := topS 31
theorem sc_added : FnScope ["one", "other", "above", "under", "its", "below_it"] ["one", "other"] (defScope s_added) := ⟨rfl, rfl, rfl, by decide +kernel, rfl, by decide +kernel, by decide +kernel⟩
def b_added : DS := (sSeq (sAsg (gTupD 2 (gsCons (gTupD 2 (gsCons (gSet 2) (gsCons (gSet 3) gsNil))) (gsCons (gTupD 2 (gsCons (gSet 4) (gsCons (gSet 5) gsNil))) gsNil))) (dTup (aCons (dCall F_halves ⟨1, [], [.pos 0]⟩ (aCons (dVar 0) aNil) aNil) (aCons (dCall F_halves ⟨1, [], [.pos 0]⟩ (aCons (dVar 1) aNil) aNil) aNil))))
    (sRet (dCall F_lowest ⟨2, [], [.pos 0, .pos 1]⟩ (aCons (dBin opAdd (dBin opMul (dVar 2) (dVar 5)) (dBin opMul (dVar 4) (dVar 3))) (aCons (dBin opMul (dVar 3) (dVar 5)) aNil)) aNil)))
def F_added : List Dt → FR := runF false 6 b_added
abbrev s_total : Stmt := topS 35
theorem sc_total : FnScope ["numbers", "found", "number"] ["numbers"] (defScope s_total) := ⟨rfl, rfl, rfl, by decide +kernel, rfl, by decide +kernel, by decide +kernel⟩
def b_total : DS := (sSeq (sSet 1 (dC (.int 0)))
    (sSeq (sFor (itSeq (dVar 0)) (gSet 2) (sSet 1 (dCall F_added ⟨2, [], [.pos 0, .pos 1]⟩ (aCons (dVar 1) (aCons (dVar 2) aNil)) aNil)))
    (sRet (dMove 1))))
def F_total : List Dt → FR := runF false 3 b_total
abbrev s_product : Stmt := topS 34
theorem sc_product : FnScope ["one", "other", "above", "under", "its", "below_it"] ["one", "other"] (defScope s_product) := ⟨rfl, rfl, rfl, by decide +kernel, rfl, by decide +kernel, by decide +kernel⟩
def b_product : DS := (sSeq (sAsg (gTupD 2 (gsCons (gTupD 2 (gsCons (gSet 2) (gsCons (gSet 3) gsNil))) (gsCons (gTupD 2 (gsCons (gSet 4) (gsCons (gSet 5) gsNil))) gsNil))) (dTup (aCons (dCall F_halves ⟨1, [], [.pos 0]⟩ (aCons (dVar 0) aNil) aNil) (aCons (dCall F_halves ⟨1, [], [.pos 0]⟩ (aCons (dVar 1) aNil) aNil) aNil))))
    (sRet (dCall F_lowest ⟨2, [], [.pos 0, .pos 1]⟩ (aCons (dBin opMul (dVar 2) (dVar 4)) (aCons (dBin opMul (dVar 3) (dVar 5)) aNil)) aNil)))
def F_product : List Dt → FR := runF false 6 b_product
abbrev s_factorial : Stmt := topS 43
theorem sc_factorial : FnScope ["number", "found", "each"] ["number"] (defScope s_factorial) := ⟨rfl, rfl, rfl, by decide +kernel, rfl, by decide +kernel, by decide +kernel⟩
def b_factorial : DS := (sSeq (sSet 1 (dC (.int 1)))
    (sSeq (sFor (itRng2 (aCons (dC (.int 2)) (aCons (dBin opAdd (dVar 0) (dC (.int 1))) aNil))) (gSet 2) (sSet 1 (dBin opMul (dVar 1) (dVar 2))))
    (sRet (dMove 1))))
def F_factorial : List Dt → FR := runF false 3 b_factorial
abbrev s_weight_in : Stmt := topS 44
theorem sc_weight_in : FnScope ["counts", "above", "count"] ["counts"] (defScope s_weight_in) := ⟨rfl, rfl, rfl, by decide +kernel, rfl, by decide +kernel, by decide +kernel⟩
def b_weight_in : DS := (sSeq (sSet 1 (dCall F_factorial ⟨1, [], [.pos 0]⟩ (aCons (dBin opSub (dCallB bLen (aCons (dVar 0) aNil)) (dC (.int 1))) aNil) aNil))
    (sSeq (sFor (itSeq (dVar 0)) (gSet 2) (sSet 1 (dBin opMul (dVar 1) (dCall F_factorial ⟨1, [], [.pos 0]⟩ (aCons (dVar 2) aNil) aNil))))
    (sRet (dCall F_lowest ⟨2, [], [.pos 0, .pos 1]⟩ (aCons (dVar 1) (aCons (dCall F_factorial ⟨1, [], [.pos 0]⟩ (aCons (dBin opSub (dBin opAdd (dCallB bSum (aCons (dVar 0) aNil)) (dCallB bLen (aCons (dVar 0) aNil))) (dC (.int 1))) aNil) aNil) aNil)) aNil))))
def F_weight_in : List Dt → FR := runF false 3 b_weight_in
abbrev s_with_one : Stmt := topS 46
theorem sc_with_one : FnScope ["counts", "good"] ["counts", "good"] (defScope s_with_one) := ⟨rfl, rfl, rfl, by decide +kernel, rfl, by decide +kernel, by decide +kernel⟩
def b_with_one : DS := (sRet (dTup (aStar (dSl (dVar 0) oNone (oSome (dVar 1))) (aCons (dBin opAdd (dIxS 0 (dVar 1)) (dC (.int 1))) (aStar (dSl (dVar 0) (oSome (dBin opAdd (dVar 1) (dC (.int 1)))) oNone) aNil)))))
def F_with_one : List Dt → FR := runF false 2 b_with_one
abbrev s_grouped : Stmt := topS 47
theorem sc_grouped : FnScope ["goods", "market", "found", "day", "later", "counts", "number", "good", "key", "_"] ["goods", "market"] (defScope s_grouped) := ⟨rfl, rfl, rfl, by decide +kernel, rfl, by decide +kernel, by decide +kernel⟩
def b_grouped : DS := (sSeq (sSet 2 (dDisp1 (dCallB bTuple (aCons (dLc [9] (itRng1 (aCons (dVar 0) aNil)) (gSet 9) dYes (dC (.int 0))) aNil)) (dC (.int 1))))
    (sSeq (sFor (itSeq (dVar 1)) (gSet 3) (sSeq (sSet 4 dDNew)
    (sSeq (sFor (itItmS 2) (gTupD 2 (gsCons (gSet 5) (gsCons (gSet 6) gsNil))) (sFor (itRng1 (aCons (dVar 0) aNil)) (gSet 7) (sSeq (sSet 8 (dCall F_with_one ⟨2, [], [.pos 0, .pos 1]⟩ (aCons (dVar 5) (aCons (dVar 7) aNil)) aNil))
    (sDctPut 4 (dVar 8) (dCall F_added ⟨2, [], [.pos 0, .pos 1]⟩ (aCons (dDGet 4 (dVar 8) (dC (.int 0))) (aCons (dCall F_product ⟨2, [], [.pos 0, .pos 1]⟩ (aCons (dVar 6) (aCons (dIxS 3 (dVar 7)) aNil)) aNil) aNil)) aNil)))))
    (sSet 2 (dMove 4)))))
    (sRet (dMove 2))))
def F_grouped : List Dt → FR := runF false 10 b_grouped
abbrev s_purse_in : Stmt := topS 48
theorem sc_purse_in : FnScope ["goods", "market", "counts", "number"] ["goods", "market"] (defScope s_purse_in) := ⟨rfl, rfl, rfl, by decide +kernel, rfl, by decide +kernel, by decide +kernel⟩
def b_purse_in : DS := (sRet (dCall F_total ⟨1, [], [.pos 0]⟩ (aCons (dLc [2, 3] (itItmF (dCall F_grouped ⟨2, [], [.pos 0, .pos 1]⟩ (aCons (dVar 0) (aCons (dVar 1) aNil)) aNil)) (gTupD 2 (gsCons (gSet 2) (gsCons (gSet 3) gsNil))) dYes (dCall F_product ⟨2, [], [.pos 0, .pos 1]⟩ (aCons (dVar 3) (aCons (dCall F_weight_in ⟨1, [], [.pos 0]⟩ (aCons (dVar 2) aNil) aNil) aNil)) aNil)) aNil) aNil))
def F_purse_in : List Dt → FR := runF false 4 b_purse_in
abbrev s_even_purse : Stmt := topS 52
theorem sc_even_purse : FnScope ["goods", "market", "told"] ["goods", "market"] (defScope s_even_purse) := ⟨rfl, rfl, rfl, by decide +kernel, rfl, by decide +kernel, by decide +kernel⟩
def b_even_purse : DS := (sSeq (sExpr (dCall F_need_goods ⟨1, [], [.pos 0]⟩ (aCons (dVar 0) aNil) aNil))
    (sSeq (sSet 2 (dCall F_need_market ⟨2, [], [.pos 0, .pos 1, .cst 0 (.str "market")]⟩ (aCons (dVar 1) (aCons (dVar 0) aNil)) aNil))
    (sSeq (sExpr (dCall F_need_few ⟨2, [], [.pos 0, .pos 1]⟩ (aCons (dVar 0) (aCons (dVar 2) aNil)) aNil))
    (sRet (dCall F_purse_in ⟨2, [], [.pos 0, .pos 1]⟩ (aCons (dVar 0) (aCons (dVar 2) aNil)) aNil)))))
def F_even_purse : List Dt → FR := runF false 3 b_even_purse
abbrev s_even_amounts : Stmt := topS 53
theorem sc_even_amounts : FnScope ["goods", "market", "told", "known", "found", "good", "counts", "number"] ["goods", "market"] (defScope s_even_amounts) := ⟨rfl, rfl, rfl, by decide +kernel, rfl, by decide +kernel, by decide +kernel⟩
def b_even_amounts : DS := (sSeq (sExpr (dCall F_need_goods ⟨1, [], [.pos 0]⟩ (aCons (dVar 0) aNil) aNil))
    (sSeq (sSet 2 (dCall F_need_market ⟨2, [], [.pos 0, .pos 1, .cst 0 (.str "market")]⟩ (aCons (dVar 1) (aCons (dVar 0) aNil)) aNil))
    (sSeq (sExpr (dCall F_need_few ⟨2, [], [.pos 0, .pos 1]⟩ (aCons (dVar 0) (aCons (dVar 2) aNil)) aNil))
    (sSeq (sSet 3 (dCall F_grouped ⟨2, [], [.pos 0, .pos 1]⟩ (aCons (dVar 0) (aCons (dVar 2) aNil)) aNil))
    (sSeq (sSet 4 (dLst aNil))
    (sSeq (sFor (itRng1 (aCons (dVar 0) aNil)) (gSet 5) (sApp 4 (dCall F_total ⟨1, [], [.pos 0]⟩ (aCons (dLc [6, 7] (itItmS 3) (gTupD 2 (gsCons (gSet 6) (gsCons (gSet 7) gsNil))) dYes (dCall F_product ⟨2, [], [.pos 0, .pos 1]⟩ (aCons (dVar 7) (aCons (dCall F_weight_in ⟨1, [], [.pos 0]⟩ (aCons (dCall F_with_one ⟨2, [], [.pos 0, .pos 1]⟩ (aCons (dVar 6) (aCons (dVar 5) aNil)) aNil) aNil) aNil) aNil)) aNil)) aNil) aNil)))
    (sRet (dCallB bTuple (aCons (dVar 4) aNil)))))))))
def F_even_amounts : List Dt → FR := runF false 8 b_even_amounts
abbrev s_is_sum_1 : Stmt := topS 17
theorem sc_is_sum_1 : FnScope ["row", "above", "under", "each", "one", "other"] ["row"] (defScope s_is_sum_1) := ⟨rfl, rfl, rfl, by decide +kernel, rfl, by decide +kernel, by decide +kernel⟩
def b_is_sum_1 : DS := (sSeq (sAsg (gTupD 2 (gsCons (gSet 1) (gsCons (gSet 2) gsNil))) (dTup (aCons (dC (.int 0)) (aCons (dC (.int 1)) aNil))))
    (sSeq (sFor (itSeq (dVar 0)) (gSet 3) (sSeq (sAsg (gTupD 2 (gsCons (gSet 4) (gsCons (gSet 5) gsNil))) (dIf (dTru (dCall F_is_list ⟨1, [], [.pos 0]⟩ (aCons (dVar 3) aNil) aNil)) (dTup (aCons (dIxS 3 (dC (.int 0))) (aCons (dIxS 3 (dC (.int 1))) aNil))) (dTup (aCons (dVar 3) (aCons (dC (.int 1)) aNil)))))
    (sPar 1 2 (aCons (dBin opAdd (dBin opMul (dVar 1) (dVar 5)) (dBin opMul (dVar 4) (dVar 2))) (aCons (dBin opMul (dVar 2) (dVar 5)) aNil)))))
    (sRet (dBin (eqS false) (dVar 1) (dVar 2)))))
def F_is_sum_1 : List Dt → FR := runF false 6 b_is_sum_1
abbrev s_is_mix_of : Stmt := topS 18
theorem sc_is_mix_of : FnScope ["value", "goods"] ["value", "goods"] (defScope s_is_mix_of) := ⟨rfl, rfl, rfl, by decide +kernel, rfl, by decide +kernel, by decide +kernel⟩
def b_is_mix_of : DS := (sRet (dAnd (dCall F_is_row ⟨2, [], [.pos 0, .pos 1]⟩ (aCons (dVar 0) (aCons (dVar 1) aNil)) aNil) (dCall F_is_sum_1 ⟨1, [], [.pos 0]⟩ (aCons (dVar 0) aNil) aNil)))
def F_is_mix_of : List Dt → FR := runF false 2 b_is_mix_of
abbrev s_need_mix : Stmt := topS 27
theorem sc_need_mix : FnScope ["value", "goods", "part"] ["value", "goods", "part"] (defScope s_need_mix) := ⟨rfl, rfl, rfl, by decide +kernel, rfl, by decide +kernel, by decide +kernel⟩
def b_need_mix : DS := (sSeq (sIf (tNotD (dTru (dCall F_is_mix_of ⟨2, [], [.pos 0, .pos 1]⟩ (aCons (dVar 0) (aCons (dVar 1) aNil)) aNil))) (sRaise "BadMix" ["part"] (aCons (dVar 2) aNil)) sNext)
    (sRet (dCall F_kept_row ⟨1, [], [.pos 0]⟩ (aCons (dVar 0) aNil) aNil)))
def F_need_mix : List Dt → FR := runF false 3 b_need_mix
abbrev s_multiplied : Stmt := topS 37
theorem sc_multiplied : FnScope ["numbers", "found", "number"] ["numbers"] (defScope s_multiplied) := ⟨rfl, rfl, rfl, by decide +kernel, rfl, by decide +kernel, by decide +kernel⟩
def b_multiplied : DS := (sSeq (sSet 1 (dC (.int 1)))
    (sSeq (sFor (itSeq (dVar 0)) (gSet 2) (sSet 1 (dCall F_product ⟨2, [], [.pos 0, .pos 1]⟩ (aCons (dVar 1) (aCons (dVar 2) aNil)) aNil)))
    (sRet (dMove 1))))
def F_multiplied : List Dt → FR := runF false 3 b_multiplied
abbrev s_turned : Stmt := topS 32
theorem sc_turned : FnScope ["number", "above", "under"] ["number"] (defScope s_turned) := ⟨rfl, rfl, rfl, by decide +kernel, rfl, by decide +kernel, by decide +kernel⟩
def b_turned : DS := (sSeq (sAsg (gTupD 2 (gsCons (gSet 1) (gsCons (gSet 2) gsNil))) (dCall F_halves ⟨1, [], [.pos 0]⟩ (aCons (dVar 0) aNil) aNil))
    (sRet (dIf (dTest (dBin (eqS false) (dVar 2) (dC (.int 1)))) (dUn opNeg (dVar 1)) (dTup (aCons (dUn opNeg (dVar 1)) (aCons (dVar 2) aNil))))))
def F_turned : List Dt → FR := runF false 3 b_turned
abbrev s_less_by : Stmt := topS 33
theorem sc_less_by : FnScope ["one", "other"] ["one", "other"] (defScope s_less_by) := ⟨rfl, rfl, rfl, by decide +kernel, rfl, by decide +kernel, by decide +kernel⟩
def b_less_by : DS := (sRet (dCall F_added ⟨2, [], [.pos 0, .pos 1]⟩ (aCons (dVar 0) (aCons (dCall F_turned ⟨1, [], [.pos 0]⟩ (aCons (dVar 1) aNil) aNil) aNil)) aNil))
def F_less_by : List Dt → FR := runF false 2 b_less_by
abbrev s_summed : Stmt := topS 36
theorem sc_summed : FnScope ["row", "other", "one", "its"] ["row", "other"] (defScope s_summed) := ⟨rfl, rfl, rfl, by decide +kernel, rfl, by decide +kernel, by decide +kernel⟩
def b_summed : DS := (sRet (dCall F_total ⟨1, [], [.pos 0]⟩ (aCons (dLc [2, 3] (itZip (aCons (dVar 0) (aCons (dVar 1) aNil))) (gTupD 2 (gsCons (gSet 2) (gsCons (gSet 3) gsNil))) dYes (dCall F_product ⟨2, [], [.pos 0, .pos 1]⟩ (aCons (dVar 2) (aCons (dVar 3) aNil)) aNil)) aNil) aNil))
def F_summed : List Dt → FR := runF false 4 b_summed
abbrev s_even_spare : Stmt := topS 54
theorem sc_even_spare : FnScope ["goods", "market", "shares", "told", "mix", "worth", "day"] ["goods", "market", "shares"] (defScope s_even_spare) := ⟨rfl, rfl, rfl, by decide +kernel, rfl, by decide +kernel, by decide +kernel⟩
def b_even_spare : DS := (sSeq (sExpr (dCall F_need_goods ⟨1, [], [.pos 0]⟩ (aCons (dVar 0) aNil) aNil))
    (sSeq (sSet 3 (dCall F_need_market ⟨2, [], [.pos 0, .pos 1, .cst 0 (.str "market")]⟩ (aCons (dVar 1) (aCons (dVar 0) aNil)) aNil))
    (sSeq (sSet 4 (dCall F_need_mix ⟨2, [], [.pos 0, .pos 1, .cst 0 (.str "shares")]⟩ (aCons (dVar 2) (aCons (dVar 0) aNil)) aNil))
    (sSeq (sExpr (dCall F_need_few ⟨2, [], [.pos 0, .pos 1]⟩ (aCons (dVar 0) (aCons (dVar 3) aNil)) aNil))
    (sSeq (sSet 5 (dCall F_multiplied ⟨1, [], [.pos 0]⟩ (aCons (dLc [6] (itSeq (dVar 3)) (gSet 6) dYes (dCall F_summed ⟨2, [], [.pos 0, .pos 1]⟩ (aCons (dVar 4) (aCons (dVar 6) aNil)) aNil)) aNil) aNil))
    (sRet (dCall F_less_by ⟨2, [], [.pos 0, .pos 1]⟩ (aCons (dCall F_product ⟨2, [], [.pos 0, .pos 1]⟩ (aCons (dCall F_purse_in ⟨2, [], [.pos 0, .pos 1]⟩ (aCons (dVar 0) (aCons (dVar 3) aNil)) aNil) (aCons (dCall F_factor_in ⟨2, [], [.pos 0, .pos 1]⟩ (aCons (dVar 0) (aCons (dCallB bLen (aCons (dVar 3) aNil)) aNil)) aNil) aNil)) aNil) (aCons (dVar 5) aNil)) aNil)))))))
def F_even_spare : List Dt → FR := runF false 7 b_even_spare
abbrev s_need_days : Stmt := topS 24
theorem sc_need_days : FnScope ["value"] ["value"] (defScope s_need_days) := ⟨rfl, rfl, rfl, by decide +kernel, rfl, by decide +kernel, by decide +kernel⟩
def b_need_days : DS := (sExpr (dCall F_need_integer ⟨4, [], [.pos 0, .pos 1, .pos 2, .pos 3]⟩ (aCons (dVar 0) (aCons (dC (.str "days")) (aCons (dC (.int 0)) (aCons (dC (.int 1000)) aNil)))) aNil))
def F_need_days : List Dt → FR := runF false 1 b_need_days
abbrev s_even_factor : Stmt := topS 51
theorem sc_even_factor : FnScope ["goods", "days"] ["goods", "days"] (defScope s_even_factor) := ⟨rfl, rfl, rfl, by decide +kernel, rfl, by decide +kernel, by decide +kernel⟩
def b_even_factor : DS := (sSeq (sExpr (dCall F_need_goods ⟨1, [], [.pos 0]⟩ (aCons (dVar 0) aNil) aNil))
    (sSeq (sExpr (dCall F_need_days ⟨1, [], [.pos 0]⟩ (aCons (dVar 1) aNil) aNil))
    (sRet (dCall F_factor_in ⟨2, [], [.pos 0, .pos 1]⟩ (aCons (dVar 0) (aCons (dVar 1) aNil)) aNil))))
def F_even_factor : List Dt → FR := runF false 2 b_even_factor
abbrev s_need_counts : Stmt := topS 25
theorem sc_need_counts : FnScope ["value", "part", "each"] ["value", "part"] (defScope s_need_counts) := ⟨rfl, rfl, rfl, by decide +kernel, rfl, by decide +kernel, by decide +kernel⟩
def b_need_counts : DS := (sSeq (sIf (tOrD (tNotD (dTru (dCall F_is_list ⟨1, [], [.pos 0]⟩ (aCons (dVar 0) aNil) aNil))) (tNotD (dTru (dCall F_is_within ⟨3, [], [.pos 0, .pos 1, .pos 2]⟩ (aCons (dCallB bLen (aCons (dVar 0) aNil)) (aCons (dC (.int 1)) (aCons (dC (.int 5)) aNil))) aNil)))) (sRaise "BadNumber" ["part"] (aCons (dVar 1) aNil)) sNext)
    (sSeq (sIf (tNotD (dTru (dCallB bAll (aCons (dLc [2] (itSeq (dVar 0)) (gSet 2) dYes (dCall F_is_within ⟨3, [], [.pos 0, .pos 1, .pos 2]⟩ (aCons (dVar 2) (aCons (dC (.int 0)) (aCons (dC .non) aNil))) aNil)) aNil)))) (sRaise "BadNumber" ["part"] (aCons (dVar 1) aNil)) sNext)
    (sRet (dCallB bTuple (aCons (dVar 0) aNil)))))
def F_need_counts : List Dt → FR := runF false 3 b_need_counts
abbrev s_even_weight : Stmt := topS 50
theorem sc_even_weight : FnScope ["counts", "told"] ["counts"] (defScope s_even_weight) := ⟨rfl, rfl, rfl, by decide +kernel, rfl, by decide +kernel, by decide +kernel⟩
def b_even_weight : DS := (sSeq (sSet 1 (dCall F_need_counts ⟨2, [], [.pos 0, .pos 1]⟩ (aCons (dVar 0) (aCons (dC (.str "counts")) aNil)) aNil))
    (sSeq (sIf (dTest (dBin opGt (dCallB bMax (aCons (dVar 1) aNil)) (dC (.int 1000)))) (sRaise "BadNumber" ["part"] (aCons (dC (.str "counts")) aNil)) sNext)
    (sRet (dCall F_weight_in ⟨1, [], [.pos 0]⟩ (aCons (dVar 1) aNil) aNil))))
def F_even_weight : List Dt → FR := runF false 2 b_even_weight
abbrev s__law_first_right : Stmt := topS 60
theorem sc__law_first_right : FnScope ["_law_pen_here", "_law_goods", "_law_none", "_law_bad", "_law_odd", "_law_shares", "_law_market", "_law_heard_here", "_law_due", "_law_counts"] ["_law_pen_here", "_law_goods"] (defScope s__law_first_right) := ⟨rfl, rfl, rfl, by decide +kernel, rfl, by decide +kernel, by decide +kernel⟩
def b__law_first_right_0 : DS := (sAsg (gTupD 2 (gsCons (gSet 2) (gsCons (gSet 3) gsNil))) (dTup (aCons (dCallIo 0 2 F__law_one_of (aCons (dLst (aCons (dC .non) (aCons (dC (.int 0)) (aCons (dC (.int 6)) (aCons (dUn opNeg (dC (.int 1))) (aCons (dC (.bl true)) (aCons (dC (.str "2")) (aCons (dLst (aCons (dC (.int 2)) aNil)) (aCons (dTup (aCons (dC (.int 2)) (aCons (dC (.int 3)) aNil))) (aCons (dBin opPow (dC (.int 10)) (dC (.int 20))) aNil)))))))))) aNil)) (aCons (dCallIo 0 2 F__law_one_of (aCons (dLst (aCons (dC .non) (aCons (dUn opNeg (dC (.int 1))) (aCons (dC (.int 1001)) (aCons (dC (.bl true)) (aCons (dC (.str "3")) (aCons (dLst aNil) (aCons (dTup (aCons (dC (.int 1)) (aCons (dC (.int 2)) aNil))) (aCons (dBin opPow (dC (.int 10)) (dC (.int 20))) aNil))))))))) aNil)) aNil))))
def b__law_first_right_1 : DS := (sSet 4 (dCallIo 0 2 F__law_one_of (aCons (dLst (aCons (dC .non) (aCons (dC (.int 5)) (aCons (dLst (aCons (dBin opMul (dLst (aCons (dC (.int 1)) aNil)) (dBin opAdd (dVar 1) (dC (.int 1)))) aNil)) (aCons (dLst (aCons (dBin opMul (dLst (aCons (dC (.int 1)) aNil)) (dVar 1)) (aCons (dBin opMul (dLst (aCons (dC (.int 1)) aNil)) (dBin opSub (dVar 1) (dC (.int 1)))) aNil))) (aCons (dLst (aCons (dBin opMul (dLst (aCons (dUn opNeg (dC (.int 1))) aNil)) (dVar 1)) aNil)) (aCons (dBin opMul (dLst (aCons (dC (.int 1)) aNil)) (dVar 1)) (aCons (dC (.str "1")) (aCons (dLst (aCons (dBin opMul (dLst (aCons (dC (.bl true)) aNil)) (dVar 1)) aNil)) (aCons (dLst (aCons (dC .non) aNil)) (aCons dDNew (aCons (dLst (aCons (dBin opMul (dLst (aCons (dTup (aCons (dC (.int 2)) (aCons (dC (.int 2)) aNil))) aNil)) (dVar 1)) aNil)) aNil)))))))))))) aNil)))
def b__law_first_right_2 : DS := (sSet 5 (dCallIo 0 2 F__law_one_of (aCons (dLst (aCons (dC .non) (aCons (dC (.int 5)) (aCons (dBin opMul (dLst (aCons (dC (.int 1)) aNil)) (dBin opAdd (dVar 1) (dC (.int 1)))) (aCons (dBin opMul (dLst (aCons (dC (.int 0)) aNil)) (dVar 1)) (aCons (dIf (dTest (dBin opGt (dVar 1) (dC (.int 1)))) (dBin opAdd (dBin opAdd (dLst (aCons (dC (.int 2)) aNil)) (dLst (aCons (dUn opNeg (dC (.int 1))) aNil))) (dBin opMul (dLst (aCons (dC (.int 0)) aNil)) (dBin opSub (dVar 1) (dC (.int 2))))) (dLst (aCons (dC (.int 2)) aNil))) (aCons (dC (.str "1")) (aCons (dBin opAdd (dLst (aCons (dC (.bl true)) aNil)) (dBin opMul (dLst (aCons (dC (.int 0)) aNil)) (dBin opSub (dVar 1) (dC (.int 1))))) (aCons (dBin opAdd (dLst (aCons (dC (.int 1)) aNil)) (dBin opMul (dLst (aCons (dC (.int 0)) aNil)) (dVar 1))) (aCons dDNew aNil)))))))))) aNil)))
def b__law_first_right_3 : DS := (sSet 6 (dBin opMul (dLst (aCons (dBin opMul (dLst (aCons (dC (.int 1)) aNil)) (dVar 1)) aNil)) (dCallIo 0 2 F__law_draw (aCons (dC (.int 3)) aNil))))
def b__law_first_right_4 : DS := (sSet 7 (dLst (aCons (dHear ["BadNumber", "BadMarket", "TooMany", "BadMix"] 7 1 [2, 3] (dCall F_even_factor ⟨2, [], [.pos 0, .pos 1]⟩ (aCons (dVar 2) (aCons (dVar 3) aNil)) aNil) b__law_heard) (aCons (dHear ["BadNumber", "BadMarket", "TooMany", "BadMix"] 7 1 [1, 3] (dCall F_even_factor ⟨2, [], [.pos 0, .pos 1]⟩ (aCons (dVar 1) (aCons (dVar 3) aNil)) aNil) b__law_heard) (aCons (dHear ["BadNumber", "BadMarket", "TooMany", "BadMix"] 7 1 [2, 4] (dCall F_even_purse ⟨2, [], [.pos 0, .pos 1]⟩ (aCons (dVar 2) (aCons (dVar 4) aNil)) aNil) b__law_heard) aNil)))))
def b__law_first_right_5 : DS := (sSet 7 (dBin opAdd (dVar 7) (dLst (aCons (dHear ["BadNumber", "BadMarket", "TooMany", "BadMix"] 7 1 [1, 4] (dCall F_even_purse ⟨2, [], [.pos 0, .pos 1]⟩ (aCons (dVar 1) (aCons (dVar 4) aNil)) aNil) b__law_heard) (aCons (dHear ["BadNumber", "BadMarket", "TooMany", "BadMix"] 7 1 [2, 4] (dCall F_even_amounts ⟨2, [], [.pos 0, .pos 1]⟩ (aCons (dVar 2) (aCons (dVar 4) aNil)) aNil) b__law_heard) (aCons (dHear ["BadNumber", "BadMarket", "TooMany", "BadMix"] 7 1 [1, 4] (dCall F_even_amounts ⟨2, [], [.pos 0, .pos 1]⟩ (aCons (dVar 1) (aCons (dVar 4) aNil)) aNil) b__law_heard) aNil))))))
def b__law_first_right_6 : DS := (sSet 7 (dBin opAdd (dVar 7) (dLst (aCons (dHear ["BadNumber", "BadMarket", "TooMany", "BadMix"] 7 1 [2, 4, 5] (dCall F_even_spare ⟨3, [], [.pos 0, .pos 1, .pos 2]⟩ (aCons (dVar 2) (aCons (dVar 4) (aCons (dVar 5) aNil))) aNil) b__law_heard) (aCons (dHear ["BadNumber", "BadMarket", "TooMany", "BadMix"] 7 1 [1, 4, 5] (dCall F_even_spare ⟨3, [], [.pos 0, .pos 1, .pos 2]⟩ (aCons (dVar 1) (aCons (dVar 4) (aCons (dVar 5) aNil))) aNil) b__law_heard) (aCons (dHear ["BadNumber", "BadMarket", "TooMany", "BadMix"] 7 1 [1, 5, 6] (dCall F_even_spare ⟨3, [], [.pos 0, .pos 1, .pos 2]⟩ (aCons (dVar 1) (aCons (dVar 6) (aCons (dVar 5) aNil))) aNil) b__law_heard) aNil))))))
def b__law_first_right_7 : DS := (sSet 8 (dBin opAdd (dBin opAdd (dLst (aCons (dTup (aCons (dC (.str "number")) (aCons (dC (.str "goods")) aNil))) (aCons (dTup (aCons (dC (.str "number")) (aCons (dC (.str "days")) aNil))) aNil))) (dBin opMul (dLst (aCons (dTup (aCons (dC (.str "number")) (aCons (dC (.str "goods")) aNil))) (aCons (dTup (aCons (dC (.str "market")) (aCons (dC (.str "market")) aNil))) aNil))) (dC (.int 3)))) (dLst (aCons (dTup (aCons (dC (.str "mix")) (aCons (dC (.str "shares")) aNil))) aNil))))
def b__law_first_right_8 : DS := (sIf (dTest (dBin (eqS true) (dVar 7) (dVar 8))) (sRet (dC (.bl false))) sNext)
def b__law_first_right_9 : DS := (sSet 9 (dCallIo 0 2 F__law_one_of (aCons (dLst (aCons (dC .non) (aCons (dC (.int 5)) (aCons (dLst aNil) (aCons (dTup aNil) (aCons (dBin opMul (dLst (aCons (dC (.int 1)) aNil)) (dC (.int 6))) (aCons (dLst (aCons (dUn opNeg (dC (.int 1))) aNil)) (aCons (dLst (aCons (dC (.int 1)) (aCons (dC (.bl true)) aNil))) (aCons (dLst (aCons (dC (.str "1")) aNil)) (aCons (dLst (aCons (dC (.int 1001)) aNil)) (aCons (dLst (aCons (dTup (aCons (dC (.int 1)) (aCons (dC (.int 2)) aNil))) aNil)) (aCons dDNew (aCons (dC (.str "12")) (aCons (dLst (aCons (dC (.int 0)) (aCons (dC .non) aNil))) (aCons (dLst (aCons (dC (.int 2)) (aCons (dBin opPow (dC (.int 10)) (dC (.int 20))) aNil))) aNil))))))))))))))) aNil)))
def b__law_first_right_10 : DS := (sRet (dBin (eqS false) (dHear ["BadNumber", "BadMarket", "TooMany", "BadMix"] 7 1 [9] (dCall F_even_weight ⟨1, [], [.pos 0]⟩ (aCons (dVar 9) aNil) aNil) b__law_heard) (dTup (aCons (dC (.str "number")) (aCons (dC (.str "counts")) aNil)))))
def b__law_first_right : DS := (sSeq b__law_first_right_0 (sSeq b__law_first_right_1 (sSeq b__law_first_right_2 (sSeq b__law_first_right_3 (sSeq b__law_first_right_4 (sSeq b__law_first_right_5 (sSeq b__law_first_right_6 (sSeq b__law_first_right_7 (sSeq b__law_first_right_8 (sSeq b__law_first_right_9 b__law_first_right_10))))))))))
theorem b__law_first_right_eq : b__law_first_right = (sSeq b__law_first_right_0 (sSeq b__law_first_right_1 (sSeq b__law_first_right_2 (sSeq b__law_first_right_3 (sSeq b__law_first_right_4 (sSeq b__law_first_right_5 (sSeq b__law_first_right_6 (sSeq b__law_first_right_7 (sSeq b__law_first_right_8 (sSeq b__law_first_right_9 b__law_first_right_10)))))))))) := rfl
def F__law_first_right : List Dt → FR := runF true 10 b__law_first_right
abbrev s_law : Stmt := topS 61
theorem sc_law : FnScope ["_law_script", "_law_pen_here", "_law_turn", "_law_goods", "_law_days", "_law_shares", "_law_wide", "_law_heard_here", "_law_many", "_law_market", "_law_due", "_law_kept", "_law_told"] ["_law_script"] (defScope s_law) := ⟨rfl, rfl, rfl, by decide +kernel, rfl, by decide +kernel, by decide +kernel⟩
def b_law_0 : DS := (sSet 1 (dCall F__law_pen ⟨1, [], [.pos 0]⟩ (aCons (dVar 0) aNil) aNil))
def b_law_1_0 : DS := (sIf (tNotD (dTru (dCallIo 1 2 F__law_first_right (aCons (dBin opAdd (dC (.int 1)) (dCallIo 1 2 F__law_draw (aCons (dC (.int 5)) aNil))) aNil)))) (sRet (dC (.bl false))) sNext)
def b_law_1_b : DS := b_law_1_0
def b_law_1 : DS := (sFor (itRng1 (aCons (dC (.int 3)) aNil)) (gSet 2) b_law_1_b)
def b_law_2 : DS := (sSet 3 (dCallIo 1 2 F__law_one_of (aCons (dLst (aCons (dC (.int 5)) (aCons (dC (.int 4)) (aCons (dC (.int 3)) aNil)))) aNil)))
def b_law_3 : DS := (sAsg (gTupD 2 (gsCons (gSet 4) (gsCons (gSet 5) gsNil))) (dTup (aCons (dUn (dixD [(.inl 5, .int 17), (.inl 4, .int 30), (.inl 3, .int 99)]) (dVar 3)) (aCons (dBin opAdd (dLst (aCons (dC (.int 1)) aNil)) (dBin opMul (dLst (aCons (dC (.int 0)) aNil)) (dBin opSub (dVar 3) (dC (.int 1))))) aNil))))
def b_law_4 : DS := (sSet 6 (dBin opMul (dLst (aCons (dBin opMul (dLst (aCons (dC (.int 0)) aNil)) (dVar 3)) aNil)) (dVar 4)))
def b_law_5 : DS := (sSet 7 (dLst (aCons (dHear ["BadNumber", "BadMarket", "TooMany", "BadMix"] 7 1 [3, 6] (dCall F_even_purse ⟨2, [], [.pos 0, .pos 1]⟩ (aCons (dVar 3) (aCons (dVar 6) aNil)) aNil) b__law_heard) (aCons (dHear ["BadNumber", "BadMarket", "TooMany", "BadMix"] 7 1 [3, 6] (dCall F_even_amounts ⟨2, [], [.pos 0, .pos 1]⟩ (aCons (dVar 3) (aCons (dVar 6) aNil)) aNil) b__law_heard) (aCons (dHear ["BadNumber", "BadMarket", "TooMany", "BadMix"] 7 1 [3, 5, 6] (dCall F_even_spare ⟨3, [], [.pos 0, .pos 1, .pos 2]⟩ (aCons (dVar 3) (aCons (dVar 6) (aCons (dVar 5) aNil))) aNil) b__law_heard) aNil)))))
def b_law_6 : DS := (sSet 7 (dBin opAdd (dVar 7) (dLst (aCons (dHear ["BadNumber", "BadMarket", "TooMany", "BadMix"] 7 1 [3, 5, 6] (dCall F_even_spare ⟨3, [], [.pos 0, .pos 1, .pos 2]⟩ (aCons (dVar 3) (aCons (dVar 6) (aCons (dBin opAdd (dLst (aCons (dC (.int 2)) aNil)) (dSl (dVar 5) (oSome (dC (.int 1))) oNone)) aNil))) aNil) b__law_heard) (aCons (dHear ["BadNumber", "BadMarket", "TooMany", "BadMix"] 7 1 [3, 6] (dCall F_even_purse ⟨2, [], [.pos 0, .pos 1]⟩ (aCons (dVar 3) (aCons (dBin opAdd (dVar 6) (dLst (aCons (dBin opMul (dLst (aCons (dC (.int 1)) aNil)) (dBin opAdd (dVar 3) (dC (.int 1)))) aNil))) aNil)) aNil) b__law_heard) aNil)))))
def b_law_7 : DS := (sIf (tOrD (dTest (dBin (eqS true) (dVar 7) (dBin opAdd (dBin opMul (dLst (aCons (dTup (aCons (dC (.str "many")) (aCons (dC (.str "counts")) (aCons (dC (.int 5000)) aNil)))) aNil)) (dC (.int 3))) (dLst (aCons (dTup (aCons (dC (.str "mix")) (aCons (dC (.str "shares")) aNil))) (aCons (dTup (aCons (dC (.str "market")) (aCons (dC (.str "market")) aNil))) aNil)))))) (tOrD (dTest (dBin opLe (dCall F_even_factor ⟨2, [], [.pos 0, .pos 1]⟩ (aCons (dVar 3) (aCons (dVar 4) aNil)) aNil) (dC (.int 5000)))) (dTest (dBin opGt (dCall F_even_factor ⟨2, [], [.pos 0, .pos 1]⟩ (aCons (dVar 3) (aCons (dBin opSub (dVar 4) (dC (.int 1))) aNil)) aNil) (dC (.int 5000)))))) (sRet (dC (.bl false))) sNext)
def b_law_8 : DS := (sSet 8 (dCallIo 1 2 F__law_one_of (aCons (dLst (aCons (dC (.int 1)) (aCons (dC (.int 2)) (aCons (dC (.int 3)) aNil)))) aNil)))
def b_law_9 : DS := (sPar 9 10 (aCons (dBin opMul (dLst (aCons (dLst (aCons (dC (.int 2)) aNil)) (aCons (dLst (aCons (dTup (aCons (dC (.int 1)) (aCons (dC (.int 3)) aNil))) aNil)) aNil))) (dVar 8)) (aCons (dBin opIx (dLst (aCons (dTup (aCons (dC (.int 2)) (aCons (dC (.int 3)) aNil))) (aCons (dTup (aCons (dC (.int 4)) (aCons (dC (.int 9)) aNil))) (aCons (dTup (aCons (dC (.int 8)) (aCons (dC (.int 27)) aNil))) aNil)))) (dBin opSub (dVar 8) (dC (.int 1)))) aNil)))
def b_law_10 : DS := (sSet 11 (dCallB bRepr (aCons (dVar 9) aNil)))
def b_law_11 : DS := (sSet 12 (dLst (aCons (dCall F_even_purse ⟨2, [], [.pos 0, .pos 1]⟩ (aCons (dC (.int 1)) (aCons (dVar 9) aNil)) aNil) (aCons (dCall F_even_amounts ⟨2, [], [.pos 0, .pos 1]⟩ (aCons (dC (.int 1)) (aCons (dVar 9) aNil)) aNil) (aCons (dCall F_even_spare ⟨3, [], [.pos 0, .pos 1, .pos 2]⟩ (aCons (dC (.int 1)) (aCons (dVar 9) (aCons (dLst (aCons (dC (.int 1)) aNil)) aNil))) aNil) aNil)))))
def b_law_12 : DS := (sRet (dAnd (dBin (eqS false) (dCallB bRepr (aCons (dVar 12) aNil)) (dCallB bRepr (aCons (dLst (aCons (dVar 10) (aCons (dTup (aCons (dVar 10) aNil)) (aCons (dC (.int 0)) aNil)))) aNil))) (dBin (eqS false) (dCallB bRepr (aCons (dVar 9) aNil)) (dVar 11))))
def b_law : DS := (sSeq b_law_0 (sSeq b_law_1 (sSeq b_law_2 (sSeq b_law_3 (sSeq b_law_4 (sSeq b_law_5 (sSeq b_law_6 (sSeq b_law_7 (sSeq b_law_8 (sSeq b_law_9 (sSeq b_law_10 (sSeq b_law_11 b_law_12))))))))))))
theorem b_law_eq : b_law = (sSeq b_law_0 (sSeq b_law_1 (sSeq b_law_2 (sSeq b_law_3 (sSeq b_law_4 (sSeq b_law_5 (sSeq b_law_6 (sSeq b_law_7 (sSeq b_law_8 (sSeq b_law_9 (sSeq b_law_10 (sSeq b_law_11 b_law_12)))))))))))) := rfl
def F_law : List Dt → FR := runF false 13 b_law
abbrev s_BadNumber__init : Stmt := inClass (topS 2) 0
theorem sc_BadNumber__init : FnScope ["self", "part"] ["self", "part"] (defScope s_BadNumber__init) := ⟨rfl, rfl, rfl, by decide +kernel, rfl, by decide +kernel, by decide +kernel⟩
abbrev s_BadMarket__init : Stmt := inClass (topS 3) 0
theorem sc_BadMarket__init : FnScope ["self", "part"] ["self", "part"] (defScope s_BadMarket__init) := ⟨rfl, rfl, rfl, by decide +kernel, rfl, by decide +kernel, by decide +kernel⟩
abbrev s_TooMany__init : Stmt := inClass (topS 5) 0
theorem sc_TooMany__init : FnScope ["self", "what", "most"] ["self", "what", "most"] (defScope s_TooMany__init) := ⟨rfl, rfl, rfl, by decide +kernel, rfl, by decide +kernel, by decide +kernel⟩
abbrev s_BadMix__init : Stmt := inClass (topS 4) 0
theorem sc_BadMix__init : FnScope ["self", "part"] ["self", "part"] (defScope s_BadMix__init) := ⟨rfl, rfl, rfl, by decide +kernel, rfl, by decide +kernel, by decide +kernel⟩
structure Md (K : PySem.W.Frag) (mg : Str → Option Value) where
  a__law_pen : Addr
  d__law_pen : FuncData
  t__law_pen : Fun K "_law_pen" "_law_pen" s__law_pen a__law_pen d__law_pen
  g__law_pen : mg "_law_pen" = some (.ref a__law_pen)
  a__law_draw : Addr
  d__law_draw : FuncData
  t__law_draw : Fun K "_law_draw" "_law_draw" s__law_draw a__law_draw d__law_draw
  g__law_draw : mg "_law_draw" = some (.ref a__law_draw)
  a__law_one_of : Addr
  d__law_one_of : FuncData
  t__law_one_of : Fun K "_law_one_of" "_law_one_of" s__law_one_of a__law_one_of d__law_one_of
  g__law_one_of : mg "_law_one_of" = some (.ref a__law_one_of)
  a__law_heard : Addr
  d__law_heard : FuncData
  t__law_heard : Fun K "_law_heard" "_law_heard" s__law_heard a__law_heard d__law_heard
  g__law_heard : mg "_law_heard" = some (.ref a__law_heard)
  a_is_integer : Addr
  d_is_integer : FuncData
  t_is_integer : Fun K "is_integer" "is_integer" s_is_integer a_is_integer d_is_integer
  g_is_integer : mg "is_integer" = some (.ref a_is_integer)
  a_is_within : Addr
  d_is_within : FuncData
  t_is_within : Fun K "is_within" "is_within" s_is_within a_is_within d_is_within
  g_is_within : mg "is_within" = some (.ref a_is_within)
  a_need_integer : Addr
  d_need_integer : FuncData
  t_need_integer : Fun K "need_integer" "need_integer" s_need_integer a_need_integer d_need_integer
  g_need_integer : mg "need_integer" = some (.ref a_need_integer)
  a_need_goods : Addr
  d_need_goods : FuncData
  t_need_goods : Fun K "need_goods" "need_goods" s_need_goods a_need_goods d_need_goods
  g_need_goods : mg "need_goods" = some (.ref a_need_goods)
  a_is_list : Addr
  d_is_list : FuncData
  t_is_list : Fun K "is_list" "is_list" s_is_list a_is_list d_is_list
  g_is_list : mg "is_list" = some (.ref a_is_list)
  a_common : Addr
  d_common : FuncData
  t_common : Fun K "common" "common" s_common a_common d_common
  g_common : mg "common" = some (.ref a_common)
  a_is_number : Addr
  d_is_number : FuncData
  t_is_number : Fun K "is_number" "is_number" s_is_number a_is_number d_is_number
  g_is_number : mg "is_number" = some (.ref a_is_number)
  a_above_in : Addr
  d_above_in : FuncData
  t_above_in : Fun K "above_in" "above_in" s_above_in a_above_in d_above_in
  g_above_in : mg "above_in" = some (.ref a_above_in)
  a_is_from_0 : Addr
  d_is_from_0 : FuncData
  t_is_from_0 : Fun K "is_from_0" "is_from_0" s_is_from_0 a_is_from_0 d_is_from_0
  g_is_from_0 : mg "is_from_0" = some (.ref a_is_from_0)
  a_is_row : Addr
  d_is_row : FuncData
  t_is_row : Fun K "is_row" "is_row" s_is_row a_is_row d_is_row
  g_is_row : mg "is_row" = some (.ref a_is_row)
  a_is_market_of : Addr
  d_is_market_of : FuncData
  t_is_market_of : Fun K "is_market_of" "is_market_of" s_is_market_of a_is_market_of d_is_market_of
  g_is_market_of : mg "is_market_of" = some (.ref a_is_market_of)
  a_kept : Addr
  d_kept : FuncData
  t_kept : Fun K "kept" "kept" s_kept a_kept d_kept
  g_kept : mg "kept" = some (.ref a_kept)
  a_kept_row : Addr
  d_kept_row : FuncData
  t_kept_row : Fun K "kept_row" "kept_row" s_kept_row a_kept_row d_kept_row
  g_kept_row : mg "kept_row" = some (.ref a_kept_row)
  a_need_market : Addr
  d_need_market : FuncData
  t_need_market : FunT K "need_market" "need_market" s_need_market [.str "market"] a_need_market d_need_market
  g_need_market : mg "need_market" = some (.ref a_need_market)
  a_choose_in : Addr
  d_choose_in : FuncData
  t_choose_in : Fun K "choose_in" "choose_in" s_choose_in a_choose_in d_choose_in
  g_choose_in : mg "choose_in" = some (.ref a_choose_in)
  a_factor_in : Addr
  d_factor_in : FuncData
  t_factor_in : Fun K "factor_in" "factor_in" s_factor_in a_factor_in d_factor_in
  g_factor_in : mg "factor_in" = some (.ref a_factor_in)
  a_need_few : Addr
  d_need_few : FuncData
  t_need_few : Fun K "need_few" "need_few" s_need_few a_need_few d_need_few
  g_need_few : mg "need_few" = some (.ref a_need_few)
  a_lowest : Addr
  d_lowest : FuncData
  t_lowest : Fun K "lowest" "lowest" s_lowest a_lowest d_lowest
  g_lowest : mg "lowest" = some (.ref a_lowest)
  a_halves : Addr
  d_halves : FuncData
  t_halves : Fun K "halves" "halves" s_halves a_halves d_halves
  g_halves : mg "halves" = some (.ref a_halves)
  a_added : Addr
  d_added : FuncData
  t_added : Fun K "added" "added" s_added a_added d_added
  g_added : mg "added" = some (.ref a_added)
  a_total : Addr
  d_total : FuncData
  t_total : Fun K "total" "total" s_total a_total d_total
  g_total : mg "total" = some (.ref a_total)
  a_product : Addr
  d_product : FuncData
  t_product : Fun K "product" "product" s_product a_product d_product
  g_product : mg "product" = some (.ref a_product)
  a_factorial : Addr
  d_factorial : FuncData
  t_factorial : Fun K "factorial" "factorial" s_factorial a_factorial d_factorial
  g_factorial : mg "factorial" = some (.ref a_factorial)
  a_weight_in : Addr
  d_weight_in : FuncData
  t_weight_in : Fun K "weight_in" "weight_in" s_weight_in a_weight_in d_weight_in
  g_weight_in : mg "weight_in" = some (.ref a_weight_in)
  a_with_one : Addr
  d_with_one : FuncData
  t_with_one : Fun K "with_one" "with_one" s_with_one a_with_one d_with_one
  g_with_one : mg "with_one" = some (.ref a_with_one)
  a_grouped : Addr
  d_grouped : FuncData
  t_grouped : Fun K "grouped" "grouped" s_grouped a_grouped d_grouped
  g_grouped : mg "grouped" = some (.ref a_grouped)
  a_purse_in : Addr
  d_purse_in : FuncData
  t_purse_in : Fun K "purse_in" "purse_in" s_purse_in a_purse_in d_purse_in
  g_purse_in : mg "purse_in" = some (.ref a_purse_in)
  a_even_purse : Addr
  d_even_purse : FuncData
  t_even_purse : Fun K "even_purse" "even_purse" s_even_purse a_even_purse d_even_purse
  g_even_purse : mg "even_purse" = some (.ref a_even_purse)
  a_even_amounts : Addr
  d_even_amounts : FuncData
  t_even_amounts : Fun K "even_amounts" "even_amounts" s_even_amounts a_even_amounts d_even_amounts
  g_even_amounts : mg "even_amounts" = some (.ref a_even_amounts)
  a_is_sum_1 : Addr
  d_is_sum_1 : FuncData
  t_is_sum_1 : Fun K "is_sum_1" "is_sum_1" s_is_sum_1 a_is_sum_1 d_is_sum_1
  g_is_sum_1 : mg "is_sum_1" = some (.ref a_is_sum_1)
  a_is_mix_of : Addr
  d_is_mix_of : FuncData
  t_is_mix_of : Fun K "is_mix_of" "is_mix_of" s_is_mix_of a_is_mix_of d_is_mix_of
  g_is_mix_of : mg "is_mix_of" = some (.ref a_is_mix_of)
  a_need_mix : Addr
  d_need_mix : FuncData
  t_need_mix : FunT K "need_mix" "need_mix" s_need_mix [.str "shares"] a_need_mix d_need_mix
  g_need_mix : mg "need_mix" = some (.ref a_need_mix)
  a_multiplied : Addr
  d_multiplied : FuncData
  t_multiplied : Fun K "multiplied" "multiplied" s_multiplied a_multiplied d_multiplied
  g_multiplied : mg "multiplied" = some (.ref a_multiplied)
  a_turned : Addr
  d_turned : FuncData
  t_turned : Fun K "turned" "turned" s_turned a_turned d_turned
  g_turned : mg "turned" = some (.ref a_turned)
  a_less_by : Addr
  d_less_by : FuncData
  t_less_by : Fun K "less_by" "less_by" s_less_by a_less_by d_less_by
  g_less_by : mg "less_by" = some (.ref a_less_by)
  a_summed : Addr
  d_summed : FuncData
  t_summed : Fun K "summed" "summed" s_summed a_summed d_summed
  g_summed : mg "summed" = some (.ref a_summed)
  a_even_spare : Addr
  d_even_spare : FuncData
  t_even_spare : Fun K "even_spare" "even_spare" s_even_spare a_even_spare d_even_spare
  g_even_spare : mg "even_spare" = some (.ref a_even_spare)
  a_need_days : Addr
  d_need_days : FuncData
  t_need_days : Fun K "need_days" "need_days" s_need_days a_need_days d_need_days
  g_need_days : mg "need_days" = some (.ref a_need_days)
  a_even_factor : Addr
  d_even_factor : FuncData
  t_even_factor : Fun K "even_factor" "even_factor" s_even_factor a_even_factor d_even_factor
  g_even_factor : mg "even_factor" = some (.ref a_even_factor)
  a_need_counts : Addr
  d_need_counts : FuncData
  t_need_counts : Fun K "need_counts" "need_counts" s_need_counts a_need_counts d_need_counts
  g_need_counts : mg "need_counts" = some (.ref a_need_counts)
  a_even_weight : Addr
  d_even_weight : FuncData
  t_even_weight : Fun K "even_weight" "even_weight" s_even_weight a_even_weight d_even_weight
  g_even_weight : mg "even_weight" = some (.ref a_even_weight)
  a__law_first_right : Addr
  d__law_first_right : FuncData
  t__law_first_right : Fun K "_law_first_right" "_law_first_right" s__law_first_right a__law_first_right d__law_first_right
  g__law_first_right : mg "_law_first_right" = some (.ref a__law_first_right)
  a_law : Addr
  d_law : FuncData
  t_law : Fun K "law" "law" s_law a_law d_law
  g_law : mg "law" = some (.ref a_law)
  n_abs : mg "abs" = none
  n_all : mg "all" = none
  n_bool : mg "bool" = none
  n_int : mg "int" = none
  n_isinstance : mg "isinstance" = none
  n_len : mg "len" = none
  n_list : mg "list" = none
  n_max : mg "max" = none
  n_range : mg "range" = none
  n_repr : mg "repr" = none
  n_sum : mg "sum" = none
  n_tuple : mg "tuple" = none
  n_zip : mg "zip" = none
  C_BadNumber : Addr
  g_BadNumber : mg "BadNumber" = some (.ref C_BadNumber)
  C_BadMarket : Addr
  g_BadMarket : mg "BadMarket" = some (.ref C_BadMarket)
  C_TooMany : Addr
  g_TooMany : mg "TooMany" = some (.ref C_TooMany)
  C_BadMix : Addr
  g_BadMix : mg "BadMix" = some (.ref C_BadMix)
  C_PriceError : Addr
  g_PriceError : mg "PriceError" = some (.ref C_PriceError)
  p_PriceError : PeC K C_PriceError
  x_BadNumber : ExC K mg "BadNumber" C_BadNumber
  i_BadNumber : InC K C_BadNumber ["part"] "BadNumber.__init__" s_BadNumber__init
  e_BadNumber_PriceError : PySem.W.exmOne K (.ref C_BadNumber) (.ref C_PriceError) = some true
  x_BadMarket : ExC K mg "BadMarket" C_BadMarket
  i_BadMarket : InC K C_BadMarket ["part"] "BadMarket.__init__" s_BadMarket__init
  e_BadMarket_PriceError : PySem.W.exmOne K (.ref C_BadMarket) (.ref C_PriceError) = some true
  x_TooMany : ExC K mg "TooMany" C_TooMany
  i_TooMany : InC K C_TooMany ["what", "most"] "TooMany.__init__" s_TooMany__init
  e_TooMany_PriceError : PySem.W.exmOne K (.ref C_TooMany) (.ref C_PriceError) = some true
  x_BadMix : ExC K mg "BadMix" C_BadMix
  i_BadMix : InC K C_BadMix ["part"] "BadMix.__init__" s_BadMix__init
  e_BadMix_PriceError : PySem.W.exmOne K (.ref C_BadMix) (.ref C_PriceError) = some true
  nn_TooMany : PySem.W.kitOne K (.type "NoneType") (.ref C_TooMany) = some false
  s_BadNumber_TooMany : PySem.W.kitOne K (.ref C_BadNumber) (.ref C_TooMany) = some false
  s_BadMarket_TooMany : PySem.W.kitOne K (.ref C_BadMarket) (.ref C_TooMany) = some false
  s_TooMany_TooMany : PySem.W.kitOne K (.ref C_TooMany) (.ref C_TooMany) = some true
  s_BadMix_TooMany : PySem.W.kitOne K (.ref C_BadMix) (.ref C_TooMany) = some false
  nn_BadNumber : PySem.W.kitOne K (.type "NoneType") (.ref C_BadNumber) = some false
  s_BadNumber_BadNumber : PySem.W.kitOne K (.ref C_BadNumber) (.ref C_BadNumber) = some true
  s_BadMarket_BadNumber : PySem.W.kitOne K (.ref C_BadMarket) (.ref C_BadNumber) = some false
  s_TooMany_BadNumber : PySem.W.kitOne K (.ref C_TooMany) (.ref C_BadNumber) = some false
  s_BadMix_BadNumber : PySem.W.kitOne K (.ref C_BadMix) (.ref C_BadNumber) = some false
  nn_BadMarket : PySem.W.kitOne K (.type "NoneType") (.ref C_BadMarket) = some false
  s_BadNumber_BadMarket : PySem.W.kitOne K (.ref C_BadNumber) (.ref C_BadMarket) = some false
  s_BadMarket_BadMarket : PySem.W.kitOne K (.ref C_BadMarket) (.ref C_BadMarket) = some true
  s_TooMany_BadMarket : PySem.W.kitOne K (.ref C_TooMany) (.ref C_BadMarket) = some false
  s_BadMix_BadMarket : PySem.W.kitOne K (.ref C_BadMix) (.ref C_BadMarket) = some false
  nn_BadMix : PySem.W.kitOne K (.type "NoneType") (.ref C_BadMix) = some false
  s_BadNumber_BadMix : PySem.W.kitOne K (.ref C_BadNumber) (.ref C_BadMix) = some false
  s_BadMarket_BadMix : PySem.W.kitOne K (.ref C_BadMarket) (.ref C_BadMix) = some false
  s_TooMany_BadMix : PySem.W.kitOne K (.ref C_TooMany) (.ref C_BadMix) = some false
  s_BadMix_BadMix : PySem.W.kitOne K (.ref C_BadMix) (.ref C_BadMix) = some true
  k_MOST_COUNT : Tok
  c_MOST_COUNT : mg "MOST_COUNT" = some (.int 1000 k_MOST_COUNT)
  k_MOST_COUNTS : Tok
  c_MOST_COUNTS : mg "MOST_COUNTS" = some (.int 5000 k_MOST_COUNTS)
  k_MOST_DAYS : Tok
  c_MOST_DAYS : mg "MOST_DAYS" = some (.int 1000 k_MOST_DAYS)
  k_MOST_GOODS : Tok
  c_MOST_GOODS : mg "MOST_GOODS" = some (.int 5 k_MOST_GOODS)
section
variable {P : Program} {w : World} {K : PySem.W.Frag} {mg : Str → Option Value} {base : Heap}
theorem ra_BadNumber (M : Md K mg) : RaC P w K mg base "BadNumber" ["part"] := raC_one M.g_BadNumber M.i_BadNumber sc_BadNumber__init (fun fI cdv A outer s H E => pss_cons (ps_expr (pe_pinit (by rfl) M.g_PriceError (by decide) M.p_PriceError (pa_cons (pv 0) (pa_cons pe_str pa_nil (star_no rfl)) (star_no rfl)) (by rfl) (star_no rfl) (star_none rfl)) (by rfl)) (pss_one (ps_ost (pv 0) (pv 1) (by rfl)))) (fun _ _ _ _ _ _ us hl => match us, hl with | [_, _], _ => rfl)
theorem ra_BadMarket (M : Md K mg) : RaC P w K mg base "BadMarket" ["part"] := raC_one M.g_BadMarket M.i_BadMarket sc_BadMarket__init (fun fI cdv A outer s H E => pss_cons (ps_expr (pe_pinit (by rfl) M.g_PriceError (by decide) M.p_PriceError (pa_cons (pv 0) (pa_cons pe_str pa_nil (star_no rfl)) (star_no rfl)) (by rfl) (star_no rfl) (star_none rfl)) (by rfl)) (pss_one (ps_ost (pv 0) (pv 1) (by rfl)))) (fun _ _ _ _ _ _ us hl => match us, hl with | [_, _], _ => rfl)
theorem ra_TooMany (M : Md K mg) : RaC P w K mg base "TooMany" ["what", "most"] := raC_two M.g_TooMany M.i_TooMany sc_TooMany__init (fun fI cdv A outer s H E => pss_cons (ps_expr (pe_pinit (by rfl) M.g_PriceError (by decide) M.p_PriceError (pa_cons (pv 0) (pa_cons pe_str pa_nil (star_no rfl)) (star_no rfl)) (by rfl) (star_no rfl) (star_none rfl)) (by rfl)) (pss_cons (ps_ost (pv 0) (pv 1) (by rfl)) (pss_one (ps_ost (pv 0) (pv 2) (by rfl))))) (fun _ _ _ _ _ _ us hl => match us, hl with | [_, _, _], _ => rfl)
theorem ra_BadMix (M : Md K mg) : RaC P w K mg base "BadMix" ["part"] := raC_one M.g_BadMix M.i_BadMix sc_BadMix__init (fun fI cdv A outer s H E => pss_cons (ps_expr (pe_pinit (by rfl) M.g_PriceError (by decide) M.p_PriceError (pa_cons (pv 0) (pa_cons pe_str pa_nil (star_no rfl)) (star_no rfl)) (by rfl) (star_no rfl) (star_none rfl)) (by rfl)) (pss_one (ps_ost (pv 0) (pv 1) (by rfl)))) (fun _ _ _ _ _ _ us hl => match us, hl with | [_, _], _ => rfl)
theorem ca_PriceError (M : Md K mg) : ∀ c ∈ (["BadNumber", "BadMarket", "TooMany", "BadMix"] : List Str), ∃ C, mg c = some (.ref C) ∧ PySem.W.exmOne K (.ref C) (.ref M.C_PriceError) = some true := fun c hc => by
  simp only [List.mem_cons, List.not_mem_nil, or_false] at hc
  rcases hc with rfl | rfl | rfl | rfl
  · exact ⟨M.C_BadNumber, M.g_BadNumber, M.e_BadNumber_PriceError⟩
  · exact ⟨M.C_BadMarket, M.g_BadMarket, M.e_BadMarket_PriceError⟩
  · exact ⟨M.C_TooMany, M.g_TooMany, M.e_TooMany_PriceError⟩
  · exact ⟨M.C_BadMix, M.g_BadMix, M.e_BadMix_PriceError⟩
theorem io_TooMany (M : Md K mg) : IsoOk K mg M.C_TooMany [("BadNumber", false), ("BadMarket", false), ("TooMany", true), ("BadMix", false)] := ⟨M.nn_TooMany, fun c b h => by
  have h := PySem.mem_of_lookup h
  simp only [List.mem_cons, List.not_mem_nil, or_false, Prod.mk.injEq] at h
  rcases h with ⟨rfl, rfl⟩ | ⟨rfl, rfl⟩ | ⟨rfl, rfl⟩ | ⟨rfl, rfl⟩
  · exact ⟨M.C_BadNumber, M.x_BadNumber, M.s_BadNumber_TooMany⟩
  · exact ⟨M.C_BadMarket, M.x_BadMarket, M.s_BadMarket_TooMany⟩
  · exact ⟨M.C_TooMany, M.x_TooMany, M.s_TooMany_TooMany⟩
  · exact ⟨M.C_BadMix, M.x_BadMix, M.s_BadMix_TooMany⟩⟩
theorem io_BadNumber (M : Md K mg) : IsoOk K mg M.C_BadNumber [("BadNumber", true), ("BadMarket", false), ("TooMany", false), ("BadMix", false)] := ⟨M.nn_BadNumber, fun c b h => by
  have h := PySem.mem_of_lookup h
  simp only [List.mem_cons, List.not_mem_nil, or_false, Prod.mk.injEq] at h
  rcases h with ⟨rfl, rfl⟩ | ⟨rfl, rfl⟩ | ⟨rfl, rfl⟩ | ⟨rfl, rfl⟩
  · exact ⟨M.C_BadNumber, M.x_BadNumber, M.s_BadNumber_BadNumber⟩
  · exact ⟨M.C_BadMarket, M.x_BadMarket, M.s_BadMarket_BadNumber⟩
  · exact ⟨M.C_TooMany, M.x_TooMany, M.s_TooMany_BadNumber⟩
  · exact ⟨M.C_BadMix, M.x_BadMix, M.s_BadMix_BadNumber⟩⟩
theorem io_BadMarket (M : Md K mg) : IsoOk K mg M.C_BadMarket [("BadNumber", false), ("BadMarket", true), ("TooMany", false), ("BadMix", false)] := ⟨M.nn_BadMarket, fun c b h => by
  have h := PySem.mem_of_lookup h
  simp only [List.mem_cons, List.not_mem_nil, or_false, Prod.mk.injEq] at h
  rcases h with ⟨rfl, rfl⟩ | ⟨rfl, rfl⟩ | ⟨rfl, rfl⟩ | ⟨rfl, rfl⟩
  · exact ⟨M.C_BadNumber, M.x_BadNumber, M.s_BadNumber_BadMarket⟩
  · exact ⟨M.C_BadMarket, M.x_BadMarket, M.s_BadMarket_BadMarket⟩
  · exact ⟨M.C_TooMany, M.x_TooMany, M.s_TooMany_BadMarket⟩
  · exact ⟨M.C_BadMix, M.x_BadMix, M.s_BadMix_BadMarket⟩⟩
theorem io_BadMix (M : Md K mg) : IsoOk K mg M.C_BadMix [("BadNumber", false), ("BadMarket", false), ("TooMany", false), ("BadMix", true)] := ⟨M.nn_BadMix, fun c b h => by
  have h := PySem.mem_of_lookup h
  simp only [List.mem_cons, List.not_mem_nil, or_false, Prod.mk.injEq] at h
  rcases h with ⟨rfl, rfl⟩ | ⟨rfl, rfl⟩ | ⟨rfl, rfl⟩ | ⟨rfl, rfl⟩
  · exact ⟨M.C_BadNumber, M.x_BadNumber, M.s_BadNumber_BadMix⟩
  · exact ⟨M.C_BadMarket, M.x_BadMarket, M.s_BadMarket_BadMix⟩
  · exact ⟨M.C_TooMany, M.x_TooMany, M.s_TooMany_BadMix⟩
  · exact ⟨M.C_BadMix, M.x_BadMix, M.s_BadMix_BadMix⟩⟩
theorem fo_most (M : Md K mg) : FldOk K mg ["TooMany"] "most" := fun c hc => by
  simp only [List.mem_cons, List.not_mem_nil, or_false] at hc
  rcases hc with rfl
  · exact ⟨M.C_TooMany, M.x_TooMany, M.i_TooMany.f _ (by simp)⟩
theorem fo_what (M : Md K mg) : FldOk K mg ["TooMany"] "what" := fun c hc => by
  simp only [List.mem_cons, List.not_mem_nil, or_false] at hc
  rcases hc with rfl
  · exact ⟨M.C_TooMany, M.x_TooMany, M.i_TooMany.f _ (by simp)⟩
theorem fo_part (M : Md K mg) : FldOk K mg ["BadNumber", "BadMarket", "BadMix"] "part" := fun c hc => by
  simp only [List.mem_cons, List.not_mem_nil, or_false] at hc
  rcases hc with rfl | rfl | rfl
  · exact ⟨M.C_BadNumber, M.x_BadNumber, M.i_BadNumber.f _ (by simp)⟩
  · exact ⟨M.C_BadMarket, M.x_BadMarket, M.i_BadMarket.f _ (by simp)⟩
  · exact ⟨M.C_BadMix, M.x_BadMix, M.i_BadMix.f _ (by simp)⟩
structure Lm {K : PySem.W.Frag} {mg : Str → Option Value} (M : Md K mg) (base : Heap) : Prop where
  l__law_first_right : LamK mg base M.d__law_first_right (qL "_law_first_right" (defScope s__law_first_right))
  l_law : LamK mg base M.d_law (qL "law" (defScope s_law))
theorem sh_is_integer_0 (M : Md K mg) : ShapeOk K M.d_is_integer ["value"] ⟨1, [], [.pos 0]⟩ (fun us ws => [Src.pos 0].map (Src.u us ws)) := shape_of M.t_is_integer ⟨1, [], [.pos 0]⟩ rfl rfl fun _ _ _ _ _ _ us ws h1 h2 => match us, ws, h1, h2 with | [_], [], _, _ => rfl
theorem sh_is_within_0 (M : Md K mg) : ShapeOk K M.d_is_within ["value", "least", "most"] ⟨3, [], [.pos 0, .pos 1, .pos 2]⟩ (fun us ws => [Src.pos 0, Src.pos 1, Src.pos 2].map (Src.u us ws)) := shape_of M.t_is_within ⟨3, [], [.pos 0, .pos 1, .pos 2]⟩ rfl rfl fun _ _ _ _ _ _ us ws h1 h2 => match us, ws, h1, h2 with | [_, _, _], [], _, _ => rfl
theorem sh_need_integer_0 (M : Md K mg) : ShapeOk K M.d_need_integer ["value", "part", "least", "most"] ⟨4, [], [.pos 0, .pos 1, .pos 2, .pos 3]⟩ (fun us ws => [Src.pos 0, Src.pos 1, Src.pos 2, Src.pos 3].map (Src.u us ws)) := shape_of M.t_need_integer ⟨4, [], [.pos 0, .pos 1, .pos 2, .pos 3]⟩ rfl rfl fun _ _ _ _ _ _ us ws h1 h2 => match us, ws, h1, h2 with | [_, _, _, _], [], _, _ => rfl
theorem sh_is_list_0 (M : Md K mg) : ShapeOk K M.d_is_list ["value"] ⟨1, [], [.pos 0]⟩ (fun us ws => [Src.pos 0].map (Src.u us ws)) := shape_of M.t_is_list ⟨1, [], [.pos 0]⟩ rfl rfl fun _ _ _ _ _ _ us ws h1 h2 => match us, ws, h1, h2 with | [_], [], _, _ => rfl
theorem sh_common_0 (M : Md K mg) : ShapeOk K M.d_common ["one", "other"] ⟨2, [], [.pos 0, .pos 1]⟩ (fun us ws => [Src.pos 0, Src.pos 1].map (Src.u us ws)) := shape_of M.t_common ⟨2, [], [.pos 0, .pos 1]⟩ rfl rfl fun _ _ _ _ _ _ us ws h1 h2 => match us, ws, h1, h2 with | [_, _], [], _, _ => rfl
theorem sh_is_number_0 (M : Md K mg) : ShapeOk K M.d_is_number ["value"] ⟨1, [], [.pos 0]⟩ (fun us ws => [Src.pos 0].map (Src.u us ws)) := shape_of M.t_is_number ⟨1, [], [.pos 0]⟩ rfl rfl fun _ _ _ _ _ _ us ws h1 h2 => match us, ws, h1, h2 with | [_], [], _, _ => rfl
theorem sh_above_in_0 (M : Md K mg) : ShapeOk K M.d_above_in ["number"] ⟨1, [], [.pos 0]⟩ (fun us ws => [Src.pos 0].map (Src.u us ws)) := shape_of M.t_above_in ⟨1, [], [.pos 0]⟩ rfl rfl fun _ _ _ _ _ _ us ws h1 h2 => match us, ws, h1, h2 with | [_], [], _, _ => rfl
theorem sh_is_from_0_0 (M : Md K mg) : ShapeOk K M.d_is_from_0 ["value"] ⟨1, [], [.pos 0]⟩ (fun us ws => [Src.pos 0].map (Src.u us ws)) := shape_of M.t_is_from_0 ⟨1, [], [.pos 0]⟩ rfl rfl fun _ _ _ _ _ _ us ws h1 h2 => match us, ws, h1, h2 with | [_], [], _, _ => rfl
theorem sh_is_row_0 (M : Md K mg) : ShapeOk K M.d_is_row ["value", "many"] ⟨2, [], [.pos 0, .pos 1]⟩ (fun us ws => [Src.pos 0, Src.pos 1].map (Src.u us ws)) := shape_of M.t_is_row ⟨2, [], [.pos 0, .pos 1]⟩ rfl rfl fun _ _ _ _ _ _ us ws h1 h2 => match us, ws, h1, h2 with | [_, _], [], _, _ => rfl
theorem sh_kept_0 (M : Md K mg) : ShapeOk K M.d_kept ["number"] ⟨1, [], [.pos 0]⟩ (fun us ws => [Src.pos 0].map (Src.u us ws)) := shape_of M.t_kept ⟨1, [], [.pos 0]⟩ rfl rfl fun _ _ _ _ _ _ us ws h1 h2 => match us, ws, h1, h2 with | [_], [], _, _ => rfl
theorem sh_is_market_of_0 (M : Md K mg) : ShapeOk K M.d_is_market_of ["value", "goods"] ⟨2, [], [.pos 0, .pos 1]⟩ (fun us ws => [Src.pos 0, Src.pos 1].map (Src.u us ws)) := shape_of M.t_is_market_of ⟨2, [], [.pos 0, .pos 1]⟩ rfl rfl fun _ _ _ _ _ _ us ws h1 h2 => match us, ws, h1, h2 with | [_, _], [], _, _ => rfl
theorem sh_kept_row_0 (M : Md K mg) : ShapeOk K M.d_kept_row ["row"] ⟨1, [], [.pos 0]⟩ (fun us ws => [Src.pos 0].map (Src.u us ws)) := shape_of M.t_kept_row ⟨1, [], [.pos 0]⟩ rfl rfl fun _ _ _ _ _ _ us ws h1 h2 => match us, ws, h1, h2 with | [_], [], _, _ => rfl
theorem sh_choose_in_0 (M : Md K mg) : ShapeOk K M.d_choose_in ["many", "some"] ⟨2, [], [.pos 0, .pos 1]⟩ (fun us ws => [Src.pos 0, Src.pos 1].map (Src.u us ws)) := shape_of M.t_choose_in ⟨2, [], [.pos 0, .pos 1]⟩ rfl rfl fun _ _ _ _ _ _ us ws h1 h2 => match us, ws, h1, h2 with | [_, _], [], _, _ => rfl
theorem sh_factor_in_0 (M : Md K mg) : ShapeOk K M.d_factor_in ["goods", "days"] ⟨2, [], [.pos 0, .pos 1]⟩ (fun us ws => [Src.pos 0, Src.pos 1].map (Src.u us ws)) := shape_of M.t_factor_in ⟨2, [], [.pos 0, .pos 1]⟩ rfl rfl fun _ _ _ _ _ _ us ws h1 h2 => match us, ws, h1, h2 with | [_, _], [], _, _ => rfl
theorem sh_halves_0 (M : Md K mg) : ShapeOk K M.d_halves ["number"] ⟨1, [], [.pos 0]⟩ (fun us ws => [Src.pos 0].map (Src.u us ws)) := shape_of M.t_halves ⟨1, [], [.pos 0]⟩ rfl rfl fun _ _ _ _ _ _ us ws h1 h2 => match us, ws, h1, h2 with | [_], [], _, _ => rfl
theorem sh_lowest_0 (M : Md K mg) : ShapeOk K M.d_lowest ["above", "under"] ⟨2, [], [.pos 0, .pos 1]⟩ (fun us ws => [Src.pos 0, Src.pos 1].map (Src.u us ws)) := shape_of M.t_lowest ⟨2, [], [.pos 0, .pos 1]⟩ rfl rfl fun _ _ _ _ _ _ us ws h1 h2 => match us, ws, h1, h2 with | [_, _], [], _, _ => rfl
theorem sh_added_0 (M : Md K mg) : ShapeOk K M.d_added ["one", "other"] ⟨2, [], [.pos 0, .pos 1]⟩ (fun us ws => [Src.pos 0, Src.pos 1].map (Src.u us ws)) := shape_of M.t_added ⟨2, [], [.pos 0, .pos 1]⟩ rfl rfl fun _ _ _ _ _ _ us ws h1 h2 => match us, ws, h1, h2 with | [_, _], [], _, _ => rfl
theorem sh_factorial_0 (M : Md K mg) : ShapeOk K M.d_factorial ["number"] ⟨1, [], [.pos 0]⟩ (fun us ws => [Src.pos 0].map (Src.u us ws)) := shape_of M.t_factorial ⟨1, [], [.pos 0]⟩ rfl rfl fun _ _ _ _ _ _ us ws h1 h2 => match us, ws, h1, h2 with | [_], [], _, _ => rfl
theorem sh_with_one_0 (M : Md K mg) : ShapeOk K M.d_with_one ["counts", "good"] ⟨2, [], [.pos 0, .pos 1]⟩ (fun us ws => [Src.pos 0, Src.pos 1].map (Src.u us ws)) := shape_of M.t_with_one ⟨2, [], [.pos 0, .pos 1]⟩ rfl rfl fun _ _ _ _ _ _ us ws h1 h2 => match us, ws, h1, h2 with | [_, _], [], _, _ => rfl
theorem sh_product_0 (M : Md K mg) : ShapeOk K M.d_product ["one", "other"] ⟨2, [], [.pos 0, .pos 1]⟩ (fun us ws => [Src.pos 0, Src.pos 1].map (Src.u us ws)) := shape_of M.t_product ⟨2, [], [.pos 0, .pos 1]⟩ rfl rfl fun _ _ _ _ _ _ us ws h1 h2 => match us, ws, h1, h2 with | [_, _], [], _, _ => rfl
theorem sh_grouped_0 (M : Md K mg) : ShapeOk K M.d_grouped ["goods", "market"] ⟨2, [], [.pos 0, .pos 1]⟩ (fun us ws => [Src.pos 0, Src.pos 1].map (Src.u us ws)) := shape_of M.t_grouped ⟨2, [], [.pos 0, .pos 1]⟩ rfl rfl fun _ _ _ _ _ _ us ws h1 h2 => match us, ws, h1, h2 with | [_, _], [], _, _ => rfl
theorem sh_weight_in_0 (M : Md K mg) : ShapeOk K M.d_weight_in ["counts"] ⟨1, [], [.pos 0]⟩ (fun us ws => [Src.pos 0].map (Src.u us ws)) := shape_of M.t_weight_in ⟨1, [], [.pos 0]⟩ rfl rfl fun _ _ _ _ _ _ us ws h1 h2 => match us, ws, h1, h2 with | [_], [], _, _ => rfl
theorem sh_total_0 (M : Md K mg) : ShapeOk K M.d_total ["numbers"] ⟨1, [], [.pos 0]⟩ (fun us ws => [Src.pos 0].map (Src.u us ws)) := shape_of M.t_total ⟨1, [], [.pos 0]⟩ rfl rfl fun _ _ _ _ _ _ us ws h1 h2 => match us, ws, h1, h2 with | [_], [], _, _ => rfl
theorem sh_need_goods_0 (M : Md K mg) : ShapeOk K M.d_need_goods ["value"] ⟨1, [], [.pos 0]⟩ (fun us ws => [Src.pos 0].map (Src.u us ws)) := shape_of M.t_need_goods ⟨1, [], [.pos 0]⟩ rfl rfl fun _ _ _ _ _ _ us ws h1 h2 => match us, ws, h1, h2 with | [_], [], _, _ => rfl
theorem sh_need_market_0 (M : Md K mg) : ∃ g, ShapeOk K M.d_need_market ["value", "goods", "part"] ⟨2, [], [.pos 0, .pos 1, .cst 0 (.str "market")]⟩ g := shape_ofD M.t_need_market ⟨2, [], [.pos 0, .pos 1, .cst 0 (.str "market")]⟩ rfl (by intro q h; simp only [List.mem_cons, List.not_mem_nil, or_false] at h; rcases h with rfl | h <;> (try (rcases h with rfl | h)) <;> (try (rcases h with rfl | h)) <;> (try subst h) <;> first | rfl | trivial) fun _ _ _ _ _ _ _ us ws its h1 h2 h3 => match us, ws, its, h1, h2, h3 with | [_, _], [], [_], _, _, _ => ⟨_, rfl, rfl⟩
theorem sh_need_few_0 (M : Md K mg) : ShapeOk K M.d_need_few ["goods", "market"] ⟨2, [], [.pos 0, .pos 1]⟩ (fun us ws => [Src.pos 0, Src.pos 1].map (Src.u us ws)) := shape_of M.t_need_few ⟨2, [], [.pos 0, .pos 1]⟩ rfl rfl fun _ _ _ _ _ _ us ws h1 h2 => match us, ws, h1, h2 with | [_, _], [], _, _ => rfl
theorem sh_purse_in_0 (M : Md K mg) : ShapeOk K M.d_purse_in ["goods", "market"] ⟨2, [], [.pos 0, .pos 1]⟩ (fun us ws => [Src.pos 0, Src.pos 1].map (Src.u us ws)) := shape_of M.t_purse_in ⟨2, [], [.pos 0, .pos 1]⟩ rfl rfl fun _ _ _ _ _ _ us ws h1 h2 => match us, ws, h1, h2 with | [_, _], [], _, _ => rfl
theorem sh_is_sum_1_0 (M : Md K mg) : ShapeOk K M.d_is_sum_1 ["row"] ⟨1, [], [.pos 0]⟩ (fun us ws => [Src.pos 0].map (Src.u us ws)) := shape_of M.t_is_sum_1 ⟨1, [], [.pos 0]⟩ rfl rfl fun _ _ _ _ _ _ us ws h1 h2 => match us, ws, h1, h2 with | [_], [], _, _ => rfl
theorem sh_is_mix_of_0 (M : Md K mg) : ShapeOk K M.d_is_mix_of ["value", "goods"] ⟨2, [], [.pos 0, .pos 1]⟩ (fun us ws => [Src.pos 0, Src.pos 1].map (Src.u us ws)) := shape_of M.t_is_mix_of ⟨2, [], [.pos 0, .pos 1]⟩ rfl rfl fun _ _ _ _ _ _ us ws h1 h2 => match us, ws, h1, h2 with | [_, _], [], _, _ => rfl
theorem sh_turned_0 (M : Md K mg) : ShapeOk K M.d_turned ["number"] ⟨1, [], [.pos 0]⟩ (fun us ws => [Src.pos 0].map (Src.u us ws)) := shape_of M.t_turned ⟨1, [], [.pos 0]⟩ rfl rfl fun _ _ _ _ _ _ us ws h1 h2 => match us, ws, h1, h2 with | [_], [], _, _ => rfl
theorem sh_need_mix_0 (M : Md K mg) : ∃ g, ShapeOk K M.d_need_mix ["value", "goods", "part"] ⟨2, [], [.pos 0, .pos 1, .cst 0 (.str "shares")]⟩ g := shape_ofD M.t_need_mix ⟨2, [], [.pos 0, .pos 1, .cst 0 (.str "shares")]⟩ rfl (by intro q h; simp only [List.mem_cons, List.not_mem_nil, or_false] at h; rcases h with rfl | h <;> (try (rcases h with rfl | h)) <;> (try (rcases h with rfl | h)) <;> (try subst h) <;> first | rfl | trivial) fun _ _ _ _ _ _ _ us ws its h1 h2 h3 => match us, ws, its, h1, h2, h3 with | [_, _], [], [_], _, _, _ => ⟨_, rfl, rfl⟩
theorem sh_summed_0 (M : Md K mg) : ShapeOk K M.d_summed ["row", "other"] ⟨2, [], [.pos 0, .pos 1]⟩ (fun us ws => [Src.pos 0, Src.pos 1].map (Src.u us ws)) := shape_of M.t_summed ⟨2, [], [.pos 0, .pos 1]⟩ rfl rfl fun _ _ _ _ _ _ us ws h1 h2 => match us, ws, h1, h2 with | [_, _], [], _, _ => rfl
theorem sh_multiplied_0 (M : Md K mg) : ShapeOk K M.d_multiplied ["numbers"] ⟨1, [], [.pos 0]⟩ (fun us ws => [Src.pos 0].map (Src.u us ws)) := shape_of M.t_multiplied ⟨1, [], [.pos 0]⟩ rfl rfl fun _ _ _ _ _ _ us ws h1 h2 => match us, ws, h1, h2 with | [_], [], _, _ => rfl
theorem sh_less_by_0 (M : Md K mg) : ShapeOk K M.d_less_by ["one", "other"] ⟨2, [], [.pos 0, .pos 1]⟩ (fun us ws => [Src.pos 0, Src.pos 1].map (Src.u us ws)) := shape_of M.t_less_by ⟨2, [], [.pos 0, .pos 1]⟩ rfl rfl fun _ _ _ _ _ _ us ws h1 h2 => match us, ws, h1, h2 with | [_, _], [], _, _ => rfl
theorem sh_need_days_0 (M : Md K mg) : ShapeOk K M.d_need_days ["value"] ⟨1, [], [.pos 0]⟩ (fun us ws => [Src.pos 0].map (Src.u us ws)) := shape_of M.t_need_days ⟨1, [], [.pos 0]⟩ rfl rfl fun _ _ _ _ _ _ us ws h1 h2 => match us, ws, h1, h2 with | [_], [], _, _ => rfl
theorem sh_need_counts_0 (M : Md K mg) : ShapeOk K M.d_need_counts ["value", "part"] ⟨2, [], [.pos 0, .pos 1]⟩ (fun us ws => [Src.pos 0, Src.pos 1].map (Src.u us ws)) := shape_of M.t_need_counts ⟨2, [], [.pos 0, .pos 1]⟩ rfl rfl fun _ _ _ _ _ _ us ws h1 h2 => match us, ws, h1, h2 with | [_, _], [], _, _ => rfl
theorem sh_even_purse_0 (M : Md K mg) : ShapeOk K M.d_even_purse ["goods", "market"] ⟨2, [], [.pos 0, .pos 1]⟩ (fun us ws => [Src.pos 0, Src.pos 1].map (Src.u us ws)) := shape_of M.t_even_purse ⟨2, [], [.pos 0, .pos 1]⟩ rfl rfl fun _ _ _ _ _ _ us ws h1 h2 => match us, ws, h1, h2 with | [_, _], [], _, _ => rfl
theorem sh_even_factor_0 (M : Md K mg) : ShapeOk K M.d_even_factor ["goods", "days"] ⟨2, [], [.pos 0, .pos 1]⟩ (fun us ws => [Src.pos 0, Src.pos 1].map (Src.u us ws)) := shape_of M.t_even_factor ⟨2, [], [.pos 0, .pos 1]⟩ rfl rfl fun _ _ _ _ _ _ us ws h1 h2 => match us, ws, h1, h2 with | [_, _], [], _, _ => rfl
theorem sh_even_amounts_0 (M : Md K mg) : ShapeOk K M.d_even_amounts ["goods", "market"] ⟨2, [], [.pos 0, .pos 1]⟩ (fun us ws => [Src.pos 0, Src.pos 1].map (Src.u us ws)) := shape_of M.t_even_amounts ⟨2, [], [.pos 0, .pos 1]⟩ rfl rfl fun _ _ _ _ _ _ us ws h1 h2 => match us, ws, h1, h2 with | [_, _], [], _, _ => rfl
theorem sh_even_spare_0 (M : Md K mg) : ShapeOk K M.d_even_spare ["goods", "market", "shares"] ⟨3, [], [.pos 0, .pos 1, .pos 2]⟩ (fun us ws => [Src.pos 0, Src.pos 1, Src.pos 2].map (Src.u us ws)) := shape_of M.t_even_spare ⟨3, [], [.pos 0, .pos 1, .pos 2]⟩ rfl rfl fun _ _ _ _ _ _ us ws h1 h2 => match us, ws, h1, h2 with | [_, _, _], [], _, _ => rfl
theorem sh_even_weight_0 (M : Md K mg) : ShapeOk K M.d_even_weight ["counts"] ⟨1, [], [.pos 0]⟩ (fun us ws => [Src.pos 0].map (Src.u us ws)) := shape_of M.t_even_weight ⟨1, [], [.pos 0]⟩ rfl rfl fun _ _ _ _ _ _ us ws h1 h2 => match us, ws, h1, h2 with | [_], [], _, _ => rfl
theorem sh__law_pen_0 (M : Md K mg) : ShapeOk K M.d__law_pen ["_law_script"] ⟨1, [], [.pos 0]⟩ (fun us ws => [Src.pos 0].map (Src.u us ws)) := shape_of M.t__law_pen ⟨1, [], [.pos 0]⟩ rfl rfl fun _ _ _ _ _ _ us ws h1 h2 => match us, ws, h1, h2 with | [_], [], _, _ => rfl
theorem ok__law_pen (M : Md K mg) (hD : base.NoDigits) : FnG P w K mg base 1 M.a__law_pen M.d__law_pen ["_law_script"] (spF ⟨K, mg⟩ 1 false F__law_pen) := fn_text M.t__law_pen sc__law_pen fun cdv A outer s H E hg hr =>
    (sss_one (ss_ret (se_lst (sa_cons (se_lc (own := [("_law_cell", 1)]) rfl sc__law_pen.nd (si_seq (se_sl (se_var (pv 0)) so_none (so_some se_int))) (blkOk_by (by rfl)) (fun _ _ _ _ _ => (sg_name (ts := (List.map (fun p : Str × Nat => p.2) [("_law_cell", 1)])) (pg_name (i := 1) sc__law_pen.nd (by rfl) (by first | exact .inl rfl | exact .inr rfl)) (by decide))) (fun _ _ _ _ _ => spt_nil) (fun _ _ _ _ _ => (se_callTy call_int1 cas_int (by rfl) M.n_int (by first | exact PySem.boot_int | decide +kernel | rfl) (sa_cons (se_var (pv 1)) sa_nil (star_no rfl)) (by decide) (by decide) rfl)) (fun _ => rfl)) (sa_cons se_int (sa_cons se_int sa_nil (star_no rfl)) (star_no rfl)) (star_no rfl)))))
theorem ok__law_draw (M : Md K mg) (hD : base.NoDigits) : FnG P w K mg base 1 M.a__law_draw M.d__law_draw ["_law_pen_here", "_law_many"] (spF ⟨K, mg⟩ 2 true F__law_draw) := fn_text M.t__law_draw sc__law_draw fun cdv A outer s H E hg hr =>
    (sss_cons (ss_set (ps_set (i := 2) sc__law_draw.nd (by rfl) (by first | exact .inl rfl | exact .inr rfl) (se_callTy call_int1 cas_int (by rfl) M.n_int (by first | exact PySem.boot_int | decide +kernel | rfl) (sa_cons (se_ixS (pv 0) se_int (fun _ _ => rfl)) sa_nil (star_no rfl)) (by decide) (by decide) rfl)))
    (sss_cons (ss_if (st_cmp op_gt ops_gt (se_var (pv 2)) se_int (nomark _)) (sss_cons (ss_put (ps_asg (se_bin op_fdivA ops_fdiv (se_var (pv 2)) (se_var (pv 1))) (pg_sub (pv 0) se_int set_list (fun _ => rfl)) (by rfl) (by rfl) (by rfl)))
    (sss_one (ss_ret (se_bin op_modN ops_mod (se_var (pv 2)) (se_var (pv 1)))))) sss_nil)
    (sss_cons (ss_if (st_cmp (op_eqS (un64 hr)) ops_eqS (se_ixS (pv 0) se_int (fun _ _ => rfl)) (se_lst sa_nil) (nomark _)) (sss_one (ss_ret se_int)) sss_nil)
    (sss_cons (ss_set (ps_set (i := 3) sc__law_draw.nd (by rfl) (by first | exact .inl rfl | exact .inr rfl) (se_ixS (pv 0) se_int (fun _ _ => rfl))))
    (sss_cons (ss_put (ps_asg (se_bin op_addAll ops_add (se_var (pv 3)) se_int) (pg_sub (pv 0) se_int set_list (fun _ => rfl)) (by rfl) (by rfl) (by rfl)))
    (sss_cons (ss_set (ps_set (i := 4) sc__law_draw.nd (by rfl) (by first | exact .inl rfl | exact .inr rfl) (se_ix (se_ixS (pv 0) se_int (fun _ _ => rfl)) (se_bin op_modN ops_mod (se_callTy call_int1 cas_int (by rfl) M.n_int (by first | exact PySem.boot_int | decide +kernel | rfl) (sa_cons (se_var (pv 3)) sa_nil (star_no rfl)) (by decide) (by decide) rfl) (se_callB call_len cas_len (by rfl) M.n_len (by first | exact PySem.boot_len | decide +kernel | rfl) (sa_cons (se_ixS (pv 0) se_int (fun _ _ => rfl)) sa_nil (star_no rfl)) (by decide) (by decide) rfl)) (fun _ _ => rfl))))
    (sss_cons (ss_if (PW.pt (sw_and (st_cmp op_lt ops_lt (se_var (pv 3)) (se_callB call_len cas_len (by rfl) M.n_len (by first | exact PySem.boot_len | decide +kernel | rfl) (sa_cons (se_ixS (pv 0) se_int (fun _ _ => rfl)) sa_nil (star_no rfl)) (by decide) (by decide) rfl) (nomark _)) (sw_and1 (st_cmp op_ge ops_ge (se_callB call_abs cas_abs (by rfl) M.n_abs (by first | exact PySem.boot_abs | decide +kernel | rfl) (sa_cons (se_var (pv 4)) sa_nil (star_no rfl)) (by decide) (by decide) rfl) (se_bin op_pow ops_pow se_int se_int) (nomark _))))) (sss_cons (ss_set (ps_set (i := 2) sc__law_draw.nd (by rfl) (by first | exact .inl rfl | exact .inr rfl) (se_bin op_addAll ops_add (se_bin op_mulAll ops_mul se_int (se_bin op_sub ops_sub (se_callB call_abs cas_abs (by rfl) M.n_abs (by first | exact PySem.boot_abs | decide +kernel | rfl) (sa_cons (se_var (pv 4)) sa_nil (star_no rfl)) (by decide) (by decide) rfl) (se_bin op_pow ops_pow se_int se_int))) (se_callTy call_int1 cas_int (by rfl) M.n_int (by first | exact PySem.boot_int | decide +kernel | rfl) (sa_cons (se_cmp op_lt ops_lt (se_var (pv 4)) se_int (nomark _)) sa_nil (star_no rfl)) (by decide) (by decide) rfl))))
    (sss_cons (ss_put (ps_asg (se_bin op_fdivA ops_fdiv (se_var (pv 2)) (se_var (pv 1))) (pg_sub (pv 0) se_int set_list (fun _ => rfl)) (by rfl) (by rfl) (by rfl)))
    (sss_one (ss_ret (se_bin op_modN ops_mod (se_var (pv 2)) (se_var (pv 1))))))) sss_nil)
    (sss_cons (ss_set (ps_set (i := 5) sc__law_draw.nd (by rfl) (by first | exact .inl rfl | exact .inr rfl) (se_bin op_modN ops_mod (se_callTy call_int1 cas_int (by rfl) M.n_int (by first | exact PySem.boot_int | decide +kernel | rfl) (sa_cons (se_bin op_pow ops_pow (se_bin op_addAll ops_add (se_bin op_addAll ops_add (se_bin op_modN ops_mod (se_callTy call_int1 cas_int (by rfl) M.n_int (by first | exact PySem.boot_int | decide +kernel | rfl) (sa_cons (se_var (pv 4)) sa_nil (star_no rfl)) (by decide) (by decide) rfl) se_int) (se_bin op_mulAll ops_mul se_int (se_var (pv 3)))) se_int) se_int) sa_nil (star_no rfl)) (by decide) (by decide) rfl) se_int)))
    (sss_cons (ss_set (ps_set (i := 5) sc__law_draw.nd (by rfl) (by first | exact .inl rfl | exact .inr rfl) (se_bin op_modN ops_mod (se_callTy call_int1 cas_int (by rfl) M.n_int (by first | exact PySem.boot_int | decide +kernel | rfl) (sa_cons (se_bin op_pow ops_pow (se_bin op_addAll ops_add (se_bin op_addAll ops_add (se_bin op_mulAll ops_mul (se_var (pv 5)) (se_bin op_addAll ops_add (se_bin op_mulAll ops_mul se_int (se_var (pv 3))) se_int)) (se_bin op_mulAll ops_mul (se_bin op_mulAll ops_mul se_int (se_var (pv 3))) (se_var (pv 3)))) se_int) se_int) sa_nil (star_no rfl)) (by decide) (by decide) rfl) se_int)))
    (sss_one (ss_ret (se_bin op_modN ops_mod (se_callTy call_int1 cas_int (by rfl) M.n_int (by first | exact PySem.boot_int | decide +kernel | rfl) (sa_cons (se_bin op_fdivA ops_fdiv (se_var (pv 5)) se_int) sa_nil (star_no rfl)) (by decide) (by decide) rfl) (se_var (pv 1))))))))))))))
theorem ok__law_one_of (M : Md K mg) (hD : base.NoDigits) : FnG P w K mg base 2 M.a__law_one_of M.d__law_one_of ["_law_pen_here", "_law_some"] (spF ⟨K, mg⟩ 2 true F__law_one_of) := fn_text M.t__law_one_of sc__law_one_of fun cdv A outer s H E hg hr =>
    (sss_one (ss_ret (se_ixS (pv 1) (se_callIo (ok__law_draw M hD) (binds_of M.t__law_draw 2 fun _ _ _ _ _ _ us hl => match us, hl with | [_, _], _ => rfl) hg (hr.mono (by decide)) pass_body (by rfl) M.g__law_draw M.t__law_draw.kp (by decide) (pv 0) (sa_cons (se_callB call_len cas_len (by rfl) M.n_len (by first | exact PySem.boot_len | decide +kernel | rfl) (sa_cons (se_var (pv 1)) sa_nil (star_no rfl)) (by decide) (by decide) rfl) sa_nil (star_no rfl)) rfl) (fun _ _ => rfl))))
theorem hd__law_heard (M : Md K mg) : ∃ cdg, HearD K mg "_law_heard" "_law_ask" "_law_caught" "error" "PriceError" 1 2 ["_law_ask", "_law_caught", "error", "_law_kinds", "_law_words", "_law_word", "_law_is_so"] (defScope s__law_heard) ((defBody s__law_heard).drop 2) M.a__law_heard cdg M.C_PriceError := by
  obtain ⟨oc, od, kV, doc, pm, an, cdv, ct, osl, e1, lk, hcd⟩ := M.t__law_heard.ex
  rw [e1] at lk
  exact ⟨cdv, { m := M.g__law_heard, kp := M.t__law_heard.kp, fn := ⟨defArgs s__law_heard, defBody s__law_heard, .none, kV, doc, pm, ct, oc, an, od, osl, lk, ⟨_, _, _, _, _, _, _, _, _, _, _, _, _, rfl⟩, .all fun us hl => match us, hl with | [_], _ => rfl⟩, cd := hcd, sc := sc__law_heard, n0 := rfl, nc := rfl, ne := rfl, ce := by decide, cz := by decide, l0 := rfl, lc := rfl, le := rfl, gE := rfl, mE := M.g_PriceError, db := by decide }⟩
theorem hr__law_heard (M : Md K mg) (hD : base.NoDigits) (g : Addr) (cdg : Value) (A : Around) (outer : List Env) (s : Shared) (H : Hp) {k : Nat} (hg : (A.deeper (envOfC "_law_heard" (defScope s__law_heard) s.heap.objs.size g cdg)).guards = some []) (hr : Room k (A.deeper (envOfC "_law_heard" (defScope s__law_heard) s.heap.objs.size g cdg))) :
    SSs (cxOf (L2.CX P w) P w K mg base ["_law_ask", "_law_caught", "error", "_law_kinds", "_law_words", "_law_word", "_law_is_so"] "_law_heard" (defScope s__law_heard) g cdg A outer s H EN) EN ((defBody s__law_heard).drop 2) b__law_heard :=
    (sss_cons (ss_if (st_tru (se_isO (T := [("BadNumber", false), ("BadMarket", false), ("TooMany", true), ("BadMix", false)]) (io_TooMany M) (by rfl) M.n_isinstance (by first | decide +kernel | rfl) (by decide) (by decide) (by rfl) M.g_TooMany (by decide) (se_var (pv 1)) rfl) (fun _ => rfl)) (sss_one (ss_ret (se_tup (sa_cons se_str (sa_cons (se_fld (fo_what M) (se_var (pv 1)) (by rfl)) (sa_cons (se_fld (fo_most M) (se_var (pv 1)) (by rfl)) sa_nil (star_no rfl)) (star_no rfl)) (star_no rfl))))) sss_nil)
    (sss_cons (ss_set (ps_set (i := 3) sc__law_heard.nd (by rfl) (by first | exact .inl rfl | exact .inr rfl) (se_lst (sa_cons (se_tup (sa_cons se_str (sa_cons (se_isO (T := [("BadNumber", true), ("BadMarket", false), ("TooMany", false), ("BadMix", false)]) (io_BadNumber M) (by rfl) M.n_isinstance (by first | decide +kernel | rfl) (by decide) (by decide) (by rfl) M.g_BadNumber (by decide) (se_var (pv 1)) rfl) sa_nil (star_no rfl)) (star_no rfl))) (sa_cons (se_tup (sa_cons se_str (sa_cons (se_isO (T := [("BadNumber", false), ("BadMarket", true), ("TooMany", false), ("BadMix", false)]) (io_BadMarket M) (by rfl) M.n_isinstance (by first | decide +kernel | rfl) (by decide) (by decide) (by rfl) M.g_BadMarket (by decide) (se_var (pv 1)) rfl) sa_nil (star_no rfl)) (star_no rfl))) (sa_cons (se_tup (sa_cons se_str (sa_cons (se_isO (T := [("BadNumber", false), ("BadMarket", false), ("TooMany", false), ("BadMix", true)]) (io_BadMix M) (by rfl) M.n_isinstance (by first | decide +kernel | rfl) (by decide) (by decide) (by rfl) M.g_BadMix (by decide) (se_var (pv 1)) rfl) sa_nil (star_no rfl)) (star_no rfl))) sa_nil (star_no rfl)) (star_no rfl)) (star_no rfl)))))
    (sss_cons (ss_setLc (own := [("_law_word", 5), ("_law_is_so", 6)]) (i := 4) rfl sc__law_heard.nd (by rfl) (by rfl) (by rfl) (si_seq (se_var (pv 3))) (blkOk_by (by rfl)) (fun _ _ _ _ _ => (sg_tup rfl (sgs_cons (sg_name (ts := (List.map (fun p : Str × Nat => p.2) [("_law_word", 5), ("_law_is_so", 6)])) (pg_name (i := 5) sc__law_heard.nd (by rfl) (by first | exact .inl rfl | exact .inr rfl)) (by decide)) (sgs_cons (sg_name (ts := (List.map (fun p : Str × Nat => p.2) [("_law_word", 5), ("_law_is_so", 6)])) (pg_name (i := 6) sc__law_heard.nd (by rfl) (by first | exact .inl rfl | exact .inr rfl)) (by decide)) sgs_nil (by rfl)) (by rfl)) (by rfl) (by rfl))) (fun _ _ _ _ _ => (spt_one (st_tru (se_var (pv 6)) (fun _ => rfl)))) (fun _ _ _ _ _ => (se_var (pv 5))) (fun _ => rfl))
    (sss_cons (ss_if (st_cmp (op_eqS (un64 hr)) ops_eqS (se_callB call_len cas_len (by rfl) M.n_len (by first | exact PySem.boot_len | decide +kernel | rfl) (sa_cons (se_var (pv 4)) sa_nil (star_no rfl)) (by decide) (by decide) rfl) se_int (nomark _)) (sss_one (ss_ret (se_tup (sa_cons (se_ixS (pv 4) se_int (fun _ _ => rfl)) (sa_cons (se_fld (fo_part M) (se_var (pv 1)) (by rfl)) sa_nil (star_no rfl)) (star_no rfl))))) sss_nil)
    (sss_one (ss_ret (se_if (st_cmp op_isN ops_is (se_var (pv 1)) se_non (nomark _)) se_non (se_tup (sa_cons se_str (sa_cons se_non sa_nil (star_no rfl)) (star_no rfl))))))))))
theorem ok_is_integer (M : Md K mg) (hD : base.NoDigits) : FnG P w K mg base 1 M.a_is_integer M.d_is_integer ["value"] (spF ⟨K, mg⟩ 1 false F_is_integer) := fn_text M.t_is_integer sc_is_integer fun cdv A outer s H E hg hr =>
    (sss_one (ss_ret (se_and (se_isi (T := "int") (by rfl) M.n_isinstance (by first | decide +kernel | rfl) (by decide) (by decide) (by rfl) M.n_int (by first | decide +kernel | rfl) (by decide) (by decide) (se_var (pv 0)) rfl) (se_one (se_not (se_isi (T := "bool") (by rfl) M.n_isinstance (by first | decide +kernel | rfl) (by decide) (by decide) (by rfl) M.n_bool (by first | decide +kernel | rfl) (by decide) (by decide) (se_var (pv 0)) rfl))))))
theorem ok_is_within (M : Md K mg) (hD : base.NoDigits) : FnG P w K mg base 2 M.a_is_within M.d_is_within ["value", "least", "most"] (spF ⟨K, mg⟩ 3 false F_is_within) := fn_text M.t_is_within sc_is_within fun cdv A outer s H E hg hr =>
    (sss_cons (ss_if (st_not (st_tru (se_call (sh := ⟨1, [], [.pos 0]⟩) (ok_is_integer M hD) (sh_is_integer_0 M) rfl hg (hr.mono (by decide)) pass_body (by rfl) M.g_is_integer M.t_is_integer.kp (by decide) (sa_cons (se_var (pv 0)) sa_nil (star_no rfl)) sk_nil rfl rfl rfl (fun h => nomatch h) (fun _ => rfl)) (fun _ => rfl))) (sss_one (ss_ret se_bl)) sss_nil)
    (sss_one (ss_ret (se_and (se_or (se_cmp op_isN ops_is (se_var (pv 1)) se_non (nomark _)) (se_one (se_cmp op_le ops_le (se_var (pv 1)) (se_var (pv 0)) (nomark _)))) (se_one (se_or (se_cmp op_isN ops_is (se_var (pv 2)) se_non (nomark _)) (se_one (se_cmp op_le ops_le (se_var (pv 0)) (se_var (pv 2)) (nomark _)))))))))
theorem ok_need_integer (M : Md K mg) (hD : base.NoDigits) : FnG P w K mg base 3 M.a_need_integer M.d_need_integer ["value", "part", "least", "most"] (spF ⟨K, mg⟩ 4 false F_need_integer) := fn_text M.t_need_integer sc_need_integer fun cdv A outer s H E hg hr =>
    (sss_one (ss_if (st_not (st_tru (se_call (sh := ⟨3, [], [.pos 0, .pos 1, .pos 2]⟩) (ok_is_within M hD) (sh_is_within_0 M) rfl hg (hr.mono (by decide)) pass_body (by rfl) M.g_is_within M.t_is_within.kp (by decide) (sa_cons (se_var (pv 0)) (sa_cons (se_var (pv 2)) (sa_cons (se_var (pv 3)) sa_nil (star_no rfl)) (star_no rfl)) (star_no rfl)) sk_nil rfl rfl rfl (fun h => nomatch h) (fun _ => rfl)) (fun _ => rfl))) (sss_one (ss_raise (ra_BadNumber M) (by rfl) (by decide) rfl (takes_of rfl rfl rfl rfl) (hr.mono (by decide)) (by decide) (sa_cons (se_var (pv 1)) sa_nil (star_no rfl)) (star_no rfl) (star_none rfl))) sss_nil))
theorem ok_need_goods (M : Md K mg) (hD : base.NoDigits) : FnG P w K mg base 4 M.a_need_goods M.d_need_goods ["value"] (spF ⟨K, mg⟩ 1 false F_need_goods) := fn_text M.t_need_goods sc_need_goods fun cdv A outer s H E hg hr =>
    (sss_one (ss_expr (se_call (sh := ⟨4, [], [.pos 0, .pos 1, .pos 2, .pos 3]⟩) (ok_need_integer M hD) (sh_need_integer_0 M) rfl hg (hr.mono (by decide)) pass_body (by rfl) M.g_need_integer M.t_need_integer.kp (by decide) (sa_cons (se_var (pv 0)) (sa_cons se_str (sa_cons se_int (sa_cons (se_glob (v := .int 5) (by rfl) M.c_MOST_GOODS ⟨_, rfl⟩ rfl (by decide)) sa_nil (star_no rfl)) (star_no rfl)) (star_no rfl)) (star_no rfl)) sk_nil rfl rfl rfl (fun h => nomatch h) (fun _ => rfl)) (by rfl)))
theorem ok_is_list (M : Md K mg) (hD : base.NoDigits) : FnG P w K mg base 1 M.a_is_list M.d_is_list ["value"] (spF ⟨K, mg⟩ 1 false F_is_list) := fn_text M.t_is_list sc_is_list fun cdv A outer s H E hg hr =>
    (sss_one (ss_ret (se_isi2 (T := "list") (U := "tuple") (by rfl) M.n_isinstance (by first | decide +kernel | rfl) (by decide) (by decide) (by rfl) M.n_list (by first | decide +kernel | rfl) (by decide) (by decide) (by rfl) M.n_tuple (by first | decide +kernel | rfl) (by decide) (by decide) (se_var (pv 0)) rfl)))
theorem ok_common (M : Md K mg) (hD : base.NoDigits) : FnG P w K mg base 1 M.a_common M.d_common ["one", "other"] (spF ⟨K, mg⟩ 2 false F_common) := fn_text M.t_common sc_common fun cdv A outer s H E hg hr =>
    (sss_cons (ss_par (by decide) (ps_par rfl sc_common.nd (by rfl) (by rfl) (by decide) (by rfl) (by rfl) (sa_cons (se_callB call_abs cas_abs (by rfl) M.n_abs (by first | exact PySem.boot_abs | decide +kernel | rfl) (sa_cons (se_var (pv 0)) sa_nil (star_no rfl)) (by decide) (by decide) rfl) (sa_cons (se_callB call_abs cas_abs (by rfl) M.n_abs (by first | exact PySem.boot_abs | decide +kernel | rfl) (sa_cons (se_var (pv 1)) sa_nil (star_no rfl)) (by decide) (by decide) rfl) sa_nil (star_no rfl)) (star_no rfl)) (by rfl)))
    (sss_cons (ss_while own_body (st_cmp op_gt ops_gt (se_var (pv 1)) se_int (nomark _)) (sss_one (ss_par (by decide) (ps_par rfl sc_common.nd (by rfl) (by rfl) (by decide) (by rfl) (by rfl) (sa_cons (se_var (pv 1)) (sa_cons (se_bin op_modN ops_mod (se_var (pv 0)) (se_var (pv 1))) sa_nil (star_no rfl)) (star_no rfl)) (by rfl)))))
    (sss_one (ss_ret (se_move (pv 0))))))
theorem ok_is_number (M : Md K mg) (hD : base.NoDigits) : FnG P w K mg base 3 M.a_is_number M.d_is_number ["value"] (spF ⟨K, mg⟩ 1 false F_is_number) := fn_text M.t_is_number sc_is_number fun cdv A outer s H E hg hr =>
    (sss_cons (ss_if (st_tru (se_call (sh := ⟨1, [], [.pos 0]⟩) (ok_is_integer M hD) (sh_is_integer_0 M) rfl hg (hr.mono (by decide)) pass_body (by rfl) M.g_is_integer M.t_is_integer.kp (by decide) (sa_cons (se_var (pv 0)) sa_nil (star_no rfl)) sk_nil rfl rfl rfl (fun h => nomatch h) (fun _ => rfl)) (fun _ => rfl)) (sss_one (ss_ret se_bl)) sss_nil)
    (sss_cons (ss_if (PW.pt (sw_or (st_not (st_tru (se_call (sh := ⟨1, [], [.pos 0]⟩) (ok_is_list M hD) (sh_is_list_0 M) rfl hg (hr.mono (by decide)) pass_body (by rfl) M.g_is_list M.t_is_list.kp (by decide) (sa_cons (se_var (pv 0)) sa_nil (star_no rfl)) sk_nil rfl rfl rfl (fun h => nomatch h) (fun _ => rfl)) (fun _ => rfl))) (sw_or (st_cmp (op_neS (un64 hr)) ops_neS (se_callB call_len cas_len (by rfl) M.n_len (by first | exact PySem.boot_len | decide +kernel | rfl) (sa_cons (se_var (pv 0)) sa_nil (star_no rfl)) (by decide) (by decide) rfl) se_int (nomark _)) (sw_or1 (st_not (st_tru (se_call (sh := ⟨1, [], [.pos 0]⟩) (ok_is_integer M hD) (sh_is_integer_0 M) rfl hg (hr.mono (by decide)) pass_body (by rfl) M.g_is_integer M.t_is_integer.kp (by decide) (sa_cons (se_ixS (pv 0) se_int (fun _ _ => rfl)) sa_nil (star_no rfl)) sk_nil rfl rfl rfl (fun h => nomatch h) (fun _ => rfl)) (fun _ => rfl))))))) (sss_one (ss_ret se_bl)) sss_nil)
    (sss_one (ss_ret (se_and (se_call (sh := ⟨3, [], [.pos 0, .pos 1, .pos 2]⟩) (ok_is_within M hD) (sh_is_within_0 M) rfl hg (hr.mono (by decide)) pass_body (by rfl) M.g_is_within M.t_is_within.kp (by decide) (sa_cons (se_ixS (pv 0) se_int (fun _ _ => rfl)) (sa_cons se_int (sa_cons se_non sa_nil (star_no rfl)) (star_no rfl)) (star_no rfl)) sk_nil rfl rfl rfl (fun h => nomatch h) (fun _ => rfl)) (se_one (se_cmp (op_eqS (un64 hr)) ops_eqS (se_call (sh := ⟨2, [], [.pos 0, .pos 1]⟩) (ok_common M hD) (sh_common_0 M) rfl hg (hr.mono (by decide)) pass_body (by rfl) M.g_common M.t_common.kp (by decide) (sa_cons (se_ixS (pv 0) se_int (fun _ _ => rfl)) (sa_cons (se_ixS (pv 0) se_int (fun _ _ => rfl)) sa_nil (star_no rfl)) (star_no rfl)) sk_nil rfl rfl rfl (fun h => nomatch h) (fun _ => rfl)) se_int (nomark _))))))))
theorem ok_above_in (M : Md K mg) (hD : base.NoDigits) : FnG P w K mg base 2 M.a_above_in M.d_above_in ["number"] (spF ⟨K, mg⟩ 1 false F_above_in) := fn_text M.t_above_in sc_above_in fun cdv A outer s H E hg hr =>
    (sss_one (ss_ret (se_if (st_tru (se_call (sh := ⟨1, [], [.pos 0]⟩) (ok_is_list M hD) (sh_is_list_0 M) rfl hg (hr.mono (by decide)) pass_body (by rfl) M.g_is_list M.t_is_list.kp (by decide) (sa_cons (se_var (pv 0)) sa_nil (star_no rfl)) sk_nil rfl rfl rfl (fun h => nomatch h) (fun _ => rfl)) (fun _ => rfl)) (se_ixS (pv 0) se_int (fun _ _ => rfl)) (se_move (pv 0)))))
theorem ok_is_from_0 (M : Md K mg) (hD : base.NoDigits) : FnG P w K mg base 4 M.a_is_from_0 M.d_is_from_0 ["value"] (spF ⟨K, mg⟩ 1 false F_is_from_0) := fn_text M.t_is_from_0 sc_is_from_0 fun cdv A outer s H E hg hr =>
    (sss_one (ss_ret (se_and (se_call (sh := ⟨1, [], [.pos 0]⟩) (ok_is_number M hD) (sh_is_number_0 M) rfl hg (hr.mono (by decide)) pass_body (by rfl) M.g_is_number M.t_is_number.kp (by decide) (sa_cons (se_var (pv 0)) sa_nil (star_no rfl)) sk_nil rfl rfl rfl (fun h => nomatch h) (fun _ => rfl)) (se_one (se_cmp op_ge ops_ge (se_call (sh := ⟨1, [], [.pos 0]⟩) (ok_above_in M hD) (sh_above_in_0 M) rfl hg (hr.mono (by decide)) pass_body (by rfl) M.g_above_in M.t_above_in.kp (by decide) (sa_cons (se_var (pv 0)) sa_nil (star_no rfl)) sk_nil rfl rfl rfl (fun h => nomatch h) (fun _ => rfl)) se_int (nomark _))))))
theorem ok_is_row (M : Md K mg) (hD : base.NoDigits) : FnG P w K mg base 5 M.a_is_row M.d_is_row ["value", "many"] (spF ⟨K, mg⟩ 2 false F_is_row) := fn_text M.t_is_row sc_is_row fun cdv A outer s H E hg hr =>
    (sss_one (ss_ret (se_and (se_call (sh := ⟨1, [], [.pos 0]⟩) (ok_is_list M hD) (sh_is_list_0 M) rfl hg (hr.mono (by decide)) pass_body (by rfl) M.g_is_list M.t_is_list.kp (by decide) (sa_cons (se_var (pv 0)) sa_nil (star_no rfl)) sk_nil rfl rfl rfl (fun h => nomatch h) (fun _ => rfl)) (se_and (se_cmp (op_eqS (un64 hr)) ops_eqS (se_callB call_len cas_len (by rfl) M.n_len (by first | exact PySem.boot_len | decide +kernel | rfl) (sa_cons (se_var (pv 0)) sa_nil (star_no rfl)) (by decide) (by decide) rfl) (se_var (pv 1)) (nomark _)) (se_one (se_callB (cr_all rfl) cas_all (by rfl) M.n_all (by first | exact PySem.boot_all | decide +kernel | rfl) (sa_cons (se_lc (own := [("each", 2)]) rfl sc_is_row.nd (si_seq (se_var (pv 0))) (blkOk_by (by rfl)) (fun _ _ _ _ _ => (sg_name (ts := (List.map (fun p : Str × Nat => p.2) [("each", 2)])) (pg_name (i := 2) sc_is_row.nd (by rfl) (by first | exact .inl rfl | exact .inr rfl)) (by decide))) (fun _ _ _ _ _ => spt_nil) (fun _ _ _ _ _ => (se_call (sh := ⟨1, [], [.pos 0]⟩) (ok_is_from_0 M hD) (sh_is_from_0_0 M) rfl hg (hr.mono (by decide)) pass_blk (by rfl) M.g_is_from_0 M.t_is_from_0.kp (by decide) (sa_cons (se_var (pv 2)) sa_nil (star_no rfl)) sk_nil rfl rfl rfl (fun h => nomatch h) (fun _ => rfl))) (fun _ => rfl)) sa_nil (star_no rfl)) (by decide) (by decide) rfl))))))
theorem ok_is_market_of (M : Md K mg) (hD : base.NoDigits) : FnG P w K mg base 6 M.a_is_market_of M.d_is_market_of ["value", "goods"] (spF ⟨K, mg⟩ 2 false F_is_market_of) := fn_text M.t_is_market_of sc_is_market_of fun cdv A outer s H E hg hr =>
    (sss_one (ss_ret (se_and (se_call (sh := ⟨1, [], [.pos 0]⟩) (ok_is_list M hD) (sh_is_list_0 M) rfl hg (hr.mono (by decide)) pass_body (by rfl) M.g_is_list M.t_is_list.kp (by decide) (sa_cons (se_var (pv 0)) sa_nil (star_no rfl)) sk_nil rfl rfl rfl (fun h => nomatch h) (fun _ => rfl)) (se_one (se_callB (cr_all rfl) cas_all (by rfl) M.n_all (by first | exact PySem.boot_all | decide +kernel | rfl) (sa_cons (se_lc (own := [("day", 2)]) rfl sc_is_market_of.nd (si_seq (se_var (pv 0))) (blkOk_by (by rfl)) (fun _ _ _ _ _ => (sg_name (ts := (List.map (fun p : Str × Nat => p.2) [("day", 2)])) (pg_name (i := 2) sc_is_market_of.nd (by rfl) (by first | exact .inl rfl | exact .inr rfl)) (by decide))) (fun _ _ _ _ _ => spt_nil) (fun _ _ _ _ _ => (se_call (sh := ⟨2, [], [.pos 0, .pos 1]⟩) (ok_is_row M hD) (sh_is_row_0 M) rfl hg (hr.mono (by decide)) pass_blk (by rfl) M.g_is_row M.t_is_row.kp (by decide) (sa_cons (se_var (pv 2)) (sa_cons (se_var (pv 1)) sa_nil (star_no rfl)) (star_no rfl)) sk_nil rfl rfl rfl (fun h => nomatch h) (fun _ => rfl))) (fun _ => rfl)) sa_nil (star_no rfl)) (by decide) (by decide) rfl)))))
theorem ok_kept (M : Md K mg) (hD : base.NoDigits) : FnG P w K mg base 1 M.a_kept M.d_kept ["number"] (spF ⟨K, mg⟩ 1 false F_kept) := fn_text M.t_kept sc_kept fun cdv A outer s H E hg hr =>
    (sss_one (ss_ret (se_if (st_tru (se_isi2 (T := "list") (U := "tuple") (by rfl) M.n_isinstance (by first | decide +kernel | rfl) (by decide) (by decide) (by rfl) M.n_list (by first | decide +kernel | rfl) (by decide) (by decide) (by rfl) M.n_tuple (by first | decide +kernel | rfl) (by decide) (by decide) (se_var (pv 0)) rfl) (fun _ => rfl)) (se_callTy call_tuple_of cas_tuple (by rfl) M.n_tuple (by first | exact PySem.boot_tuple | decide +kernel | rfl) (sa_cons (se_var (pv 0)) sa_nil (star_no rfl)) (by decide) (by decide) rfl) (se_move (pv 0)))))
theorem ok_kept_row (M : Md K mg) (hD : base.NoDigits) : FnG P w K mg base 2 M.a_kept_row M.d_kept_row ["row"] (spF ⟨K, mg⟩ 1 false F_kept_row) := fn_text M.t_kept_row sc_kept_row fun cdv A outer s H E hg hr =>
    (sss_one (ss_ret (se_callTy call_tuple_of cas_tuple (by rfl) M.n_tuple (by first | exact PySem.boot_tuple | decide +kernel | rfl) (sa_cons (se_lc (own := [("each", 1)]) rfl sc_kept_row.nd (si_seq (se_var (pv 0))) (blkOk_by (by rfl)) (fun _ _ _ _ _ => (sg_name (ts := (List.map (fun p : Str × Nat => p.2) [("each", 1)])) (pg_name (i := 1) sc_kept_row.nd (by rfl) (by first | exact .inl rfl | exact .inr rfl)) (by decide))) (fun _ _ _ _ _ => spt_nil) (fun _ _ _ _ _ => (se_call (sh := ⟨1, [], [.pos 0]⟩) (ok_kept M hD) (sh_kept_0 M) rfl hg (hr.mono (by decide)) pass_blk (by rfl) M.g_kept M.t_kept.kp (by decide) (sa_cons (se_var (pv 1)) sa_nil (star_no rfl)) sk_nil rfl rfl rfl (fun h => nomatch h) (fun _ => rfl))) (fun _ => rfl)) sa_nil (star_no rfl)) (by decide) (by decide) rfl)))
theorem ok_need_market (M : Md K mg) (hD : base.NoDigits) : FnG P w K mg base 7 M.a_need_market M.d_need_market ["value", "goods", "part"] (spF ⟨K, mg⟩ 3 false F_need_market) := fn_textD M.t_need_market sc_need_market fun cdv A outer s H E hg hr =>
    (sss_cons (ss_if (st_not (st_tru (se_call (sh := ⟨2, [], [.pos 0, .pos 1]⟩) (ok_is_market_of M hD) (sh_is_market_of_0 M) rfl hg (hr.mono (by decide)) pass_body (by rfl) M.g_is_market_of M.t_is_market_of.kp (by decide) (sa_cons (se_var (pv 0)) (sa_cons (se_var (pv 1)) sa_nil (star_no rfl)) (star_no rfl)) sk_nil rfl rfl rfl (fun h => nomatch h) (fun _ => rfl)) (fun _ => rfl))) (sss_one (ss_raise (ra_BadMarket M) (by rfl) (by decide) rfl (takes_of rfl rfl rfl rfl) (hr.mono (by decide)) (by decide) (sa_cons (se_var (pv 2)) sa_nil (star_no rfl)) (star_no rfl) (star_none rfl))) sss_nil)
    (sss_one (ss_ret (se_callTy call_tuple_of cas_tuple (by rfl) M.n_tuple (by first | exact PySem.boot_tuple | decide +kernel | rfl) (sa_cons (se_lc (own := [("day", 3)]) rfl sc_need_market.nd (si_seq (se_var (pv 0))) (blkOk_by (by rfl)) (fun _ _ _ _ _ => (sg_name (ts := (List.map (fun p : Str × Nat => p.2) [("day", 3)])) (pg_name (i := 3) sc_need_market.nd (by rfl) (by first | exact .inl rfl | exact .inr rfl)) (by decide))) (fun _ _ _ _ _ => spt_nil) (fun _ _ _ _ _ => (se_call (sh := ⟨1, [], [.pos 0]⟩) (ok_kept_row M hD) (sh_kept_row_0 M) rfl hg (hr.mono (by decide)) pass_blk (by rfl) M.g_kept_row M.t_kept_row.kp (by decide) (sa_cons (se_var (pv 3)) sa_nil (star_no rfl)) sk_nil rfl rfl rfl (fun h => nomatch h) (fun _ => rfl))) (fun _ => rfl)) sa_nil (star_no rfl)) (by decide) (by decide) rfl))))
theorem ok_choose_in (M : Md K mg) (hD : base.NoDigits) : FnG P w K mg base 1 M.a_choose_in M.d_choose_in ["many", "some"] (spF ⟨K, mg⟩ 2 false F_choose_in) := fn_text M.t_choose_in sc_choose_in fun cdv A outer s H E hg hr =>
    (sss_cons (ss_set (ps_set (i := 2) sc_choose_in.nd (by rfl) (by first | exact .inl rfl | exact .inr rfl) se_int))
    (sss_cons (ss_for own_body rfl (si_rng1 (by rfl) M.n_range (sa_cons (se_var (pv 1)) sa_nil (star_no rfl)) rfl) (sg_name (ts := [3]) (pg_name (i := 3) sc_choose_in.nd (by rfl) (by first | exact .inl rfl | exact .inr rfl)) (by decide)) (sss_one (ss_set (ps_set (i := 2) sc_choose_in.nd (by rfl) (by first | exact .inl rfl | exact .inr rfl) (se_bin op_fdivA ops_fdiv (se_bin op_mulAll ops_mul (se_var (pv 2)) (se_bin op_sub ops_sub (se_var (pv 0)) (se_var (pv 3)))) (se_bin op_addAll ops_add (se_var (pv 3)) se_int))))) (fun _ => rfl))
    (sss_one (ss_ret (se_move (pv 2))))))
theorem ok_factor_in (M : Md K mg) (hD : base.NoDigits) : FnG P w K mg base 2 M.a_factor_in M.d_factor_in ["goods", "days"] (spF ⟨K, mg⟩ 2 false F_factor_in) := fn_text M.t_factor_in sc_factor_in fun cdv A outer s H E hg hr =>
    (sss_one (ss_ret (se_call (sh := ⟨2, [], [.pos 0, .pos 1]⟩) (ok_choose_in M hD) (sh_choose_in_0 M) rfl hg (hr.mono (by decide)) pass_body (by rfl) M.g_choose_in M.t_choose_in.kp (by decide) (sa_cons (se_bin op_sub ops_sub (se_bin op_addAll ops_add (se_var (pv 1)) (se_var (pv 0))) se_int) (sa_cons (se_bin op_sub ops_sub (se_var (pv 0)) se_int) sa_nil (star_no rfl)) (star_no rfl)) sk_nil rfl rfl rfl (fun h => nomatch h) (fun _ => rfl))))
theorem ok_need_few (M : Md K mg) (hD : base.NoDigits) : FnG P w K mg base 3 M.a_need_few M.d_need_few ["goods", "market"] (spF ⟨K, mg⟩ 2 false F_need_few) := fn_text M.t_need_few sc_need_few fun cdv A outer s H E hg hr =>
    (sss_one (ss_if (st_cmp op_gt ops_gt (se_call (sh := ⟨2, [], [.pos 0, .pos 1]⟩) (ok_factor_in M hD) (sh_factor_in_0 M) rfl hg (hr.mono (by decide)) pass_body (by rfl) M.g_factor_in M.t_factor_in.kp (by decide) (sa_cons (se_var (pv 0)) (sa_cons (se_callB call_len cas_len (by rfl) M.n_len (by first | exact PySem.boot_len | decide +kernel | rfl) (sa_cons (se_var (pv 1)) sa_nil (star_no rfl)) (by decide) (by decide) rfl) sa_nil (star_no rfl)) (star_no rfl)) sk_nil rfl rfl rfl (fun h => nomatch h) (fun _ => rfl)) (se_glob (v := .int 5000) (by rfl) M.c_MOST_COUNTS ⟨_, rfl⟩ rfl (by decide)) (nomark _)) (sss_one (ss_raise (ra_TooMany M) (by rfl) (by decide) rfl (takes_of rfl rfl rfl rfl) (hr.mono (by decide)) (by decide) (sa_cons se_str (sa_cons (se_glob (v := .int 5000) (by rfl) M.c_MOST_COUNTS ⟨_, rfl⟩ rfl (by decide)) sa_nil (star_no rfl)) (star_no rfl)) (star_no rfl) (star_none rfl))) sss_nil))
theorem ok_lowest (M : Md K mg) (hD : base.NoDigits) : FnG P w K mg base 2 M.a_lowest M.d_lowest ["above", "under"] (spF ⟨K, mg⟩ 2 false F_lowest) := fn_text M.t_lowest sc_lowest fun cdv A outer s H E hg hr =>
    (sss_cons (ss_set (ps_set (i := 2) sc_lowest.nd (by rfl) (by first | exact .inl rfl | exact .inr rfl) (se_call (sh := ⟨2, [], [.pos 0, .pos 1]⟩) (ok_common M hD) (sh_common_0 M) rfl hg (hr.mono (by decide)) pass_body (by rfl) M.g_common M.t_common.kp (by decide) (sa_cons (se_var (pv 0)) (sa_cons (se_var (pv 1)) sa_nil (star_no rfl)) (star_no rfl)) sk_nil rfl rfl rfl (fun h => nomatch h) (fun _ => rfl))))
    (sss_cons (ss_set (ps_set (i := 2) sc_lowest.nd (by rfl) (by first | exact .inl rfl | exact .inr rfl) (se_if (st_cmp op_lt ops_lt (se_var (pv 1)) se_int (nomark _)) (se_neg (se_var (pv 2))) (se_move (pv 2)))))
    (sss_cons (ss_par (by decide) (ps_par rfl sc_lowest.nd (by rfl) (by rfl) (by decide) (by rfl) (by rfl) (sa_cons (se_bin op_fdivA ops_fdiv (se_var (pv 0)) (se_var (pv 2))) (sa_cons (se_bin op_fdivA ops_fdiv (se_var (pv 1)) (se_var (pv 2))) sa_nil (star_no rfl)) (star_no rfl)) (by rfl)))
    (sss_one (ss_ret (se_if (st_cmp (op_eqS (un64 hr)) ops_eqS (se_var (pv 1)) se_int (nomark _)) (se_move (pv 0)) (se_tup (sa_cons (se_var (pv 0)) (sa_cons (se_var (pv 1)) sa_nil (star_no rfl)) (star_no rfl)))))))))
theorem ok_halves (M : Md K mg) (hD : base.NoDigits) : FnG P w K mg base 1 M.a_halves M.d_halves ["number"] (spF ⟨K, mg⟩ 1 false F_halves) := fn_text M.t_halves sc_halves fun cdv A outer s H E hg hr =>
    (sss_one (ss_ret (se_if (st_tru (se_isi (T := "int") (by rfl) M.n_isinstance (by first | decide +kernel | rfl) (by decide) (by decide) (by rfl) M.n_int (by first | decide +kernel | rfl) (by decide) (by decide) (se_var (pv 0)) rfl) (fun _ => rfl)) (se_tup (sa_cons (se_var (pv 0)) (sa_cons se_int sa_nil (star_no rfl)) (star_no rfl))) (se_tup (sa_cons (se_ixS (pv 0) se_int (fun _ _ => rfl)) (sa_cons (se_ixS (pv 0) se_int (fun _ _ => rfl)) sa_nil (star_no rfl)) (star_no rfl))))))
theorem ok_added (M : Md K mg) (hD : base.NoDigits) : FnG P w K mg base 3 M.a_added M.d_added ["one", "other"] (spF ⟨K, mg⟩ 2 false F_added) := fn_text M.t_added sc_added fun cdv A outer s H E hg hr =>
    (sss_cons (ss_asg (sg_tup rfl (sgs_cons (sg_tup rfl (sgs_cons (sg_name (ts := [2, 3, 4, 5]) (pg_name (i := 2) sc_added.nd (by rfl) (by first | exact .inl rfl | exact .inr rfl)) (by decide)) (sgs_cons (sg_name (ts := [2, 3, 4, 5]) (pg_name (i := 3) sc_added.nd (by rfl) (by first | exact .inl rfl | exact .inr rfl)) (by decide)) sgs_nil (by rfl)) (by rfl)) (by rfl) (by rfl)) (sgs_cons (sg_tup rfl (sgs_cons (sg_name (ts := [2, 3, 4, 5]) (pg_name (i := 4) sc_added.nd (by rfl) (by first | exact .inl rfl | exact .inr rfl)) (by decide)) (sgs_cons (sg_name (ts := [2, 3, 4, 5]) (pg_name (i := 5) sc_added.nd (by rfl) (by first | exact .inl rfl | exact .inr rfl)) (by decide)) sgs_nil (by rfl)) (by rfl)) (by rfl) (by rfl)) sgs_nil (by rfl)) (by rfl)) (by rfl) (by rfl)) (se_tup (sa_cons (se_call (sh := ⟨1, [], [.pos 0]⟩) (ok_halves M hD) (sh_halves_0 M) rfl hg (hr.mono (by decide)) pass_body (by rfl) M.g_halves M.t_halves.kp (by decide) (sa_cons (se_var (pv 0)) sa_nil (star_no rfl)) sk_nil rfl rfl rfl (fun h => nomatch h) (fun _ => rfl)) (sa_cons (se_call (sh := ⟨1, [], [.pos 0]⟩) (ok_halves M hD) (sh_halves_0 M) rfl hg (hr.mono (by decide)) pass_body (by rfl) M.g_halves M.t_halves.kp (by decide) (sa_cons (se_var (pv 1)) sa_nil (star_no rfl)) sk_nil rfl rfl rfl (fun h => nomatch h) (fun _ => rfl)) sa_nil (star_no rfl)) (star_no rfl))) (by rfl) (by rfl) (by rfl))
    (sss_one (ss_ret (se_call (sh := ⟨2, [], [.pos 0, .pos 1]⟩) (ok_lowest M hD) (sh_lowest_0 M) rfl hg (hr.mono (by decide)) pass_body (by rfl) M.g_lowest M.t_lowest.kp (by decide) (sa_cons (se_bin op_addAll ops_add (se_bin op_mulAll ops_mul (se_var (pv 2)) (se_var (pv 5))) (se_bin op_mulAll ops_mul (se_var (pv 4)) (se_var (pv 3)))) (sa_cons (se_bin op_mulAll ops_mul (se_var (pv 3)) (se_var (pv 5))) sa_nil (star_no rfl)) (star_no rfl)) sk_nil rfl rfl rfl (fun h => nomatch h) (fun _ => rfl)))))
theorem ok_total (M : Md K mg) (hD : base.NoDigits) : FnG P w K mg base 4 M.a_total M.d_total ["numbers"] (spF ⟨K, mg⟩ 1 false F_total) := fn_text M.t_total sc_total fun cdv A outer s H E hg hr =>
    (sss_cons (ss_set (ps_set (i := 1) sc_total.nd (by rfl) (by first | exact .inl rfl | exact .inr rfl) se_int))
    (sss_cons (ss_for own_body rfl (si_seq (se_var (pv 0))) (sg_name (ts := [2]) (pg_name (i := 2) sc_total.nd (by rfl) (by first | exact .inl rfl | exact .inr rfl)) (by decide)) (sss_one (ss_set (ps_set (i := 1) sc_total.nd (by rfl) (by first | exact .inl rfl | exact .inr rfl) (se_call (sh := ⟨2, [], [.pos 0, .pos 1]⟩) (ok_added M hD) (sh_added_0 M) rfl hg (hr.mono (by decide)) pass_body (by rfl) M.g_added M.t_added.kp (by decide) (sa_cons (se_var (pv 1)) (sa_cons (se_var (pv 2)) sa_nil (star_no rfl)) (star_no rfl)) sk_nil rfl rfl rfl (fun h => nomatch h) (fun _ => rfl))))) (fun _ => rfl))
    (sss_one (ss_ret (se_move (pv 1))))))
theorem ok_product (M : Md K mg) (hD : base.NoDigits) : FnG P w K mg base 3 M.a_product M.d_product ["one", "other"] (spF ⟨K, mg⟩ 2 false F_product) := fn_text M.t_product sc_product fun cdv A outer s H E hg hr =>
    (sss_cons (ss_asg (sg_tup rfl (sgs_cons (sg_tup rfl (sgs_cons (sg_name (ts := [2, 3, 4, 5]) (pg_name (i := 2) sc_product.nd (by rfl) (by first | exact .inl rfl | exact .inr rfl)) (by decide)) (sgs_cons (sg_name (ts := [2, 3, 4, 5]) (pg_name (i := 3) sc_product.nd (by rfl) (by first | exact .inl rfl | exact .inr rfl)) (by decide)) sgs_nil (by rfl)) (by rfl)) (by rfl) (by rfl)) (sgs_cons (sg_tup rfl (sgs_cons (sg_name (ts := [2, 3, 4, 5]) (pg_name (i := 4) sc_product.nd (by rfl) (by first | exact .inl rfl | exact .inr rfl)) (by decide)) (sgs_cons (sg_name (ts := [2, 3, 4, 5]) (pg_name (i := 5) sc_product.nd (by rfl) (by first | exact .inl rfl | exact .inr rfl)) (by decide)) sgs_nil (by rfl)) (by rfl)) (by rfl) (by rfl)) sgs_nil (by rfl)) (by rfl)) (by rfl) (by rfl)) (se_tup (sa_cons (se_call (sh := ⟨1, [], [.pos 0]⟩) (ok_halves M hD) (sh_halves_0 M) rfl hg (hr.mono (by decide)) pass_body (by rfl) M.g_halves M.t_halves.kp (by decide) (sa_cons (se_var (pv 0)) sa_nil (star_no rfl)) sk_nil rfl rfl rfl (fun h => nomatch h) (fun _ => rfl)) (sa_cons (se_call (sh := ⟨1, [], [.pos 0]⟩) (ok_halves M hD) (sh_halves_0 M) rfl hg (hr.mono (by decide)) pass_body (by rfl) M.g_halves M.t_halves.kp (by decide) (sa_cons (se_var (pv 1)) sa_nil (star_no rfl)) sk_nil rfl rfl rfl (fun h => nomatch h) (fun _ => rfl)) sa_nil (star_no rfl)) (star_no rfl))) (by rfl) (by rfl) (by rfl))
    (sss_one (ss_ret (se_call (sh := ⟨2, [], [.pos 0, .pos 1]⟩) (ok_lowest M hD) (sh_lowest_0 M) rfl hg (hr.mono (by decide)) pass_body (by rfl) M.g_lowest M.t_lowest.kp (by decide) (sa_cons (se_bin op_mulAll ops_mul (se_var (pv 2)) (se_var (pv 4))) (sa_cons (se_bin op_mulAll ops_mul (se_var (pv 3)) (se_var (pv 5))) sa_nil (star_no rfl)) (star_no rfl)) sk_nil rfl rfl rfl (fun h => nomatch h) (fun _ => rfl)))))
theorem ok_factorial (M : Md K mg) (hD : base.NoDigits) : FnG P w K mg base 1 M.a_factorial M.d_factorial ["number"] (spF ⟨K, mg⟩ 1 false F_factorial) := fn_text M.t_factorial sc_factorial fun cdv A outer s H E hg hr =>
    (sss_cons (ss_set (ps_set (i := 1) sc_factorial.nd (by rfl) (by first | exact .inl rfl | exact .inr rfl) se_int))
    (sss_cons (ss_for own_body rfl (si_rng2 (by rfl) M.n_range (sa_cons se_int (sa_cons (se_bin op_addAll ops_add (se_var (pv 0)) se_int) sa_nil (star_no rfl)) (star_no rfl)) rfl rfl) (sg_name (ts := [2]) (pg_name (i := 2) sc_factorial.nd (by rfl) (by first | exact .inl rfl | exact .inr rfl)) (by decide)) (sss_one (ss_set (ps_set (i := 1) sc_factorial.nd (by rfl) (by first | exact .inl rfl | exact .inr rfl) (se_bin op_mulAll ops_mul (se_var (pv 1)) (se_var (pv 2)))))) (fun _ => rfl))
    (sss_one (ss_ret (se_move (pv 1))))))
theorem ok_weight_in (M : Md K mg) (hD : base.NoDigits) : FnG P w K mg base 3 M.a_weight_in M.d_weight_in ["counts"] (spF ⟨K, mg⟩ 1 false F_weight_in) := fn_text M.t_weight_in sc_weight_in fun cdv A outer s H E hg hr =>
    (sss_cons (ss_set (ps_set (i := 1) sc_weight_in.nd (by rfl) (by first | exact .inl rfl | exact .inr rfl) (se_call (sh := ⟨1, [], [.pos 0]⟩) (ok_factorial M hD) (sh_factorial_0 M) rfl hg (hr.mono (by decide)) pass_body (by rfl) M.g_factorial M.t_factorial.kp (by decide) (sa_cons (se_bin op_sub ops_sub (se_callB call_len cas_len (by rfl) M.n_len (by first | exact PySem.boot_len | decide +kernel | rfl) (sa_cons (se_var (pv 0)) sa_nil (star_no rfl)) (by decide) (by decide) rfl) se_int) sa_nil (star_no rfl)) sk_nil rfl rfl rfl (fun h => nomatch h) (fun _ => rfl))))
    (sss_cons (ss_for own_body rfl (si_seq (se_var (pv 0))) (sg_name (ts := [2]) (pg_name (i := 2) sc_weight_in.nd (by rfl) (by first | exact .inl rfl | exact .inr rfl)) (by decide)) (sss_one (ss_set (ps_set (i := 1) sc_weight_in.nd (by rfl) (by first | exact .inl rfl | exact .inr rfl) (se_bin op_mulAll ops_mul (se_var (pv 1)) (se_call (sh := ⟨1, [], [.pos 0]⟩) (ok_factorial M hD) (sh_factorial_0 M) rfl hg (hr.mono (by decide)) pass_body (by rfl) M.g_factorial M.t_factorial.kp (by decide) (sa_cons (se_var (pv 2)) sa_nil (star_no rfl)) sk_nil rfl rfl rfl (fun h => nomatch h) (fun _ => rfl)))))) (fun _ => rfl))
    (sss_one (ss_ret (se_call (sh := ⟨2, [], [.pos 0, .pos 1]⟩) (ok_lowest M hD) (sh_lowest_0 M) rfl hg (hr.mono (by decide)) pass_body (by rfl) M.g_lowest M.t_lowest.kp (by decide) (sa_cons (se_var (pv 1)) (sa_cons (se_call (sh := ⟨1, [], [.pos 0]⟩) (ok_factorial M hD) (sh_factorial_0 M) rfl hg (hr.mono (by decide)) pass_body (by rfl) M.g_factorial M.t_factorial.kp (by decide) (sa_cons (se_bin op_sub ops_sub (se_bin op_addAll ops_add (se_callB (sum_all rfl) cas_sum (by rfl) M.n_sum (by first | exact PySem.boot_sum | decide +kernel | rfl) (sa_cons (se_var (pv 0)) sa_nil (star_no rfl)) (by decide) (by decide) rfl) (se_callB call_len cas_len (by rfl) M.n_len (by first | exact PySem.boot_len | decide +kernel | rfl) (sa_cons (se_var (pv 0)) sa_nil (star_no rfl)) (by decide) (by decide) rfl)) se_int) sa_nil (star_no rfl)) sk_nil rfl rfl rfl (fun h => nomatch h) (fun _ => rfl)) sa_nil (star_no rfl)) (star_no rfl)) sk_nil rfl rfl rfl (fun h => nomatch h) (fun _ => rfl))))))
theorem ok_with_one (M : Md K mg) (hD : base.NoDigits) : FnG P w K mg base 1 M.a_with_one M.d_with_one ["counts", "good"] (spF ⟨K, mg⟩ 2 false F_with_one) := fn_text M.t_with_one sc_with_one fun cdv A outer s H E hg hr =>
    (sss_one (ss_ret (se_tup (sa_star (se_sl (se_var (pv 0)) so_none (so_some (se_var (pv 1)))) (sa_cons (se_bin op_addAll ops_add (se_ixS (pv 0) (se_var (pv 1)) (fun _ _ => rfl)) se_int) (sa_star (se_sl (se_var (pv 0)) (so_some (se_bin op_addAll ops_add (se_var (pv 1)) se_int)) so_none) sa_nil) (star_no rfl))))))
theorem ok_grouped (M : Md K mg) (hD : base.NoDigits) : FnG P w K mg base 4 M.a_grouped M.d_grouped ["goods", "market"] (spF ⟨K, mg⟩ 2 false F_grouped) := fn_text M.t_grouped sc_grouped fun cdv A outer s H E hg hr =>
    (sss_cons (ss_set (ps_set (i := 2) sc_grouped.nd (by rfl) (by first | exact .inl rfl | exact .inr rfl) (se_disp1 (un1 hr) (se_callTy call_tuple_of cas_tuple (by rfl) M.n_tuple (by first | exact PySem.boot_tuple | decide +kernel | rfl) (sa_cons (se_lc (own := [("_", 9)]) rfl sc_grouped.nd (si_rng1 (by rfl) M.n_range (sa_cons (se_var (pv 0)) sa_nil (star_no rfl)) rfl) (blkOk_by (by rfl)) (fun _ _ _ _ _ => (sg_name (ts := (List.map (fun p : Str × Nat => p.2) [("_", 9)])) (pg_name (i := 9) sc_grouped.nd (by rfl) (by first | exact .inl rfl | exact .inr rfl)) (by decide))) (fun _ _ _ _ _ => spt_nil) (fun _ _ _ _ _ => se_int) (fun _ => rfl)) sa_nil (star_no rfl)) (by decide) (by decide) rfl) se_int)))
    (sss_cons (ss_for own_body rfl (si_seq (se_var (pv 1))) (sg_name (ts := [3]) (pg_name (i := 3) sc_grouped.nd (by rfl) (by first | exact .inl rfl | exact .inr rfl)) (by decide)) (sss_cons (ss_set (ps_set (i := 4) sc_grouped.nd (by rfl) (by first | exact .inl rfl | exact .inr rfl) se_dnew))
    (sss_cons (ss_for own_body rfl (si_itmS (pv 2) (by rfl) (by rfl)) (sg_tup rfl (sgs_cons (sg_name (ts := [5, 6]) (pg_name (i := 5) sc_grouped.nd (by rfl) (by first | exact .inl rfl | exact .inr rfl)) (by decide)) (sgs_cons (sg_name (ts := [5, 6]) (pg_name (i := 6) sc_grouped.nd (by rfl) (by first | exact .inl rfl | exact .inr rfl)) (by decide)) sgs_nil (by rfl)) (by rfl)) (by rfl) (by rfl)) (sss_one (ss_for own_body rfl (si_rng1 (by rfl) M.n_range (sa_cons (se_var (pv 0)) sa_nil (star_no rfl)) rfl) (sg_name (ts := [7]) (pg_name (i := 7) sc_grouped.nd (by rfl) (by first | exact .inl rfl | exact .inr rfl)) (by decide)) (sss_cons (ss_set (ps_set (i := 8) sc_grouped.nd (by rfl) (by first | exact .inl rfl | exact .inr rfl) (se_call (sh := ⟨2, [], [.pos 0, .pos 1]⟩) (ok_with_one M hD) (sh_with_one_0 M) rfl hg (hr.mono (by decide)) pass_body (by rfl) M.g_with_one M.t_with_one.kp (by decide) (sa_cons (se_var (pv 5)) (sa_cons (se_var (pv 7)) sa_nil (star_no rfl)) (star_no rfl)) sk_nil rfl rfl rfl (fun h => nomatch h) (fun _ => rfl))))
    (sss_one (ss_dput (un1 hr) (pv 4) (se_var (pv 8)) (se_call (sh := ⟨2, [], [.pos 0, .pos 1]⟩) (ok_added M hD) (sh_added_0 M) rfl hg (hr.mono (by decide)) pass_body (by rfl) M.g_added M.t_added.kp (by decide) (sa_cons (se_dget (un1 hr) (pv 4) (se_var (pv 8)) se_int ⟨by rfl, by rfl, by rfl, by rfl⟩) (sa_cons (se_call (sh := ⟨2, [], [.pos 0, .pos 1]⟩) (ok_product M hD) (sh_product_0 M) rfl hg (hr.mono (by decide)) pass_body (by rfl) M.g_product M.t_product.kp (by decide) (sa_cons (se_var (pv 6)) (sa_cons (se_ixS (pv 3) (se_var (pv 7)) (fun _ _ => rfl)) sa_nil (star_no rfl)) (star_no rfl)) sk_nil rfl rfl rfl (fun h => nomatch h) (fun _ => rfl)) sa_nil (star_no rfl)) (star_no rfl)) sk_nil rfl rfl rfl (fun h => nomatch h) (fun _ => rfl)) (by rfl)))) (fun _ => rfl))) (fun _ => rfl))
    (sss_one (ss_set (ps_set (i := 2) sc_grouped.nd (by rfl) (by first | exact .inl rfl | exact .inr rfl) (se_move (pv 4))))))) (fun _ => rfl))
    (sss_one (ss_ret (se_move (pv 2))))))
theorem ok_purse_in (M : Md K mg) (hD : base.NoDigits) : FnG P w K mg base 5 M.a_purse_in M.d_purse_in ["goods", "market"] (spF ⟨K, mg⟩ 2 false F_purse_in) := fn_text M.t_purse_in sc_purse_in fun cdv A outer s H E hg hr =>
    (sss_one (ss_ret (se_call (sh := ⟨1, [], [.pos 0]⟩) (ok_total M hD) (sh_total_0 M) rfl hg (hr.mono (by decide)) pass_body (by rfl) M.g_total M.t_total.kp (by decide) (sa_cons (se_lc (own := [("counts", 2), ("number", 3)]) rfl sc_purse_in.nd (si_itmF (se_call (sh := ⟨2, [], [.pos 0, .pos 1]⟩) (ok_grouped M hD) (sh_grouped_0 M) rfl hg (hr.mono (by decide)) pass_body (by rfl) M.g_grouped M.t_grouped.kp (by decide) (sa_cons (se_var (pv 0)) (sa_cons (se_var (pv 1)) sa_nil (star_no rfl)) (star_no rfl)) sk_nil rfl rfl rfl (fun h => nomatch h) (fun _ => rfl)) (by rfl) (by rfl)) (blkOk_by (by rfl)) (fun _ _ _ _ _ => (sg_tup rfl (sgs_cons (sg_name (ts := (List.map (fun p : Str × Nat => p.2) [("counts", 2), ("number", 3)])) (pg_name (i := 2) sc_purse_in.nd (by rfl) (by first | exact .inl rfl | exact .inr rfl)) (by decide)) (sgs_cons (sg_name (ts := (List.map (fun p : Str × Nat => p.2) [("counts", 2), ("number", 3)])) (pg_name (i := 3) sc_purse_in.nd (by rfl) (by first | exact .inl rfl | exact .inr rfl)) (by decide)) sgs_nil (by rfl)) (by rfl)) (by rfl) (by rfl))) (fun _ _ _ _ _ => spt_nil) (fun _ _ _ _ _ => (se_call (sh := ⟨2, [], [.pos 0, .pos 1]⟩) (ok_product M hD) (sh_product_0 M) rfl hg (hr.mono (by decide)) pass_blk (by rfl) M.g_product M.t_product.kp (by decide) (sa_cons (se_var (pv 3)) (sa_cons (se_call (sh := ⟨1, [], [.pos 0]⟩) (ok_weight_in M hD) (sh_weight_in_0 M) rfl hg (hr.mono (by decide)) pass_blk (by rfl) M.g_weight_in M.t_weight_in.kp (by decide) (sa_cons (se_var (pv 2)) sa_nil (star_no rfl)) sk_nil rfl rfl rfl (fun h => nomatch h) (fun _ => rfl)) sa_nil (star_no rfl)) (star_no rfl)) sk_nil rfl rfl rfl (fun h => nomatch h) (fun _ => rfl))) (fun _ => rfl)) sa_nil (star_no rfl)) sk_nil rfl rfl rfl (fun h => nomatch h) (fun _ => rfl))))
theorem ok_even_purse (M : Md K mg) (hD : base.NoDigits) : FnG P w K mg base 8 M.a_even_purse M.d_even_purse ["goods", "market"] (spF ⟨K, mg⟩ 2 false F_even_purse) := fn_text M.t_even_purse sc_even_purse fun cdv A outer s H E hg hr =>
    (sss_cons (ss_expr (se_call (sh := ⟨1, [], [.pos 0]⟩) (ok_need_goods M hD) (sh_need_goods_0 M) rfl hg (hr.mono (by decide)) pass_body (by rfl) M.g_need_goods M.t_need_goods.kp (by decide) (sa_cons (se_var (pv 0)) sa_nil (star_no rfl)) sk_nil rfl rfl rfl (fun h => nomatch h) (fun _ => rfl)) (by rfl))
    (sss_cons (ss_set (ps_set (i := 2) sc_even_purse.nd (by rfl) (by first | exact .inl rfl | exact .inr rfl) (se_call (sh := ⟨2, [], [.pos 0, .pos 1, .cst 0 (.str "market")]⟩) (ok_need_market M hD) (sh_need_market_0 M).choose_spec rfl hg (hr.mono (by decide)) pass_body (by rfl) M.g_need_market M.t_need_market.kp (by decide) (sa_cons (se_var (pv 1)) (sa_cons (se_var (pv 0)) sa_nil (star_no rfl)) (star_no rfl)) sk_nil rfl rfl rfl (fun h => nomatch h) (fun _ => rfl))))
    (sss_cons (ss_expr (se_call (sh := ⟨2, [], [.pos 0, .pos 1]⟩) (ok_need_few M hD) (sh_need_few_0 M) rfl hg (hr.mono (by decide)) pass_body (by rfl) M.g_need_few M.t_need_few.kp (by decide) (sa_cons (se_var (pv 0)) (sa_cons (se_var (pv 2)) sa_nil (star_no rfl)) (star_no rfl)) sk_nil rfl rfl rfl (fun h => nomatch h) (fun _ => rfl)) (by rfl))
    (sss_one (ss_ret (se_call (sh := ⟨2, [], [.pos 0, .pos 1]⟩) (ok_purse_in M hD) (sh_purse_in_0 M) rfl hg (hr.mono (by decide)) pass_body (by rfl) M.g_purse_in M.t_purse_in.kp (by decide) (sa_cons (se_var (pv 0)) (sa_cons (se_var (pv 2)) sa_nil (star_no rfl)) (star_no rfl)) sk_nil rfl rfl rfl (fun h => nomatch h) (fun _ => rfl)))))))
theorem ok_even_amounts (M : Md K mg) (hD : base.NoDigits) : FnG P w K mg base 8 M.a_even_amounts M.d_even_amounts ["goods", "market"] (spF ⟨K, mg⟩ 2 false F_even_amounts) := fn_text M.t_even_amounts sc_even_amounts fun cdv A outer s H E hg hr =>
    (sss_cons (ss_expr (se_call (sh := ⟨1, [], [.pos 0]⟩) (ok_need_goods M hD) (sh_need_goods_0 M) rfl hg (hr.mono (by decide)) pass_body (by rfl) M.g_need_goods M.t_need_goods.kp (by decide) (sa_cons (se_var (pv 0)) sa_nil (star_no rfl)) sk_nil rfl rfl rfl (fun h => nomatch h) (fun _ => rfl)) (by rfl))
    (sss_cons (ss_set (ps_set (i := 2) sc_even_amounts.nd (by rfl) (by first | exact .inl rfl | exact .inr rfl) (se_call (sh := ⟨2, [], [.pos 0, .pos 1, .cst 0 (.str "market")]⟩) (ok_need_market M hD) (sh_need_market_0 M).choose_spec rfl hg (hr.mono (by decide)) pass_body (by rfl) M.g_need_market M.t_need_market.kp (by decide) (sa_cons (se_var (pv 1)) (sa_cons (se_var (pv 0)) sa_nil (star_no rfl)) (star_no rfl)) sk_nil rfl rfl rfl (fun h => nomatch h) (fun _ => rfl))))
    (sss_cons (ss_expr (se_call (sh := ⟨2, [], [.pos 0, .pos 1]⟩) (ok_need_few M hD) (sh_need_few_0 M) rfl hg (hr.mono (by decide)) pass_body (by rfl) M.g_need_few M.t_need_few.kp (by decide) (sa_cons (se_var (pv 0)) (sa_cons (se_var (pv 2)) sa_nil (star_no rfl)) (star_no rfl)) sk_nil rfl rfl rfl (fun h => nomatch h) (fun _ => rfl)) (by rfl))
    (sss_cons (ss_set (ps_set (i := 3) sc_even_amounts.nd (by rfl) (by first | exact .inl rfl | exact .inr rfl) (se_call (sh := ⟨2, [], [.pos 0, .pos 1]⟩) (ok_grouped M hD) (sh_grouped_0 M) rfl hg (hr.mono (by decide)) pass_body (by rfl) M.g_grouped M.t_grouped.kp (by decide) (sa_cons (se_var (pv 0)) (sa_cons (se_var (pv 2)) sa_nil (star_no rfl)) (star_no rfl)) sk_nil rfl rfl rfl (fun h => nomatch h) (fun _ => rfl))))
    (sss_cons (ss_set (ps_set (i := 4) sc_even_amounts.nd (by rfl) (by first | exact .inl rfl | exact .inr rfl) (se_lst sa_nil)))
    (sss_cons (ss_for own_body rfl (si_rng1 (by rfl) M.n_range (sa_cons (se_var (pv 0)) sa_nil (star_no rfl)) rfl) (sg_name (ts := [5]) (pg_name (i := 5) sc_even_amounts.nd (by rfl) (by first | exact .inl rfl | exact .inr rfl)) (by decide)) (sss_one (ss_app (ps_expr (pe_bm PySem.F.plainAttrs_list PySem.F.slot_list_append PySem.F.type_list_append mt_append (pv 4) (pa_cons (se_call (sh := ⟨1, [], [.pos 0]⟩) (ok_total M hD) (sh_total_0 M) rfl hg (hr.mono (by decide)) pass_body (by rfl) M.g_total M.t_total.kp (by decide) (sa_cons (se_lc (own := [("counts", 6), ("number", 7)]) rfl sc_even_amounts.nd (si_itmS (pv 3) (by rfl) (by rfl)) (blkOk_by (by rfl)) (fun _ _ _ _ _ => (sg_tup rfl (sgs_cons (sg_name (ts := (List.map (fun p : Str × Nat => p.2) [("counts", 6), ("number", 7)])) (pg_name (i := 6) sc_even_amounts.nd (by rfl) (by first | exact .inl rfl | exact .inr rfl)) (by decide)) (sgs_cons (sg_name (ts := (List.map (fun p : Str × Nat => p.2) [("counts", 6), ("number", 7)])) (pg_name (i := 7) sc_even_amounts.nd (by rfl) (by first | exact .inl rfl | exact .inr rfl)) (by decide)) sgs_nil (by rfl)) (by rfl)) (by rfl) (by rfl))) (fun _ _ _ _ _ => spt_nil) (fun _ _ _ _ _ => (se_call (sh := ⟨2, [], [.pos 0, .pos 1]⟩) (ok_product M hD) (sh_product_0 M) rfl hg (hr.mono (by decide)) pass_blk (by rfl) M.g_product M.t_product.kp (by decide) (sa_cons (se_var (pv 7)) (sa_cons (se_call (sh := ⟨1, [], [.pos 0]⟩) (ok_weight_in M hD) (sh_weight_in_0 M) rfl hg (hr.mono (by decide)) pass_blk (by rfl) M.g_weight_in M.t_weight_in.kp (by decide) (sa_cons (se_call (sh := ⟨2, [], [.pos 0, .pos 1]⟩) (ok_with_one M hD) (sh_with_one_0 M) rfl hg (hr.mono (by decide)) pass_blk (by rfl) M.g_with_one M.t_with_one.kp (by decide) (sa_cons (se_var (pv 6)) (sa_cons (se_var (pv 5)) sa_nil (star_no rfl)) (star_no rfl)) sk_nil rfl rfl rfl (fun h => nomatch h) (fun _ => rfl)) sa_nil (star_no rfl)) sk_nil rfl rfl rfl (fun h => nomatch h) (fun _ => rfl)) sa_nil (star_no rfl)) (star_no rfl)) sk_nil rfl rfl rfl (fun h => nomatch h) (fun _ => rfl))) (fun _ => rfl)) sa_nil (star_no rfl)) sk_nil rfl rfl rfl (fun h => nomatch h) (fun _ => rfl)) pa_nil (star_no rfl)))))) (fun _ => rfl))
    (sss_one (ss_ret (se_callTy call_tuple_of cas_tuple (by rfl) M.n_tuple (by first | exact PySem.boot_tuple | decide +kernel | rfl) (sa_cons (se_var (pv 4)) sa_nil (star_no rfl)) (by decide) (by decide) rfl)))))))))
theorem ok_is_sum_1 (M : Md K mg) (hD : base.NoDigits) : FnG P w K mg base 2 M.a_is_sum_1 M.d_is_sum_1 ["row"] (spF ⟨K, mg⟩ 1 false F_is_sum_1) := fn_text M.t_is_sum_1 sc_is_sum_1 fun cdv A outer s H E hg hr =>
    (sss_cons (ss_asg (sg_tup rfl (sgs_cons (sg_name (ts := [1, 2]) (pg_name (i := 1) sc_is_sum_1.nd (by rfl) (by first | exact .inl rfl | exact .inr rfl)) (by decide)) (sgs_cons (sg_name (ts := [1, 2]) (pg_name (i := 2) sc_is_sum_1.nd (by rfl) (by first | exact .inl rfl | exact .inr rfl)) (by decide)) sgs_nil (by rfl)) (by rfl)) (by rfl) (by rfl)) (se_tup (sa_cons se_int (sa_cons se_int sa_nil (star_no rfl)) (star_no rfl))) (by rfl) (by rfl) (by rfl))
    (sss_cons (ss_for own_body rfl (si_seq (se_var (pv 0))) (sg_name (ts := [3]) (pg_name (i := 3) sc_is_sum_1.nd (by rfl) (by first | exact .inl rfl | exact .inr rfl)) (by decide)) (sss_cons (ss_asg (sg_tup rfl (sgs_cons (sg_name (ts := [4, 5]) (pg_name (i := 4) sc_is_sum_1.nd (by rfl) (by first | exact .inl rfl | exact .inr rfl)) (by decide)) (sgs_cons (sg_name (ts := [4, 5]) (pg_name (i := 5) sc_is_sum_1.nd (by rfl) (by first | exact .inl rfl | exact .inr rfl)) (by decide)) sgs_nil (by rfl)) (by rfl)) (by rfl) (by rfl)) (se_if (st_tru (se_call (sh := ⟨1, [], [.pos 0]⟩) (ok_is_list M hD) (sh_is_list_0 M) rfl hg (hr.mono (by decide)) pass_body (by rfl) M.g_is_list M.t_is_list.kp (by decide) (sa_cons (se_var (pv 3)) sa_nil (star_no rfl)) sk_nil rfl rfl rfl (fun h => nomatch h) (fun _ => rfl)) (fun _ => rfl)) (se_tup (sa_cons (se_ixS (pv 3) se_int (fun _ _ => rfl)) (sa_cons (se_ixS (pv 3) se_int (fun _ _ => rfl)) sa_nil (star_no rfl)) (star_no rfl))) (se_tup (sa_cons (se_var (pv 3)) (sa_cons se_int sa_nil (star_no rfl)) (star_no rfl)))) (by rfl) (by rfl) (by rfl))
    (sss_one (ss_par (by decide) (ps_par rfl sc_is_sum_1.nd (by rfl) (by rfl) (by decide) (by rfl) (by rfl) (sa_cons (se_bin op_addAll ops_add (se_bin op_mulAll ops_mul (se_var (pv 1)) (se_var (pv 5))) (se_bin op_mulAll ops_mul (se_var (pv 4)) (se_var (pv 2)))) (sa_cons (se_bin op_mulAll ops_mul (se_var (pv 2)) (se_var (pv 5))) sa_nil (star_no rfl)) (star_no rfl)) (by rfl))))) (fun _ => rfl))
    (sss_one (ss_ret (se_cmp (op_eqS (un64 hr)) ops_eqS (se_var (pv 1)) (se_var (pv 2)) (nomark _))))))
theorem ok_is_mix_of (M : Md K mg) (hD : base.NoDigits) : FnG P w K mg base 6 M.a_is_mix_of M.d_is_mix_of ["value", "goods"] (spF ⟨K, mg⟩ 2 false F_is_mix_of) := fn_text M.t_is_mix_of sc_is_mix_of fun cdv A outer s H E hg hr =>
    (sss_one (ss_ret (se_and (se_call (sh := ⟨2, [], [.pos 0, .pos 1]⟩) (ok_is_row M hD) (sh_is_row_0 M) rfl hg (hr.mono (by decide)) pass_body (by rfl) M.g_is_row M.t_is_row.kp (by decide) (sa_cons (se_var (pv 0)) (sa_cons (se_var (pv 1)) sa_nil (star_no rfl)) (star_no rfl)) sk_nil rfl rfl rfl (fun h => nomatch h) (fun _ => rfl)) (se_one (se_call (sh := ⟨1, [], [.pos 0]⟩) (ok_is_sum_1 M hD) (sh_is_sum_1_0 M) rfl hg (hr.mono (by decide)) pass_body (by rfl) M.g_is_sum_1 M.t_is_sum_1.kp (by decide) (sa_cons (se_var (pv 0)) sa_nil (star_no rfl)) sk_nil rfl rfl rfl (fun h => nomatch h) (fun _ => rfl))))))
theorem ok_need_mix (M : Md K mg) (hD : base.NoDigits) : FnG P w K mg base 7 M.a_need_mix M.d_need_mix ["value", "goods", "part"] (spF ⟨K, mg⟩ 3 false F_need_mix) := fn_textD M.t_need_mix sc_need_mix fun cdv A outer s H E hg hr =>
    (sss_cons (ss_if (st_not (st_tru (se_call (sh := ⟨2, [], [.pos 0, .pos 1]⟩) (ok_is_mix_of M hD) (sh_is_mix_of_0 M) rfl hg (hr.mono (by decide)) pass_body (by rfl) M.g_is_mix_of M.t_is_mix_of.kp (by decide) (sa_cons (se_var (pv 0)) (sa_cons (se_var (pv 1)) sa_nil (star_no rfl)) (star_no rfl)) sk_nil rfl rfl rfl (fun h => nomatch h) (fun _ => rfl)) (fun _ => rfl))) (sss_one (ss_raise (ra_BadMix M) (by rfl) (by decide) rfl (takes_of rfl rfl rfl rfl) (hr.mono (by decide)) (by decide) (sa_cons (se_var (pv 2)) sa_nil (star_no rfl)) (star_no rfl) (star_none rfl))) sss_nil)
    (sss_one (ss_ret (se_call (sh := ⟨1, [], [.pos 0]⟩) (ok_kept_row M hD) (sh_kept_row_0 M) rfl hg (hr.mono (by decide)) pass_body (by rfl) M.g_kept_row M.t_kept_row.kp (by decide) (sa_cons (se_var (pv 0)) sa_nil (star_no rfl)) sk_nil rfl rfl rfl (fun h => nomatch h) (fun _ => rfl)))))
theorem ok_multiplied (M : Md K mg) (hD : base.NoDigits) : FnG P w K mg base 4 M.a_multiplied M.d_multiplied ["numbers"] (spF ⟨K, mg⟩ 1 false F_multiplied) := fn_text M.t_multiplied sc_multiplied fun cdv A outer s H E hg hr =>
    (sss_cons (ss_set (ps_set (i := 1) sc_multiplied.nd (by rfl) (by first | exact .inl rfl | exact .inr rfl) se_int))
    (sss_cons (ss_for own_body rfl (si_seq (se_var (pv 0))) (sg_name (ts := [2]) (pg_name (i := 2) sc_multiplied.nd (by rfl) (by first | exact .inl rfl | exact .inr rfl)) (by decide)) (sss_one (ss_set (ps_set (i := 1) sc_multiplied.nd (by rfl) (by first | exact .inl rfl | exact .inr rfl) (se_call (sh := ⟨2, [], [.pos 0, .pos 1]⟩) (ok_product M hD) (sh_product_0 M) rfl hg (hr.mono (by decide)) pass_body (by rfl) M.g_product M.t_product.kp (by decide) (sa_cons (se_var (pv 1)) (sa_cons (se_var (pv 2)) sa_nil (star_no rfl)) (star_no rfl)) sk_nil rfl rfl rfl (fun h => nomatch h) (fun _ => rfl))))) (fun _ => rfl))
    (sss_one (ss_ret (se_move (pv 1))))))
theorem ok_turned (M : Md K mg) (hD : base.NoDigits) : FnG P w K mg base 2 M.a_turned M.d_turned ["number"] (spF ⟨K, mg⟩ 1 false F_turned) := fn_text M.t_turned sc_turned fun cdv A outer s H E hg hr =>
    (sss_cons (ss_asg (sg_tup rfl (sgs_cons (sg_name (ts := [1, 2]) (pg_name (i := 1) sc_turned.nd (by rfl) (by first | exact .inl rfl | exact .inr rfl)) (by decide)) (sgs_cons (sg_name (ts := [1, 2]) (pg_name (i := 2) sc_turned.nd (by rfl) (by first | exact .inl rfl | exact .inr rfl)) (by decide)) sgs_nil (by rfl)) (by rfl)) (by rfl) (by rfl)) (se_call (sh := ⟨1, [], [.pos 0]⟩) (ok_halves M hD) (sh_halves_0 M) rfl hg (hr.mono (by decide)) pass_body (by rfl) M.g_halves M.t_halves.kp (by decide) (sa_cons (se_var (pv 0)) sa_nil (star_no rfl)) sk_nil rfl rfl rfl (fun h => nomatch h) (fun _ => rfl)) (by rfl) (by rfl) (by rfl))
    (sss_one (ss_ret (se_if (st_cmp (op_eqS (un64 hr)) ops_eqS (se_var (pv 2)) se_int (nomark _)) (se_neg (se_var (pv 1))) (se_tup (sa_cons (se_neg (se_var (pv 1))) (sa_cons (se_var (pv 2)) sa_nil (star_no rfl)) (star_no rfl)))))))
theorem ok_less_by (M : Md K mg) (hD : base.NoDigits) : FnG P w K mg base 4 M.a_less_by M.d_less_by ["one", "other"] (spF ⟨K, mg⟩ 2 false F_less_by) := fn_text M.t_less_by sc_less_by fun cdv A outer s H E hg hr =>
    (sss_one (ss_ret (se_call (sh := ⟨2, [], [.pos 0, .pos 1]⟩) (ok_added M hD) (sh_added_0 M) rfl hg (hr.mono (by decide)) pass_body (by rfl) M.g_added M.t_added.kp (by decide) (sa_cons (se_var (pv 0)) (sa_cons (se_call (sh := ⟨1, [], [.pos 0]⟩) (ok_turned M hD) (sh_turned_0 M) rfl hg (hr.mono (by decide)) pass_body (by rfl) M.g_turned M.t_turned.kp (by decide) (sa_cons (se_var (pv 1)) sa_nil (star_no rfl)) sk_nil rfl rfl rfl (fun h => nomatch h) (fun _ => rfl)) sa_nil (star_no rfl)) (star_no rfl)) sk_nil rfl rfl rfl (fun h => nomatch h) (fun _ => rfl))))
theorem ok_summed (M : Md K mg) (hD : base.NoDigits) : FnG P w K mg base 5 M.a_summed M.d_summed ["row", "other"] (spF ⟨K, mg⟩ 2 false F_summed) := fn_text M.t_summed sc_summed fun cdv A outer s H E hg hr =>
    (sss_one (ss_ret (se_call (sh := ⟨1, [], [.pos 0]⟩) (ok_total M hD) (sh_total_0 M) rfl hg (hr.mono (by decide)) pass_body (by rfl) M.g_total M.t_total.kp (by decide) (sa_cons (se_lc (own := [("one", 2), ("its", 3)]) rfl sc_summed.nd (si_zip (by rfl) M.n_zip (sa_cons (se_var (pv 0)) (sa_cons (se_var (pv 1)) sa_nil (star_no rfl)) (star_no rfl)) rfl rfl) (blkOk_by (by rfl)) (fun _ _ _ _ _ => (sg_tup rfl (sgs_cons (sg_name (ts := (List.map (fun p : Str × Nat => p.2) [("one", 2), ("its", 3)])) (pg_name (i := 2) sc_summed.nd (by rfl) (by first | exact .inl rfl | exact .inr rfl)) (by decide)) (sgs_cons (sg_name (ts := (List.map (fun p : Str × Nat => p.2) [("one", 2), ("its", 3)])) (pg_name (i := 3) sc_summed.nd (by rfl) (by first | exact .inl rfl | exact .inr rfl)) (by decide)) sgs_nil (by rfl)) (by rfl)) (by rfl) (by rfl))) (fun _ _ _ _ _ => spt_nil) (fun _ _ _ _ _ => (se_call (sh := ⟨2, [], [.pos 0, .pos 1]⟩) (ok_product M hD) (sh_product_0 M) rfl hg (hr.mono (by decide)) pass_blk (by rfl) M.g_product M.t_product.kp (by decide) (sa_cons (se_var (pv 2)) (sa_cons (se_var (pv 3)) sa_nil (star_no rfl)) (star_no rfl)) sk_nil rfl rfl rfl (fun h => nomatch h) (fun _ => rfl))) (fun _ => rfl)) sa_nil (star_no rfl)) sk_nil rfl rfl rfl (fun h => nomatch h) (fun _ => rfl))))
theorem ok_even_spare (M : Md K mg) (hD : base.NoDigits) : FnG P w K mg base 8 M.a_even_spare M.d_even_spare ["goods", "market", "shares"] (spF ⟨K, mg⟩ 3 false F_even_spare) := fn_text M.t_even_spare sc_even_spare fun cdv A outer s H E hg hr =>
    (sss_cons (ss_expr (se_call (sh := ⟨1, [], [.pos 0]⟩) (ok_need_goods M hD) (sh_need_goods_0 M) rfl hg (hr.mono (by decide)) pass_body (by rfl) M.g_need_goods M.t_need_goods.kp (by decide) (sa_cons (se_var (pv 0)) sa_nil (star_no rfl)) sk_nil rfl rfl rfl (fun h => nomatch h) (fun _ => rfl)) (by rfl))
    (sss_cons (ss_set (ps_set (i := 3) sc_even_spare.nd (by rfl) (by first | exact .inl rfl | exact .inr rfl) (se_call (sh := ⟨2, [], [.pos 0, .pos 1, .cst 0 (.str "market")]⟩) (ok_need_market M hD) (sh_need_market_0 M).choose_spec rfl hg (hr.mono (by decide)) pass_body (by rfl) M.g_need_market M.t_need_market.kp (by decide) (sa_cons (se_var (pv 1)) (sa_cons (se_var (pv 0)) sa_nil (star_no rfl)) (star_no rfl)) sk_nil rfl rfl rfl (fun h => nomatch h) (fun _ => rfl))))
    (sss_cons (ss_set (ps_set (i := 4) sc_even_spare.nd (by rfl) (by first | exact .inl rfl | exact .inr rfl) (se_call (sh := ⟨2, [], [.pos 0, .pos 1, .cst 0 (.str "shares")]⟩) (ok_need_mix M hD) (sh_need_mix_0 M).choose_spec rfl hg (hr.mono (by decide)) pass_body (by rfl) M.g_need_mix M.t_need_mix.kp (by decide) (sa_cons (se_var (pv 2)) (sa_cons (se_var (pv 0)) sa_nil (star_no rfl)) (star_no rfl)) sk_nil rfl rfl rfl (fun h => nomatch h) (fun _ => rfl))))
    (sss_cons (ss_expr (se_call (sh := ⟨2, [], [.pos 0, .pos 1]⟩) (ok_need_few M hD) (sh_need_few_0 M) rfl hg (hr.mono (by decide)) pass_body (by rfl) M.g_need_few M.t_need_few.kp (by decide) (sa_cons (se_var (pv 0)) (sa_cons (se_var (pv 3)) sa_nil (star_no rfl)) (star_no rfl)) sk_nil rfl rfl rfl (fun h => nomatch h) (fun _ => rfl)) (by rfl))
    (sss_cons (ss_set (ps_set (i := 5) sc_even_spare.nd (by rfl) (by first | exact .inl rfl | exact .inr rfl) (se_call (sh := ⟨1, [], [.pos 0]⟩) (ok_multiplied M hD) (sh_multiplied_0 M) rfl hg (hr.mono (by decide)) pass_body (by rfl) M.g_multiplied M.t_multiplied.kp (by decide) (sa_cons (se_lc (own := [("day", 6)]) rfl sc_even_spare.nd (si_seq (se_var (pv 3))) (blkOk_by (by rfl)) (fun _ _ _ _ _ => (sg_name (ts := (List.map (fun p : Str × Nat => p.2) [("day", 6)])) (pg_name (i := 6) sc_even_spare.nd (by rfl) (by first | exact .inl rfl | exact .inr rfl)) (by decide))) (fun _ _ _ _ _ => spt_nil) (fun _ _ _ _ _ => (se_call (sh := ⟨2, [], [.pos 0, .pos 1]⟩) (ok_summed M hD) (sh_summed_0 M) rfl hg (hr.mono (by decide)) pass_blk (by rfl) M.g_summed M.t_summed.kp (by decide) (sa_cons (se_var (pv 4)) (sa_cons (se_var (pv 6)) sa_nil (star_no rfl)) (star_no rfl)) sk_nil rfl rfl rfl (fun h => nomatch h) (fun _ => rfl))) (fun _ => rfl)) sa_nil (star_no rfl)) sk_nil rfl rfl rfl (fun h => nomatch h) (fun _ => rfl))))
    (sss_one (ss_ret (se_call (sh := ⟨2, [], [.pos 0, .pos 1]⟩) (ok_less_by M hD) (sh_less_by_0 M) rfl hg (hr.mono (by decide)) pass_body (by rfl) M.g_less_by M.t_less_by.kp (by decide) (sa_cons (se_call (sh := ⟨2, [], [.pos 0, .pos 1]⟩) (ok_product M hD) (sh_product_0 M) rfl hg (hr.mono (by decide)) pass_body (by rfl) M.g_product M.t_product.kp (by decide) (sa_cons (se_call (sh := ⟨2, [], [.pos 0, .pos 1]⟩) (ok_purse_in M hD) (sh_purse_in_0 M) rfl hg (hr.mono (by decide)) pass_body (by rfl) M.g_purse_in M.t_purse_in.kp (by decide) (sa_cons (se_var (pv 0)) (sa_cons (se_var (pv 3)) sa_nil (star_no rfl)) (star_no rfl)) sk_nil rfl rfl rfl (fun h => nomatch h) (fun _ => rfl)) (sa_cons (se_call (sh := ⟨2, [], [.pos 0, .pos 1]⟩) (ok_factor_in M hD) (sh_factor_in_0 M) rfl hg (hr.mono (by decide)) pass_body (by rfl) M.g_factor_in M.t_factor_in.kp (by decide) (sa_cons (se_var (pv 0)) (sa_cons (se_callB call_len cas_len (by rfl) M.n_len (by first | exact PySem.boot_len | decide +kernel | rfl) (sa_cons (se_var (pv 3)) sa_nil (star_no rfl)) (by decide) (by decide) rfl) sa_nil (star_no rfl)) (star_no rfl)) sk_nil rfl rfl rfl (fun h => nomatch h) (fun _ => rfl)) sa_nil (star_no rfl)) (star_no rfl)) sk_nil rfl rfl rfl (fun h => nomatch h) (fun _ => rfl)) (sa_cons (se_var (pv 5)) sa_nil (star_no rfl)) (star_no rfl)) sk_nil rfl rfl rfl (fun h => nomatch h) (fun _ => rfl)))))))))
theorem ok_need_days (M : Md K mg) (hD : base.NoDigits) : FnG P w K mg base 4 M.a_need_days M.d_need_days ["value"] (spF ⟨K, mg⟩ 1 false F_need_days) := fn_text M.t_need_days sc_need_days fun cdv A outer s H E hg hr =>
    (sss_one (ss_expr (se_call (sh := ⟨4, [], [.pos 0, .pos 1, .pos 2, .pos 3]⟩) (ok_need_integer M hD) (sh_need_integer_0 M) rfl hg (hr.mono (by decide)) pass_body (by rfl) M.g_need_integer M.t_need_integer.kp (by decide) (sa_cons (se_var (pv 0)) (sa_cons se_str (sa_cons se_int (sa_cons (se_glob (v := .int 1000) (by rfl) M.c_MOST_DAYS ⟨_, rfl⟩ rfl (by decide)) sa_nil (star_no rfl)) (star_no rfl)) (star_no rfl)) (star_no rfl)) sk_nil rfl rfl rfl (fun h => nomatch h) (fun _ => rfl)) (by rfl)))
theorem ok_even_factor (M : Md K mg) (hD : base.NoDigits) : FnG P w K mg base 5 M.a_even_factor M.d_even_factor ["goods", "days"] (spF ⟨K, mg⟩ 2 false F_even_factor) := fn_text M.t_even_factor sc_even_factor fun cdv A outer s H E hg hr =>
    (sss_cons (ss_expr (se_call (sh := ⟨1, [], [.pos 0]⟩) (ok_need_goods M hD) (sh_need_goods_0 M) rfl hg (hr.mono (by decide)) pass_body (by rfl) M.g_need_goods M.t_need_goods.kp (by decide) (sa_cons (se_var (pv 0)) sa_nil (star_no rfl)) sk_nil rfl rfl rfl (fun h => nomatch h) (fun _ => rfl)) (by rfl))
    (sss_cons (ss_expr (se_call (sh := ⟨1, [], [.pos 0]⟩) (ok_need_days M hD) (sh_need_days_0 M) rfl hg (hr.mono (by decide)) pass_body (by rfl) M.g_need_days M.t_need_days.kp (by decide) (sa_cons (se_var (pv 1)) sa_nil (star_no rfl)) sk_nil rfl rfl rfl (fun h => nomatch h) (fun _ => rfl)) (by rfl))
    (sss_one (ss_ret (se_call (sh := ⟨2, [], [.pos 0, .pos 1]⟩) (ok_factor_in M hD) (sh_factor_in_0 M) rfl hg (hr.mono (by decide)) pass_body (by rfl) M.g_factor_in M.t_factor_in.kp (by decide) (sa_cons (se_var (pv 0)) (sa_cons (se_var (pv 1)) sa_nil (star_no rfl)) (star_no rfl)) sk_nil rfl rfl rfl (fun h => nomatch h) (fun _ => rfl))))))
theorem ok_need_counts (M : Md K mg) (hD : base.NoDigits) : FnG P w K mg base 3 M.a_need_counts M.d_need_counts ["value", "part"] (spF ⟨K, mg⟩ 2 false F_need_counts) := fn_text M.t_need_counts sc_need_counts fun cdv A outer s H E hg hr =>
    (sss_cons (ss_if (PW.pt (sw_or (st_not (st_tru (se_call (sh := ⟨1, [], [.pos 0]⟩) (ok_is_list M hD) (sh_is_list_0 M) rfl hg (hr.mono (by decide)) pass_body (by rfl) M.g_is_list M.t_is_list.kp (by decide) (sa_cons (se_var (pv 0)) sa_nil (star_no rfl)) sk_nil rfl rfl rfl (fun h => nomatch h) (fun _ => rfl)) (fun _ => rfl))) (sw_or1 (st_not (st_tru (se_call (sh := ⟨3, [], [.pos 0, .pos 1, .pos 2]⟩) (ok_is_within M hD) (sh_is_within_0 M) rfl hg (hr.mono (by decide)) pass_body (by rfl) M.g_is_within M.t_is_within.kp (by decide) (sa_cons (se_callB call_len cas_len (by rfl) M.n_len (by first | exact PySem.boot_len | decide +kernel | rfl) (sa_cons (se_var (pv 0)) sa_nil (star_no rfl)) (by decide) (by decide) rfl) (sa_cons se_int (sa_cons (se_glob (v := .int 5) (by rfl) M.c_MOST_GOODS ⟨_, rfl⟩ rfl (by decide)) sa_nil (star_no rfl)) (star_no rfl)) (star_no rfl)) sk_nil rfl rfl rfl (fun h => nomatch h) (fun _ => rfl)) (fun _ => rfl)))))) (sss_one (ss_raise (ra_BadNumber M) (by rfl) (by decide) rfl (takes_of rfl rfl rfl rfl) (hr.mono (by decide)) (by decide) (sa_cons (se_var (pv 1)) sa_nil (star_no rfl)) (star_no rfl) (star_none rfl))) sss_nil)
    (sss_cons (ss_if (st_not (st_tru (se_callB (cr_all rfl) cas_all (by rfl) M.n_all (by first | exact PySem.boot_all | decide +kernel | rfl) (sa_cons (se_lc (own := [("each", 2)]) rfl sc_need_counts.nd (si_seq (se_var (pv 0))) (blkOk_by (by rfl)) (fun _ _ _ _ _ => (sg_name (ts := (List.map (fun p : Str × Nat => p.2) [("each", 2)])) (pg_name (i := 2) sc_need_counts.nd (by rfl) (by first | exact .inl rfl | exact .inr rfl)) (by decide))) (fun _ _ _ _ _ => spt_nil) (fun _ _ _ _ _ => (se_call (sh := ⟨3, [], [.pos 0, .pos 1, .pos 2]⟩) (ok_is_within M hD) (sh_is_within_0 M) rfl hg (hr.mono (by decide)) pass_blk (by rfl) M.g_is_within M.t_is_within.kp (by decide) (sa_cons (se_var (pv 2)) (sa_cons se_int (sa_cons se_non sa_nil (star_no rfl)) (star_no rfl)) (star_no rfl)) sk_nil rfl rfl rfl (fun h => nomatch h) (fun _ => rfl))) (fun _ => rfl)) sa_nil (star_no rfl)) (by decide) (by decide) rfl) (fun _ => rfl))) (sss_one (ss_raise (ra_BadNumber M) (by rfl) (by decide) rfl (takes_of rfl rfl rfl rfl) (hr.mono (by decide)) (by decide) (sa_cons (se_var (pv 1)) sa_nil (star_no rfl)) (star_no rfl) (star_none rfl))) sss_nil)
    (sss_one (ss_ret (se_callTy call_tuple_of cas_tuple (by rfl) M.n_tuple (by first | exact PySem.boot_tuple | decide +kernel | rfl) (sa_cons (se_var (pv 0)) sa_nil (star_no rfl)) (by decide) (by decide) rfl)))))
theorem ok_even_weight (M : Md K mg) (hD : base.NoDigits) : FnG P w K mg base 4 M.a_even_weight M.d_even_weight ["counts"] (spF ⟨K, mg⟩ 1 false F_even_weight) := fn_text M.t_even_weight sc_even_weight fun cdv A outer s H E hg hr =>
    (sss_cons (ss_set (ps_set (i := 1) sc_even_weight.nd (by rfl) (by first | exact .inl rfl | exact .inr rfl) (se_call (sh := ⟨2, [], [.pos 0, .pos 1]⟩) (ok_need_counts M hD) (sh_need_counts_0 M) rfl hg (hr.mono (by decide)) pass_body (by rfl) M.g_need_counts M.t_need_counts.kp (by decide) (sa_cons (se_var (pv 0)) (sa_cons se_str sa_nil (star_no rfl)) (star_no rfl)) sk_nil rfl rfl rfl (fun h => nomatch h) (fun _ => rfl))))
    (sss_cons (ss_if (st_cmp op_gt ops_gt (se_callB (max_all rfl) cas_max (by rfl) M.n_max (by first | exact PySem.boot_max | decide +kernel | rfl) (sa_cons (se_var (pv 1)) sa_nil (star_no rfl)) (by decide) (by decide) rfl) (se_glob (v := .int 1000) (by rfl) M.c_MOST_COUNT ⟨_, rfl⟩ rfl (by decide)) (nomark _)) (sss_one (ss_raise (ra_BadNumber M) (by rfl) (by decide) rfl (takes_of rfl rfl rfl rfl) (hr.mono (by decide)) (by decide) (sa_cons se_str sa_nil (star_no rfl)) (star_no rfl) (star_none rfl))) sss_nil)
    (sss_one (ss_ret (se_call (sh := ⟨1, [], [.pos 0]⟩) (ok_weight_in M hD) (sh_weight_in_0 M) rfl hg (hr.mono (by decide)) pass_body (by rfl) M.g_weight_in M.t_weight_in.kp (by decide) (sa_cons (se_var (pv 1)) sa_nil (star_no rfl)) sk_nil rfl rfl rfl (fun h => nomatch h) (fun _ => rfl))))))
theorem ok__law_first_right_0 (M : Md K mg) (hD : base.NoDigits) (B : Lm M base) {cc PP : Addr} (tb : LamX.TabB base mg cc PP) (hT : (PP, qL "_law_first_right" (defScope s__law_first_right)) ∈ TabT.T) (hX : ∀ p ∈ TabT.T, p.1 = PP → p.2 = qL "_law_first_right" (defScope s__law_first_right)) (A : Around) (outer : List Env) (s : Shared) (H : Hp) (E : XK) (hg : (A.deeper (envOfC "_law_first_right" (defScope s__law_first_right) s.heap.objs.size M.a__law_first_right (.ref cc))).guards = some []) (hr : Room 10 (A.deeper (envOfC "_law_first_right" (defScope s__law_first_right) s.heap.objs.size M.a__law_first_right (.ref cc)))) : SS (CB P w K mg base ["_law_pen_here", "_law_goods", "_law_none", "_law_bad", "_law_odd", "_law_shares", "_law_market", "_law_heard_here", "_law_due", "_law_counts"] "_law_first_right" (defScope s__law_first_right) M.a__law_first_right (.ref cc) A outer s H E) E ((defBody s__law_first_right).getD 0 (.Pass ⟨0, 0, 0, 0⟩)) b__law_first_right_0 := (ss_asg (sg_tup rfl (sgs_cons (sg_name (ts := [2, 3]) (pg_name (i := 2) sc__law_first_right.nd (by rfl) (by first | exact .inl rfl | exact .inr rfl)) (by decide)) (sgs_cons (sg_name (ts := [2, 3]) (pg_name (i := 3) sc__law_first_right.nd (by rfl) (by first | exact .inl rfl | exact .inr rfl)) (by decide)) sgs_nil (by rfl)) (by rfl)) (by rfl) (by rfl)) (se_tup (sa_cons (se_callIo (ok__law_one_of M hD) (binds_of M.t__law_one_of 2 fun _ _ _ _ _ _ us hl => match us, hl with | [_, _], _ => rfl) hg (hr.mono (by decide)) pass_body (by rfl) M.g__law_one_of M.t__law_one_of.kp (by decide) (pv 0) (sa_cons (se_lst (sa_cons se_non (sa_cons se_int (sa_cons se_int (sa_cons (se_neg se_int) (sa_cons se_bl (sa_cons se_str (sa_cons (se_lst (sa_cons se_int sa_nil (star_no rfl))) (sa_cons (se_tup (sa_cons se_int (sa_cons se_int sa_nil (star_no rfl)) (star_no rfl))) (sa_cons (se_bin op_pow ops_pow se_int se_int) sa_nil (star_no rfl)) (star_no rfl)) (star_no rfl)) (star_no rfl)) (star_no rfl)) (star_no rfl)) (star_no rfl)) (star_no rfl)) (star_no rfl))) sa_nil (star_no rfl)) rfl) (sa_cons (se_callIo (ok__law_one_of M hD) (binds_of M.t__law_one_of 2 fun _ _ _ _ _ _ us hl => match us, hl with | [_, _], _ => rfl) hg (hr.mono (by decide)) pass_body (by rfl) M.g__law_one_of M.t__law_one_of.kp (by decide) (pv 0) (sa_cons (se_lst (sa_cons se_non (sa_cons (se_neg se_int) (sa_cons se_int (sa_cons se_bl (sa_cons se_str (sa_cons (se_lst sa_nil) (sa_cons (se_tup (sa_cons se_int (sa_cons se_int sa_nil (star_no rfl)) (star_no rfl))) (sa_cons (se_bin op_pow ops_pow se_int se_int) sa_nil (star_no rfl)) (star_no rfl)) (star_no rfl)) (star_no rfl)) (star_no rfl)) (star_no rfl)) (star_no rfl)) (star_no rfl))) sa_nil (star_no rfl)) rfl) sa_nil (star_no rfl)) (star_no rfl))) (by rfl) (by rfl) (by rfl))
theorem ok__law_first_right_1 (M : Md K mg) (hD : base.NoDigits) (B : Lm M base) {cc PP : Addr} (tb : LamX.TabB base mg cc PP) (hT : (PP, qL "_law_first_right" (defScope s__law_first_right)) ∈ TabT.T) (hX : ∀ p ∈ TabT.T, p.1 = PP → p.2 = qL "_law_first_right" (defScope s__law_first_right)) (A : Around) (outer : List Env) (s : Shared) (H : Hp) (E : XK) (hg : (A.deeper (envOfC "_law_first_right" (defScope s__law_first_right) s.heap.objs.size M.a__law_first_right (.ref cc))).guards = some []) (hr : Room 10 (A.deeper (envOfC "_law_first_right" (defScope s__law_first_right) s.heap.objs.size M.a__law_first_right (.ref cc)))) : SS (CB P w K mg base ["_law_pen_here", "_law_goods", "_law_none", "_law_bad", "_law_odd", "_law_shares", "_law_market", "_law_heard_here", "_law_due", "_law_counts"] "_law_first_right" (defScope s__law_first_right) M.a__law_first_right (.ref cc) A outer s H E) E ((defBody s__law_first_right).getD 1 (.Pass ⟨0, 0, 0, 0⟩)) b__law_first_right_1 := (ss_set (ps_set (i := 4) sc__law_first_right.nd (by rfl) (by first | exact .inl rfl | exact .inr rfl) (se_callIo (ok__law_one_of M hD) (binds_of M.t__law_one_of 2 fun _ _ _ _ _ _ us hl => match us, hl with | [_, _], _ => rfl) hg (hr.mono (by decide)) pass_body (by rfl) M.g__law_one_of M.t__law_one_of.kp (by decide) (pv 0) (sa_cons (se_lst (sa_cons se_non (sa_cons se_int (sa_cons (se_lst (sa_cons (se_bin op_mulAll ops_mul (se_lst (sa_cons se_int sa_nil (star_no rfl))) (se_bin op_addAll ops_add (se_var (pv 1)) se_int)) sa_nil (star_no rfl))) (sa_cons (se_lst (sa_cons (se_bin op_mulAll ops_mul (se_lst (sa_cons se_int sa_nil (star_no rfl))) (se_var (pv 1))) (sa_cons (se_bin op_mulAll ops_mul (se_lst (sa_cons se_int sa_nil (star_no rfl))) (se_bin op_sub ops_sub (se_var (pv 1)) se_int)) sa_nil (star_no rfl)) (star_no rfl))) (sa_cons (se_lst (sa_cons (se_bin op_mulAll ops_mul (se_lst (sa_cons (se_neg se_int) sa_nil (star_no rfl))) (se_var (pv 1))) sa_nil (star_no rfl))) (sa_cons (se_bin op_mulAll ops_mul (se_lst (sa_cons se_int sa_nil (star_no rfl))) (se_var (pv 1))) (sa_cons se_str (sa_cons (se_lst (sa_cons (se_bin op_mulAll ops_mul (se_lst (sa_cons se_bl sa_nil (star_no rfl))) (se_var (pv 1))) sa_nil (star_no rfl))) (sa_cons (se_lst (sa_cons se_non sa_nil (star_no rfl))) (sa_cons se_dnew (sa_cons (se_lst (sa_cons (se_bin op_mulAll ops_mul (se_lst (sa_cons (se_tup (sa_cons se_int (sa_cons se_int sa_nil (star_no rfl)) (star_no rfl))) sa_nil (star_no rfl))) (se_var (pv 1))) sa_nil (star_no rfl))) sa_nil (star_no rfl)) (star_no rfl)) (star_no rfl)) (star_no rfl)) (star_no rfl)) (star_no rfl)) (star_no rfl)) (star_no rfl)) (star_no rfl)) (star_no rfl)) (star_no rfl))) sa_nil (star_no rfl)) rfl)))
theorem ok__law_first_right_2 (M : Md K mg) (hD : base.NoDigits) (B : Lm M base) {cc PP : Addr} (tb : LamX.TabB base mg cc PP) (hT : (PP, qL "_law_first_right" (defScope s__law_first_right)) ∈ TabT.T) (hX : ∀ p ∈ TabT.T, p.1 = PP → p.2 = qL "_law_first_right" (defScope s__law_first_right)) (A : Around) (outer : List Env) (s : Shared) (H : Hp) (E : XK) (hg : (A.deeper (envOfC "_law_first_right" (defScope s__law_first_right) s.heap.objs.size M.a__law_first_right (.ref cc))).guards = some []) (hr : Room 10 (A.deeper (envOfC "_law_first_right" (defScope s__law_first_right) s.heap.objs.size M.a__law_first_right (.ref cc)))) : SS (CB P w K mg base ["_law_pen_here", "_law_goods", "_law_none", "_law_bad", "_law_odd", "_law_shares", "_law_market", "_law_heard_here", "_law_due", "_law_counts"] "_law_first_right" (defScope s__law_first_right) M.a__law_first_right (.ref cc) A outer s H E) E ((defBody s__law_first_right).getD 2 (.Pass ⟨0, 0, 0, 0⟩)) b__law_first_right_2 := (ss_set (ps_set (i := 5) sc__law_first_right.nd (by rfl) (by first | exact .inl rfl | exact .inr rfl) (se_callIo (ok__law_one_of M hD) (binds_of M.t__law_one_of 2 fun _ _ _ _ _ _ us hl => match us, hl with | [_, _], _ => rfl) hg (hr.mono (by decide)) pass_body (by rfl) M.g__law_one_of M.t__law_one_of.kp (by decide) (pv 0) (sa_cons (se_lst (sa_cons se_non (sa_cons se_int (sa_cons (se_bin op_mulAll ops_mul (se_lst (sa_cons se_int sa_nil (star_no rfl))) (se_bin op_addAll ops_add (se_var (pv 1)) se_int)) (sa_cons (se_bin op_mulAll ops_mul (se_lst (sa_cons se_int sa_nil (star_no rfl))) (se_var (pv 1))) (sa_cons (se_if (st_cmp op_gt ops_gt (se_var (pv 1)) se_int (nomark _)) (se_bin op_addAll ops_add (se_bin op_addAll ops_add (se_lst (sa_cons se_int sa_nil (star_no rfl))) (se_lst (sa_cons (se_neg se_int) sa_nil (star_no rfl)))) (se_bin op_mulAll ops_mul (se_lst (sa_cons se_int sa_nil (star_no rfl))) (se_bin op_sub ops_sub (se_var (pv 1)) se_int))) (se_lst (sa_cons se_int sa_nil (star_no rfl)))) (sa_cons se_str (sa_cons (se_bin op_addAll ops_add (se_lst (sa_cons se_bl sa_nil (star_no rfl))) (se_bin op_mulAll ops_mul (se_lst (sa_cons se_int sa_nil (star_no rfl))) (se_bin op_sub ops_sub (se_var (pv 1)) se_int))) (sa_cons (se_bin op_addAll ops_add (se_lst (sa_cons se_int sa_nil (star_no rfl))) (se_bin op_mulAll ops_mul (se_lst (sa_cons se_int sa_nil (star_no rfl))) (se_var (pv 1)))) (sa_cons se_dnew sa_nil (star_no rfl)) (star_no rfl)) (star_no rfl)) (star_no rfl)) (star_no rfl)) (star_no rfl)) (star_no rfl)) (star_no rfl)) (star_no rfl))) sa_nil (star_no rfl)) rfl)))
theorem ok__law_first_right_3 (M : Md K mg) (hD : base.NoDigits) (B : Lm M base) {cc PP : Addr} (tb : LamX.TabB base mg cc PP) (hT : (PP, qL "_law_first_right" (defScope s__law_first_right)) ∈ TabT.T) (hX : ∀ p ∈ TabT.T, p.1 = PP → p.2 = qL "_law_first_right" (defScope s__law_first_right)) (A : Around) (outer : List Env) (s : Shared) (H : Hp) (E : XK) (hg : (A.deeper (envOfC "_law_first_right" (defScope s__law_first_right) s.heap.objs.size M.a__law_first_right (.ref cc))).guards = some []) (hr : Room 10 (A.deeper (envOfC "_law_first_right" (defScope s__law_first_right) s.heap.objs.size M.a__law_first_right (.ref cc)))) : SS (CB P w K mg base ["_law_pen_here", "_law_goods", "_law_none", "_law_bad", "_law_odd", "_law_shares", "_law_market", "_law_heard_here", "_law_due", "_law_counts"] "_law_first_right" (defScope s__law_first_right) M.a__law_first_right (.ref cc) A outer s H E) E ((defBody s__law_first_right).getD 3 (.Pass ⟨0, 0, 0, 0⟩)) b__law_first_right_3 := (ss_set (ps_set (i := 6) sc__law_first_right.nd (by rfl) (by first | exact .inl rfl | exact .inr rfl) (se_bin op_mulAll ops_mul (se_lst (sa_cons (se_bin op_mulAll ops_mul (se_lst (sa_cons se_int sa_nil (star_no rfl))) (se_var (pv 1))) sa_nil (star_no rfl))) (se_callIo (ok__law_draw M hD) (binds_of M.t__law_draw 2 fun _ _ _ _ _ _ us hl => match us, hl with | [_, _], _ => rfl) hg (hr.mono (by decide)) pass_body (by rfl) M.g__law_draw M.t__law_draw.kp (by decide) (pv 0) (sa_cons se_int sa_nil (star_no rfl)) rfl))))
theorem ok__law_first_right_4 (M : Md K mg) (hD : base.NoDigits) (B : Lm M base) {cc PP : Addr} (tb : LamX.TabB base mg cc PP) (hT : (PP, qL "_law_first_right" (defScope s__law_first_right)) ∈ TabT.T) (hX : ∀ p ∈ TabT.T, p.1 = PP → p.2 = qL "_law_first_right" (defScope s__law_first_right)) (A : Around) (outer : List Env) (s : Shared) (H : Hp) (E : XK) (hg : (A.deeper (envOfC "_law_first_right" (defScope s__law_first_right) s.heap.objs.size M.a__law_first_right (.ref cc))).guards = some []) (hr : Room 10 (A.deeper (envOfC "_law_first_right" (defScope s__law_first_right) s.heap.objs.size M.a__law_first_right (.ref cc)))) : SS (CB P w K mg base ["_law_pen_here", "_law_goods", "_law_none", "_law_bad", "_law_odd", "_law_shares", "_law_market", "_law_heard_here", "_law_due", "_law_counts"] "_law_first_right" (defScope s__law_first_right) M.a__law_first_right (.ref cc) A outer s H E) E ((defBody s__law_first_right).getD 4 (.Pass ⟨0, 0, 0, 0⟩)) b__law_first_right_4 := (ss_set (ps_set (i := 7) sc__law_first_right.nd (by rfl) (by first | exact .inl rfl | exact .inr rfl) (se_lst (sa_cons (se_hear (k := 5) (caps := [2, 3]) (hd__law_heard M).choose_spec rfl (ca_PriceError M) (by rfl) tb rfl hT hX (hr.mono (by decide)) (lamD_of (by kernel_rfl)) ⟨rfl, .inl rfl⟩ (bindL_none rfl fun _ _ _ _ _ _ => rfl) (fun A outer s H E f c hA hrL => (se_call (sh := ⟨2, [], [.pos 0, .pos 1]⟩) (ok_even_factor M hD) (sh_even_factor_0 M) rfl (hA.trans hg) (hrL.mono (by decide)) pass_lam (by rfl) M.g_even_factor M.t_even_factor.kp (by decide) (sa_cons (se_var (pv 2)) (sa_cons (se_var (pv 3)) sa_nil (star_no rfl)) (star_no rfl)) sk_nil rfl rfl rfl (fun h => nomatch h) (fun _ => rfl))) (fun s H hA hrH => hr__law_heard M hD _ _ _ _ s H (hA.trans hg) hrH)) (sa_cons (se_hear (k := 5) (caps := [1, 3]) (hd__law_heard M).choose_spec rfl (ca_PriceError M) (by rfl) tb rfl hT hX (hr.mono (by decide)) (lamD_of (by kernel_rfl)) ⟨rfl, .inr ⟨_, .int 0, rfl, pe_int⟩⟩ (bindL_one rfl rfl fun _ _ _ _ _ _ _ _ => ⟨_, rfl, rfl⟩) (fun A outer s H E f c hA hrL => (se_call (sh := ⟨2, [], [.pos 0, .pos 1]⟩) (ok_even_factor M hD) (sh_even_factor_0 M) rfl (hA.trans hg) (hrL.mono (by decide)) pass_lam (by rfl) M.g_even_factor M.t_even_factor.kp (by decide) (sa_cons (se_var (pv 1)) (sa_cons (se_var (pv 3)) sa_nil (star_no rfl)) (star_no rfl)) sk_nil rfl rfl rfl (fun h => nomatch h) (fun _ => rfl))) (fun s H hA hrH => hr__law_heard M hD _ _ _ _ s H (hA.trans hg) hrH)) (sa_cons (se_hear (k := 8) (caps := [2, 4]) (hd__law_heard M).choose_spec rfl (ca_PriceError M) (by rfl) tb rfl hT hX (hr.mono (by decide)) (lamD_of (by kernel_rfl)) ⟨rfl, .inr ⟨_, .int 0, rfl, pe_int⟩⟩ (bindL_one rfl rfl fun _ _ _ _ _ _ _ _ => ⟨_, rfl, rfl⟩) (fun A outer s H E f c hA hrL => (se_call (sh := ⟨2, [], [.pos 0, .pos 1]⟩) (ok_even_purse M hD) (sh_even_purse_0 M) rfl (hA.trans hg) (hrL.mono (by decide)) pass_lam (by rfl) M.g_even_purse M.t_even_purse.kp (by decide) (sa_cons (se_var (pv 2)) (sa_cons (se_var (pv 4)) sa_nil (star_no rfl)) (star_no rfl)) sk_nil rfl rfl rfl (fun h => nomatch h) (fun _ => rfl))) (fun s H hA hrH => hr__law_heard M hD _ _ _ _ s H (hA.trans hg) hrH)) sa_nil (star_no rfl)) (star_no rfl)) (star_no rfl)))))
theorem ok__law_first_right_5 (M : Md K mg) (hD : base.NoDigits) (B : Lm M base) {cc PP : Addr} (tb : LamX.TabB base mg cc PP) (hT : (PP, qL "_law_first_right" (defScope s__law_first_right)) ∈ TabT.T) (hX : ∀ p ∈ TabT.T, p.1 = PP → p.2 = qL "_law_first_right" (defScope s__law_first_right)) (A : Around) (outer : List Env) (s : Shared) (H : Hp) (E : XK) (hg : (A.deeper (envOfC "_law_first_right" (defScope s__law_first_right) s.heap.objs.size M.a__law_first_right (.ref cc))).guards = some []) (hr : Room 10 (A.deeper (envOfC "_law_first_right" (defScope s__law_first_right) s.heap.objs.size M.a__law_first_right (.ref cc)))) : SS (CB P w K mg base ["_law_pen_here", "_law_goods", "_law_none", "_law_bad", "_law_odd", "_law_shares", "_law_market", "_law_heard_here", "_law_due", "_law_counts"] "_law_first_right" (defScope s__law_first_right) M.a__law_first_right (.ref cc) A outer s H E) E ((defBody s__law_first_right).getD 5 (.Pass ⟨0, 0, 0, 0⟩)) b__law_first_right_5 := (ss_set (ps_set (i := 7) sc__law_first_right.nd (by rfl) (by first | exact .inl rfl | exact .inr rfl) (se_bin op_addAll ops_add (se_var (pv 7)) (se_lst (sa_cons (se_hear (k := 8) (caps := [1, 4]) (hd__law_heard M).choose_spec rfl (ca_PriceError M) (by rfl) tb rfl hT hX (hr.mono (by decide)) (lamD_of (by kernel_rfl)) ⟨rfl, .inl rfl⟩ (bindL_none rfl fun _ _ _ _ _ _ => rfl) (fun A outer s H E f c hA hrL => (se_call (sh := ⟨2, [], [.pos 0, .pos 1]⟩) (ok_even_purse M hD) (sh_even_purse_0 M) rfl (hA.trans hg) (hrL.mono (by decide)) pass_lam (by rfl) M.g_even_purse M.t_even_purse.kp (by decide) (sa_cons (se_var (pv 1)) (sa_cons (se_var (pv 4)) sa_nil (star_no rfl)) (star_no rfl)) sk_nil rfl rfl rfl (fun h => nomatch h) (fun _ => rfl))) (fun s H hA hrH => hr__law_heard M hD _ _ _ _ s H (hA.trans hg) hrH)) (sa_cons (se_hear (k := 8) (caps := [2, 4]) (hd__law_heard M).choose_spec rfl (ca_PriceError M) (by rfl) tb rfl hT hX (hr.mono (by decide)) (lamD_of (by kernel_rfl)) ⟨rfl, .inr ⟨_, .int 0, rfl, pe_int⟩⟩ (bindL_one rfl rfl fun _ _ _ _ _ _ _ _ => ⟨_, rfl, rfl⟩) (fun A outer s H E f c hA hrL => (se_call (sh := ⟨2, [], [.pos 0, .pos 1]⟩) (ok_even_amounts M hD) (sh_even_amounts_0 M) rfl (hA.trans hg) (hrL.mono (by decide)) pass_lam (by rfl) M.g_even_amounts M.t_even_amounts.kp (by decide) (sa_cons (se_var (pv 2)) (sa_cons (se_var (pv 4)) sa_nil (star_no rfl)) (star_no rfl)) sk_nil rfl rfl rfl (fun h => nomatch h) (fun _ => rfl))) (fun s H hA hrH => hr__law_heard M hD _ _ _ _ s H (hA.trans hg) hrH)) (sa_cons (se_hear (k := 8) (caps := [1, 4]) (hd__law_heard M).choose_spec rfl (ca_PriceError M) (by rfl) tb rfl hT hX (hr.mono (by decide)) (lamD_of (by kernel_rfl)) ⟨rfl, .inr ⟨_, .int 0, rfl, pe_int⟩⟩ (bindL_one rfl rfl fun _ _ _ _ _ _ _ _ => ⟨_, rfl, rfl⟩) (fun A outer s H E f c hA hrL => (se_call (sh := ⟨2, [], [.pos 0, .pos 1]⟩) (ok_even_amounts M hD) (sh_even_amounts_0 M) rfl (hA.trans hg) (hrL.mono (by decide)) pass_lam (by rfl) M.g_even_amounts M.t_even_amounts.kp (by decide) (sa_cons (se_var (pv 1)) (sa_cons (se_var (pv 4)) sa_nil (star_no rfl)) (star_no rfl)) sk_nil rfl rfl rfl (fun h => nomatch h) (fun _ => rfl))) (fun s H hA hrH => hr__law_heard M hD _ _ _ _ s H (hA.trans hg) hrH)) sa_nil (star_no rfl)) (star_no rfl)) (star_no rfl))))))
theorem ok__law_first_right_6 (M : Md K mg) (hD : base.NoDigits) (B : Lm M base) {cc PP : Addr} (tb : LamX.TabB base mg cc PP) (hT : (PP, qL "_law_first_right" (defScope s__law_first_right)) ∈ TabT.T) (hX : ∀ p ∈ TabT.T, p.1 = PP → p.2 = qL "_law_first_right" (defScope s__law_first_right)) (A : Around) (outer : List Env) (s : Shared) (H : Hp) (E : XK) (hg : (A.deeper (envOfC "_law_first_right" (defScope s__law_first_right) s.heap.objs.size M.a__law_first_right (.ref cc))).guards = some []) (hr : Room 10 (A.deeper (envOfC "_law_first_right" (defScope s__law_first_right) s.heap.objs.size M.a__law_first_right (.ref cc)))) : SS (CB P w K mg base ["_law_pen_here", "_law_goods", "_law_none", "_law_bad", "_law_odd", "_law_shares", "_law_market", "_law_heard_here", "_law_due", "_law_counts"] "_law_first_right" (defScope s__law_first_right) M.a__law_first_right (.ref cc) A outer s H E) E ((defBody s__law_first_right).getD 6 (.Pass ⟨0, 0, 0, 0⟩)) b__law_first_right_6 := (ss_set (ps_set (i := 7) sc__law_first_right.nd (by rfl) (by first | exact .inl rfl | exact .inr rfl) (se_bin op_addAll ops_add (se_var (pv 7)) (se_lst (sa_cons (se_hear (k := 8) (caps := [2, 4, 5]) (hd__law_heard M).choose_spec rfl (ca_PriceError M) (by rfl) tb rfl hT hX (hr.mono (by decide)) (lamD_of (by kernel_rfl)) ⟨rfl, .inl rfl⟩ (bindL_none rfl fun _ _ _ _ _ _ => rfl) (fun A outer s H E f c hA hrL => (se_call (sh := ⟨3, [], [.pos 0, .pos 1, .pos 2]⟩) (ok_even_spare M hD) (sh_even_spare_0 M) rfl (hA.trans hg) (hrL.mono (by decide)) pass_lam (by rfl) M.g_even_spare M.t_even_spare.kp (by decide) (sa_cons (se_var (pv 2)) (sa_cons (se_var (pv 4)) (sa_cons (se_var (pv 5)) sa_nil (star_no rfl)) (star_no rfl)) (star_no rfl)) sk_nil rfl rfl rfl (fun h => nomatch h) (fun _ => rfl))) (fun s H hA hrH => hr__law_heard M hD _ _ _ _ s H (hA.trans hg) hrH)) (sa_cons (se_hear (k := 8) (caps := [1, 4, 5]) (hd__law_heard M).choose_spec rfl (ca_PriceError M) (by rfl) tb rfl hT hX (hr.mono (by decide)) (lamD_of (by kernel_rfl)) ⟨rfl, .inr ⟨_, .int 0, rfl, pe_int⟩⟩ (bindL_one rfl rfl fun _ _ _ _ _ _ _ _ => ⟨_, rfl, rfl⟩) (fun A outer s H E f c hA hrL => (se_call (sh := ⟨3, [], [.pos 0, .pos 1, .pos 2]⟩) (ok_even_spare M hD) (sh_even_spare_0 M) rfl (hA.trans hg) (hrL.mono (by decide)) pass_lam (by rfl) M.g_even_spare M.t_even_spare.kp (by decide) (sa_cons (se_var (pv 1)) (sa_cons (se_var (pv 4)) (sa_cons (se_var (pv 5)) sa_nil (star_no rfl)) (star_no rfl)) (star_no rfl)) sk_nil rfl rfl rfl (fun h => nomatch h) (fun _ => rfl))) (fun s H hA hrH => hr__law_heard M hD _ _ _ _ s H (hA.trans hg) hrH)) (sa_cons (se_hear (k := 8) (caps := [1, 5, 6]) (hd__law_heard M).choose_spec rfl (ca_PriceError M) (by rfl) tb rfl hT hX (hr.mono (by decide)) (lamD_of (by kernel_rfl)) ⟨rfl, .inr ⟨_, .int 0, rfl, pe_int⟩⟩ (bindL_one rfl rfl fun _ _ _ _ _ _ _ _ => ⟨_, rfl, rfl⟩) (fun A outer s H E f c hA hrL => (se_call (sh := ⟨3, [], [.pos 0, .pos 1, .pos 2]⟩) (ok_even_spare M hD) (sh_even_spare_0 M) rfl (hA.trans hg) (hrL.mono (by decide)) pass_lam (by rfl) M.g_even_spare M.t_even_spare.kp (by decide) (sa_cons (se_var (pv 1)) (sa_cons (se_var (pv 6)) (sa_cons (se_var (pv 5)) sa_nil (star_no rfl)) (star_no rfl)) (star_no rfl)) sk_nil rfl rfl rfl (fun h => nomatch h) (fun _ => rfl))) (fun s H hA hrH => hr__law_heard M hD _ _ _ _ s H (hA.trans hg) hrH)) sa_nil (star_no rfl)) (star_no rfl)) (star_no rfl))))))
theorem ok__law_first_right_7 (M : Md K mg) (hD : base.NoDigits) (B : Lm M base) {cc PP : Addr} (tb : LamX.TabB base mg cc PP) (hT : (PP, qL "_law_first_right" (defScope s__law_first_right)) ∈ TabT.T) (hX : ∀ p ∈ TabT.T, p.1 = PP → p.2 = qL "_law_first_right" (defScope s__law_first_right)) (A : Around) (outer : List Env) (s : Shared) (H : Hp) (E : XK) (hg : (A.deeper (envOfC "_law_first_right" (defScope s__law_first_right) s.heap.objs.size M.a__law_first_right (.ref cc))).guards = some []) (hr : Room 10 (A.deeper (envOfC "_law_first_right" (defScope s__law_first_right) s.heap.objs.size M.a__law_first_right (.ref cc)))) : SS (CB P w K mg base ["_law_pen_here", "_law_goods", "_law_none", "_law_bad", "_law_odd", "_law_shares", "_law_market", "_law_heard_here", "_law_due", "_law_counts"] "_law_first_right" (defScope s__law_first_right) M.a__law_first_right (.ref cc) A outer s H E) E ((defBody s__law_first_right).getD 7 (.Pass ⟨0, 0, 0, 0⟩)) b__law_first_right_7 := (ss_set (ps_set (i := 8) sc__law_first_right.nd (by rfl) (by first | exact .inl rfl | exact .inr rfl) (se_bin op_addAll ops_add (se_bin op_addAll ops_add (se_lst (sa_cons (se_tup (sa_cons se_str (sa_cons se_str sa_nil (star_no rfl)) (star_no rfl))) (sa_cons (se_tup (sa_cons se_str (sa_cons se_str sa_nil (star_no rfl)) (star_no rfl))) sa_nil (star_no rfl)) (star_no rfl))) (se_bin op_mulAll ops_mul (se_lst (sa_cons (se_tup (sa_cons se_str (sa_cons se_str sa_nil (star_no rfl)) (star_no rfl))) (sa_cons (se_tup (sa_cons se_str (sa_cons se_str sa_nil (star_no rfl)) (star_no rfl))) sa_nil (star_no rfl)) (star_no rfl))) se_int)) (se_lst (sa_cons (se_tup (sa_cons se_str (sa_cons se_str sa_nil (star_no rfl)) (star_no rfl))) sa_nil (star_no rfl))))))
theorem ok__law_first_right_8 (M : Md K mg) (hD : base.NoDigits) (B : Lm M base) {cc PP : Addr} (tb : LamX.TabB base mg cc PP) (hT : (PP, qL "_law_first_right" (defScope s__law_first_right)) ∈ TabT.T) (hX : ∀ p ∈ TabT.T, p.1 = PP → p.2 = qL "_law_first_right" (defScope s__law_first_right)) (A : Around) (outer : List Env) (s : Shared) (H : Hp) (E : XK) (hg : (A.deeper (envOfC "_law_first_right" (defScope s__law_first_right) s.heap.objs.size M.a__law_first_right (.ref cc))).guards = some []) (hr : Room 10 (A.deeper (envOfC "_law_first_right" (defScope s__law_first_right) s.heap.objs.size M.a__law_first_right (.ref cc)))) : SS (CB P w K mg base ["_law_pen_here", "_law_goods", "_law_none", "_law_bad", "_law_odd", "_law_shares", "_law_market", "_law_heard_here", "_law_due", "_law_counts"] "_law_first_right" (defScope s__law_first_right) M.a__law_first_right (.ref cc) A outer s H E) E ((defBody s__law_first_right).getD 8 (.Pass ⟨0, 0, 0, 0⟩)) b__law_first_right_8 := (ss_if (st_cmp (op_neS (un64 hr)) ops_neS (se_var (pv 7)) (se_var (pv 8)) (nomark _)) (sss_one (ss_ret se_bl)) sss_nil)
theorem ok__law_first_right_9 (M : Md K mg) (hD : base.NoDigits) (B : Lm M base) {cc PP : Addr} (tb : LamX.TabB base mg cc PP) (hT : (PP, qL "_law_first_right" (defScope s__law_first_right)) ∈ TabT.T) (hX : ∀ p ∈ TabT.T, p.1 = PP → p.2 = qL "_law_first_right" (defScope s__law_first_right)) (A : Around) (outer : List Env) (s : Shared) (H : Hp) (E : XK) (hg : (A.deeper (envOfC "_law_first_right" (defScope s__law_first_right) s.heap.objs.size M.a__law_first_right (.ref cc))).guards = some []) (hr : Room 10 (A.deeper (envOfC "_law_first_right" (defScope s__law_first_right) s.heap.objs.size M.a__law_first_right (.ref cc)))) : SS (CB P w K mg base ["_law_pen_here", "_law_goods", "_law_none", "_law_bad", "_law_odd", "_law_shares", "_law_market", "_law_heard_here", "_law_due", "_law_counts"] "_law_first_right" (defScope s__law_first_right) M.a__law_first_right (.ref cc) A outer s H E) E ((defBody s__law_first_right).getD 9 (.Pass ⟨0, 0, 0, 0⟩)) b__law_first_right_9 := (ss_set (ps_set (i := 9) sc__law_first_right.nd (by rfl) (by first | exact .inl rfl | exact .inr rfl) (se_callIo (ok__law_one_of M hD) (binds_of M.t__law_one_of 2 fun _ _ _ _ _ _ us hl => match us, hl with | [_, _], _ => rfl) hg (hr.mono (by decide)) pass_body (by rfl) M.g__law_one_of M.t__law_one_of.kp (by decide) (pv 0) (sa_cons (se_lst (sa_cons se_non (sa_cons se_int (sa_cons (se_lst sa_nil) (sa_cons (se_tup sa_nil) (sa_cons (se_bin op_mulAll ops_mul (se_lst (sa_cons se_int sa_nil (star_no rfl))) se_int) (sa_cons (se_lst (sa_cons (se_neg se_int) sa_nil (star_no rfl))) (sa_cons (se_lst (sa_cons se_int (sa_cons se_bl sa_nil (star_no rfl)) (star_no rfl))) (sa_cons (se_lst (sa_cons se_str sa_nil (star_no rfl))) (sa_cons (se_lst (sa_cons se_int sa_nil (star_no rfl))) (sa_cons (se_lst (sa_cons (se_tup (sa_cons se_int (sa_cons se_int sa_nil (star_no rfl)) (star_no rfl))) sa_nil (star_no rfl))) (sa_cons se_dnew (sa_cons se_str (sa_cons (se_lst (sa_cons se_int (sa_cons se_non sa_nil (star_no rfl)) (star_no rfl))) (sa_cons (se_lst (sa_cons se_int (sa_cons (se_bin op_pow ops_pow se_int se_int) sa_nil (star_no rfl)) (star_no rfl))) sa_nil (star_no rfl)) (star_no rfl)) (star_no rfl)) (star_no rfl)) (star_no rfl)) (star_no rfl)) (star_no rfl)) (star_no rfl)) (star_no rfl)) (star_no rfl)) (star_no rfl)) (star_no rfl)) (star_no rfl)) (star_no rfl))) sa_nil (star_no rfl)) rfl)))
theorem ok__law_first_right_10 (M : Md K mg) (hD : base.NoDigits) (B : Lm M base) {cc PP : Addr} (tb : LamX.TabB base mg cc PP) (hT : (PP, qL "_law_first_right" (defScope s__law_first_right)) ∈ TabT.T) (hX : ∀ p ∈ TabT.T, p.1 = PP → p.2 = qL "_law_first_right" (defScope s__law_first_right)) (A : Around) (outer : List Env) (s : Shared) (H : Hp) (E : XK) (hg : (A.deeper (envOfC "_law_first_right" (defScope s__law_first_right) s.heap.objs.size M.a__law_first_right (.ref cc))).guards = some []) (hr : Room 10 (A.deeper (envOfC "_law_first_right" (defScope s__law_first_right) s.heap.objs.size M.a__law_first_right (.ref cc)))) : SS (CB P w K mg base ["_law_pen_here", "_law_goods", "_law_none", "_law_bad", "_law_odd", "_law_shares", "_law_market", "_law_heard_here", "_law_due", "_law_counts"] "_law_first_right" (defScope s__law_first_right) M.a__law_first_right (.ref cc) A outer s H E) E ((defBody s__law_first_right).getD 10 (.Pass ⟨0, 0, 0, 0⟩)) b__law_first_right_10 := (ss_ret (se_cmp (op_eqS (un64 hr)) ops_eqS (se_hear (k := 4) (caps := [9]) (hd__law_heard M).choose_spec rfl (ca_PriceError M) (by rfl) tb rfl hT hX (hr.mono (by decide)) (lamD_of (by kernel_rfl)) ⟨rfl, .inl rfl⟩ (bindL_none rfl fun _ _ _ _ _ _ => rfl) (fun A outer s H E f c hA hrL => (se_call (sh := ⟨1, [], [.pos 0]⟩) (ok_even_weight M hD) (sh_even_weight_0 M) rfl (hA.trans hg) (hrL.mono (by decide)) pass_lam (by rfl) M.g_even_weight M.t_even_weight.kp (by decide) (sa_cons (se_var (pv 9)) sa_nil (star_no rfl)) sk_nil rfl rfl rfl (fun h => nomatch h) (fun _ => rfl))) (fun s H hA hrH => hr__law_heard M hD _ _ _ _ s H (hA.trans hg) hrH)) (se_tup (sa_cons se_str (sa_cons se_str sa_nil (star_no rfl)) (star_no rfl))) (nomark _)))
theorem ok__law_first_right (M : Md K mg) (hD : base.NoDigits) (B : Lm M base) : FnG P w K mg base 11 M.a__law_first_right M.d__law_first_right ["_law_pen_here", "_law_goods"] (spF ⟨K, mg⟩ 2 true F__law_first_right) := by
  obtain ⟨cc, PP, tb, hcd, hT, hX⟩ := B.l__law_first_right
  exact fn_textC M.t__law_first_right sc__law_first_right hcd fun A outer s H E hg hr =>
    (sss_cons (ok__law_first_right_0 M hD B tb hT hX A outer s H E hg hr) (sss_cons (ok__law_first_right_1 M hD B tb hT hX A outer s H E hg hr) (sss_cons (ok__law_first_right_2 M hD B tb hT hX A outer s H E hg hr) (sss_cons (ok__law_first_right_3 M hD B tb hT hX A outer s H E hg hr) (sss_cons (ok__law_first_right_4 M hD B tb hT hX A outer s H E hg hr) (sss_cons (ok__law_first_right_5 M hD B tb hT hX A outer s H E hg hr) (sss_cons (ok__law_first_right_6 M hD B tb hT hX A outer s H E hg hr) (sss_cons (ok__law_first_right_7 M hD B tb hT hX A outer s H E hg hr) (sss_cons (ok__law_first_right_8 M hD B tb hT hX A outer s H E hg hr) (sss_cons (ok__law_first_right_9 M hD B tb hT hX A outer s H E hg hr) (sss_one (ok__law_first_right_10 M hD B tb hT hX A outer s H E hg hr))))))))))))
theorem ok_law_0 (M : Md K mg) (hD : base.NoDigits) (B : Lm M base) {cc PP : Addr} (tb : LamX.TabB base mg cc PP) (hT : (PP, qL "law" (defScope s_law)) ∈ TabT.T) (hX : ∀ p ∈ TabT.T, p.1 = PP → p.2 = qL "law" (defScope s_law)) (A : Around) (outer : List Env) (s : Shared) (H : Hp) (E : XK) (hg : (A.deeper (envOfC "law" (defScope s_law) s.heap.objs.size M.a_law (.ref cc))).guards = some []) (hr : Room 11 (A.deeper (envOfC "law" (defScope s_law) s.heap.objs.size M.a_law (.ref cc)))) : SS (CB P w K mg base ["_law_script", "_law_pen_here", "_law_turn", "_law_goods", "_law_days", "_law_shares", "_law_wide", "_law_heard_here", "_law_many", "_law_market", "_law_due", "_law_kept", "_law_told"] "law" (defScope s_law) M.a_law (.ref cc) A outer s H E) E ((defBody s_law).getD 0 (.Pass ⟨0, 0, 0, 0⟩)) b_law_0 := (ss_set (ps_set (i := 1) sc_law.nd (by rfl) (by first | exact .inl rfl | exact .inr rfl) (se_call (sh := ⟨1, [], [.pos 0]⟩) (ok__law_pen M hD) (sh__law_pen_0 M) rfl hg (hr.mono (by decide)) pass_body (by rfl) M.g__law_pen M.t__law_pen.kp (by decide) (sa_cons (se_var (pv 0)) sa_nil (star_no rfl)) sk_nil rfl rfl rfl (fun h => nomatch h) (fun _ => rfl))))
theorem ok_law_1_0 (M : Md K mg) (hD : base.NoDigits) (B : Lm M base) {cc PP : Addr} (tb : LamX.TabB base mg cc PP) (hT : (PP, qL "law" (defScope s_law)) ∈ TabT.T) (hX : ∀ p ∈ TabT.T, p.1 = PP → p.2 = qL "law" (defScope s_law)) (A : Around) (outer : List Env) (s : Shared) (H : Hp) (E : XK) (hg : (A.deeper (envOfC "law" (defScope s_law) s.heap.objs.size M.a_law (.ref cc))).guards = some []) (hr : Room 11 (A.deeper (envOfC "law" (defScope s_law) s.heap.objs.size M.a_law (.ref cc)))) : SS (CB P w K mg base ["_law_script", "_law_pen_here", "_law_turn", "_law_goods", "_law_days", "_law_shares", "_law_wide", "_law_heard_here", "_law_many", "_law_market", "_law_due", "_law_kept", "_law_told"] "law" (defScope s_law) M.a_law (.ref cc) A outer s H E) E ((forBody ((defBody s_law).getD 1 (.Pass ⟨0, 0, 0, 0⟩))).getD 0 (.Pass ⟨0, 0, 0, 0⟩)) b_law_1_0 := (ss_if (st_not (st_tru (se_callIo (ok__law_first_right M hD B) (binds_of M.t__law_first_right 2 fun _ _ _ _ _ _ us hl => match us, hl with | [_, _], _ => rfl) hg (hr.mono (by decide)) pass_body (by rfl) M.g__law_first_right M.t__law_first_right.kp (by decide) (pv 1) (sa_cons (se_bin op_addAll ops_add se_int (se_callIo (ok__law_draw M hD) (binds_of M.t__law_draw 2 fun _ _ _ _ _ _ us hl => match us, hl with | [_, _], _ => rfl) hg (hr.mono (by decide)) pass_body (by rfl) M.g__law_draw M.t__law_draw.kp (by decide) (pv 1) (sa_cons se_int sa_nil (star_no rfl)) rfl)) sa_nil (star_no rfl)) rfl) (fun _ => rfl))) (sss_one (ss_ret se_bl)) sss_nil)
theorem ok_law_1 (M : Md K mg) (hD : base.NoDigits) (B : Lm M base) {cc PP : Addr} (tb : LamX.TabB base mg cc PP) (hT : (PP, qL "law" (defScope s_law)) ∈ TabT.T) (hX : ∀ p ∈ TabT.T, p.1 = PP → p.2 = qL "law" (defScope s_law)) (A : Around) (outer : List Env) (s : Shared) (H : Hp) (E : XK) (hg : (A.deeper (envOfC "law" (defScope s_law) s.heap.objs.size M.a_law (.ref cc))).guards = some []) (hr : Room 11 (A.deeper (envOfC "law" (defScope s_law) s.heap.objs.size M.a_law (.ref cc)))) : SS (CB P w K mg base ["_law_script", "_law_pen_here", "_law_turn", "_law_goods", "_law_days", "_law_shares", "_law_wide", "_law_heard_here", "_law_many", "_law_market", "_law_due", "_law_kept", "_law_told"] "law" (defScope s_law) M.a_law (.ref cc) A outer s H E) E ((defBody s_law).getD 1 (.Pass ⟨0, 0, 0, 0⟩)) b_law_1 := (ss_for own_body rfl (si_rng1 (by rfl) M.n_range (sa_cons se_int sa_nil (star_no rfl)) rfl) (sg_name (ts := [2]) (pg_name (i := 2) sc_law.nd (by rfl) (by first | exact .inl rfl | exact .inr rfl)) (by decide)) (sss_one (ok_law_1_0 M hD B tb hT hX A outer s H E hg hr)) (fun _ => rfl))
theorem ok_law_2 (M : Md K mg) (hD : base.NoDigits) (B : Lm M base) {cc PP : Addr} (tb : LamX.TabB base mg cc PP) (hT : (PP, qL "law" (defScope s_law)) ∈ TabT.T) (hX : ∀ p ∈ TabT.T, p.1 = PP → p.2 = qL "law" (defScope s_law)) (A : Around) (outer : List Env) (s : Shared) (H : Hp) (E : XK) (hg : (A.deeper (envOfC "law" (defScope s_law) s.heap.objs.size M.a_law (.ref cc))).guards = some []) (hr : Room 11 (A.deeper (envOfC "law" (defScope s_law) s.heap.objs.size M.a_law (.ref cc)))) : SS (CB P w K mg base ["_law_script", "_law_pen_here", "_law_turn", "_law_goods", "_law_days", "_law_shares", "_law_wide", "_law_heard_here", "_law_many", "_law_market", "_law_due", "_law_kept", "_law_told"] "law" (defScope s_law) M.a_law (.ref cc) A outer s H E) E ((defBody s_law).getD 2 (.Pass ⟨0, 0, 0, 0⟩)) b_law_2 := (ss_set (ps_set (i := 3) sc_law.nd (by rfl) (by first | exact .inl rfl | exact .inr rfl) (se_callIo (ok__law_one_of M hD) (binds_of M.t__law_one_of 2 fun _ _ _ _ _ _ us hl => match us, hl with | [_, _], _ => rfl) hg (hr.mono (by decide)) pass_body (by rfl) M.g__law_one_of M.t__law_one_of.kp (by decide) (pv 1) (sa_cons (se_lst (sa_cons se_int (sa_cons se_int (sa_cons se_int sa_nil (star_no rfl)) (star_no rfl)) (star_no rfl))) sa_nil (star_no rfl)) rfl)))
theorem ok_law_3 (M : Md K mg) (hD : base.NoDigits) (B : Lm M base) {cc PP : Addr} (tb : LamX.TabB base mg cc PP) (hT : (PP, qL "law" (defScope s_law)) ∈ TabT.T) (hX : ∀ p ∈ TabT.T, p.1 = PP → p.2 = qL "law" (defScope s_law)) (A : Around) (outer : List Env) (s : Shared) (H : Hp) (E : XK) (hg : (A.deeper (envOfC "law" (defScope s_law) s.heap.objs.size M.a_law (.ref cc))).guards = some []) (hr : Room 11 (A.deeper (envOfC "law" (defScope s_law) s.heap.objs.size M.a_law (.ref cc)))) : SS (CB P w K mg base ["_law_script", "_law_pen_here", "_law_turn", "_law_goods", "_law_days", "_law_shares", "_law_wide", "_law_heard_here", "_law_many", "_law_market", "_law_due", "_law_kept", "_law_told"] "law" (defScope s_law) M.a_law (.ref cc) A outer s H E) E ((defBody s_law).getD 3 (.Pass ⟨0, 0, 0, 0⟩)) b_law_3 := (ss_asg (sg_tup rfl (sgs_cons (sg_name (ts := [4, 5]) (pg_name (i := 4) sc_law.nd (by rfl) (by first | exact .inl rfl | exact .inr rfl)) (by decide)) (sgs_cons (sg_name (ts := [4, 5]) (pg_name (i := 5) sc_law.nd (by rfl) (by first | exact .inl rfl | exact .inr rfl)) (by decide)) sgs_nil (by rfl)) (by rfl)) (by rfl) (by rfl)) (se_tup (sa_cons (se_dix (kv := [(5, 17), (4, 30), (3, 99)]) (un1 hr) (pps_cons pe_int pe_int (pps_cons pe_int pe_int (pps_cons pe_int pe_int pps_nil))) rfl rfl (by simp) (by decide) (by decide) (se_var (pv 3)) (fun _ _ => rfl)) (sa_cons (se_bin op_addAll ops_add (se_lst (sa_cons se_int sa_nil (star_no rfl))) (se_bin op_mulAll ops_mul (se_lst (sa_cons se_int sa_nil (star_no rfl))) (se_bin op_sub ops_sub (se_var (pv 3)) se_int))) sa_nil (star_no rfl)) (star_no rfl))) (by rfl) (by rfl) (by rfl))
theorem ok_law_4 (M : Md K mg) (hD : base.NoDigits) (B : Lm M base) {cc PP : Addr} (tb : LamX.TabB base mg cc PP) (hT : (PP, qL "law" (defScope s_law)) ∈ TabT.T) (hX : ∀ p ∈ TabT.T, p.1 = PP → p.2 = qL "law" (defScope s_law)) (A : Around) (outer : List Env) (s : Shared) (H : Hp) (E : XK) (hg : (A.deeper (envOfC "law" (defScope s_law) s.heap.objs.size M.a_law (.ref cc))).guards = some []) (hr : Room 11 (A.deeper (envOfC "law" (defScope s_law) s.heap.objs.size M.a_law (.ref cc)))) : SS (CB P w K mg base ["_law_script", "_law_pen_here", "_law_turn", "_law_goods", "_law_days", "_law_shares", "_law_wide", "_law_heard_here", "_law_many", "_law_market", "_law_due", "_law_kept", "_law_told"] "law" (defScope s_law) M.a_law (.ref cc) A outer s H E) E ((defBody s_law).getD 4 (.Pass ⟨0, 0, 0, 0⟩)) b_law_4 := (ss_set (ps_set (i := 6) sc_law.nd (by rfl) (by first | exact .inl rfl | exact .inr rfl) (se_bin op_mulAll ops_mul (se_lst (sa_cons (se_bin op_mulAll ops_mul (se_lst (sa_cons se_int sa_nil (star_no rfl))) (se_var (pv 3))) sa_nil (star_no rfl))) (se_var (pv 4)))))
theorem ok_law_5 (M : Md K mg) (hD : base.NoDigits) (B : Lm M base) {cc PP : Addr} (tb : LamX.TabB base mg cc PP) (hT : (PP, qL "law" (defScope s_law)) ∈ TabT.T) (hX : ∀ p ∈ TabT.T, p.1 = PP → p.2 = qL "law" (defScope s_law)) (A : Around) (outer : List Env) (s : Shared) (H : Hp) (E : XK) (hg : (A.deeper (envOfC "law" (defScope s_law) s.heap.objs.size M.a_law (.ref cc))).guards = some []) (hr : Room 11 (A.deeper (envOfC "law" (defScope s_law) s.heap.objs.size M.a_law (.ref cc)))) : SS (CB P w K mg base ["_law_script", "_law_pen_here", "_law_turn", "_law_goods", "_law_days", "_law_shares", "_law_wide", "_law_heard_here", "_law_many", "_law_market", "_law_due", "_law_kept", "_law_told"] "law" (defScope s_law) M.a_law (.ref cc) A outer s H E) E ((defBody s_law).getD 5 (.Pass ⟨0, 0, 0, 0⟩)) b_law_5 := (ss_set (ps_set (i := 7) sc_law.nd (by rfl) (by first | exact .inl rfl | exact .inr rfl) (se_lst (sa_cons (se_hear (k := 8) (caps := [3, 6]) (hd__law_heard M).choose_spec rfl (ca_PriceError M) (by rfl) tb rfl hT hX (hr.mono (by decide)) (lamD_of (by kernel_rfl)) ⟨rfl, .inl rfl⟩ (bindL_none rfl fun _ _ _ _ _ _ => rfl) (fun A outer s H E f c hA hrL => (se_call (sh := ⟨2, [], [.pos 0, .pos 1]⟩) (ok_even_purse M hD) (sh_even_purse_0 M) rfl (hA.trans hg) (hrL.mono (by decide)) pass_lam (by rfl) M.g_even_purse M.t_even_purse.kp (by decide) (sa_cons (se_var (pv 3)) (sa_cons (se_var (pv 6)) sa_nil (star_no rfl)) (star_no rfl)) sk_nil rfl rfl rfl (fun h => nomatch h) (fun _ => rfl))) (fun s H hA hrH => hr__law_heard M hD _ _ _ _ s H (hA.trans hg) hrH)) (sa_cons (se_hear (k := 8) (caps := [3, 6]) (hd__law_heard M).choose_spec rfl (ca_PriceError M) (by rfl) tb rfl hT hX (hr.mono (by decide)) (lamD_of (by kernel_rfl)) ⟨rfl, .inr ⟨_, .int 0, rfl, pe_int⟩⟩ (bindL_one rfl rfl fun _ _ _ _ _ _ _ _ => ⟨_, rfl, rfl⟩) (fun A outer s H E f c hA hrL => (se_call (sh := ⟨2, [], [.pos 0, .pos 1]⟩) (ok_even_amounts M hD) (sh_even_amounts_0 M) rfl (hA.trans hg) (hrL.mono (by decide)) pass_lam (by rfl) M.g_even_amounts M.t_even_amounts.kp (by decide) (sa_cons (se_var (pv 3)) (sa_cons (se_var (pv 6)) sa_nil (star_no rfl)) (star_no rfl)) sk_nil rfl rfl rfl (fun h => nomatch h) (fun _ => rfl))) (fun s H hA hrH => hr__law_heard M hD _ _ _ _ s H (hA.trans hg) hrH)) (sa_cons (se_hear (k := 8) (caps := [3, 5, 6]) (hd__law_heard M).choose_spec rfl (ca_PriceError M) (by rfl) tb rfl hT hX (hr.mono (by decide)) (lamD_of (by kernel_rfl)) ⟨rfl, .inr ⟨_, .int 0, rfl, pe_int⟩⟩ (bindL_one rfl rfl fun _ _ _ _ _ _ _ _ => ⟨_, rfl, rfl⟩) (fun A outer s H E f c hA hrL => (se_call (sh := ⟨3, [], [.pos 0, .pos 1, .pos 2]⟩) (ok_even_spare M hD) (sh_even_spare_0 M) rfl (hA.trans hg) (hrL.mono (by decide)) pass_lam (by rfl) M.g_even_spare M.t_even_spare.kp (by decide) (sa_cons (se_var (pv 3)) (sa_cons (se_var (pv 6)) (sa_cons (se_var (pv 5)) sa_nil (star_no rfl)) (star_no rfl)) (star_no rfl)) sk_nil rfl rfl rfl (fun h => nomatch h) (fun _ => rfl))) (fun s H hA hrH => hr__law_heard M hD _ _ _ _ s H (hA.trans hg) hrH)) sa_nil (star_no rfl)) (star_no rfl)) (star_no rfl)))))
theorem ok_law_6 (M : Md K mg) (hD : base.NoDigits) (B : Lm M base) {cc PP : Addr} (tb : LamX.TabB base mg cc PP) (hT : (PP, qL "law" (defScope s_law)) ∈ TabT.T) (hX : ∀ p ∈ TabT.T, p.1 = PP → p.2 = qL "law" (defScope s_law)) (A : Around) (outer : List Env) (s : Shared) (H : Hp) (E : XK) (hg : (A.deeper (envOfC "law" (defScope s_law) s.heap.objs.size M.a_law (.ref cc))).guards = some []) (hr : Room 11 (A.deeper (envOfC "law" (defScope s_law) s.heap.objs.size M.a_law (.ref cc)))) : SS (CB P w K mg base ["_law_script", "_law_pen_here", "_law_turn", "_law_goods", "_law_days", "_law_shares", "_law_wide", "_law_heard_here", "_law_many", "_law_market", "_law_due", "_law_kept", "_law_told"] "law" (defScope s_law) M.a_law (.ref cc) A outer s H E) E ((defBody s_law).getD 6 (.Pass ⟨0, 0, 0, 0⟩)) b_law_6 := (ss_set (ps_set (i := 7) sc_law.nd (by rfl) (by first | exact .inl rfl | exact .inr rfl) (se_bin op_addAll ops_add (se_var (pv 7)) (se_lst (sa_cons (se_hear (k := 8) (caps := [3, 5, 6]) (hd__law_heard M).choose_spec rfl (ca_PriceError M) (by rfl) tb rfl hT hX (hr.mono (by decide)) (lamD_of (by kernel_rfl)) ⟨rfl, .inl rfl⟩ (bindL_none rfl fun _ _ _ _ _ _ => rfl) (fun A outer s H E f c hA hrL => (se_call (sh := ⟨3, [], [.pos 0, .pos 1, .pos 2]⟩) (ok_even_spare M hD) (sh_even_spare_0 M) rfl (hA.trans hg) (hrL.mono (by decide)) pass_lam (by rfl) M.g_even_spare M.t_even_spare.kp (by decide) (sa_cons (se_var (pv 3)) (sa_cons (se_var (pv 6)) (sa_cons (se_bin op_addAll ops_add (se_lst (sa_cons se_int sa_nil (star_no rfl))) (se_sl (se_var (pv 5)) (so_some se_int) so_none)) sa_nil (star_no rfl)) (star_no rfl)) (star_no rfl)) sk_nil rfl rfl rfl (fun h => nomatch h) (fun _ => rfl))) (fun s H hA hrH => hr__law_heard M hD _ _ _ _ s H (hA.trans hg) hrH)) (sa_cons (se_hear (k := 8) (caps := [3, 6]) (hd__law_heard M).choose_spec rfl (ca_PriceError M) (by rfl) tb rfl hT hX (hr.mono (by decide)) (lamD_of (by kernel_rfl)) ⟨rfl, .inr ⟨_, .int 0, rfl, pe_int⟩⟩ (bindL_one rfl rfl fun _ _ _ _ _ _ _ _ => ⟨_, rfl, rfl⟩) (fun A outer s H E f c hA hrL => (se_call (sh := ⟨2, [], [.pos 0, .pos 1]⟩) (ok_even_purse M hD) (sh_even_purse_0 M) rfl (hA.trans hg) (hrL.mono (by decide)) pass_lam (by rfl) M.g_even_purse M.t_even_purse.kp (by decide) (sa_cons (se_var (pv 3)) (sa_cons (se_bin op_addAll ops_add (se_var (pv 6)) (se_lst (sa_cons (se_bin op_mulAll ops_mul (se_lst (sa_cons se_int sa_nil (star_no rfl))) (se_bin op_addAll ops_add (se_var (pv 3)) se_int)) sa_nil (star_no rfl)))) sa_nil (star_no rfl)) (star_no rfl)) sk_nil rfl rfl rfl (fun h => nomatch h) (fun _ => rfl))) (fun s H hA hrH => hr__law_heard M hD _ _ _ _ s H (hA.trans hg) hrH)) sa_nil (star_no rfl)) (star_no rfl))))))
theorem ok_law_7 (M : Md K mg) (hD : base.NoDigits) (B : Lm M base) {cc PP : Addr} (tb : LamX.TabB base mg cc PP) (hT : (PP, qL "law" (defScope s_law)) ∈ TabT.T) (hX : ∀ p ∈ TabT.T, p.1 = PP → p.2 = qL "law" (defScope s_law)) (A : Around) (outer : List Env) (s : Shared) (H : Hp) (E : XK) (hg : (A.deeper (envOfC "law" (defScope s_law) s.heap.objs.size M.a_law (.ref cc))).guards = some []) (hr : Room 11 (A.deeper (envOfC "law" (defScope s_law) s.heap.objs.size M.a_law (.ref cc)))) : SS (CB P w K mg base ["_law_script", "_law_pen_here", "_law_turn", "_law_goods", "_law_days", "_law_shares", "_law_wide", "_law_heard_here", "_law_many", "_law_market", "_law_due", "_law_kept", "_law_told"] "law" (defScope s_law) M.a_law (.ref cc) A outer s H E) E ((defBody s_law).getD 7 (.Pass ⟨0, 0, 0, 0⟩)) b_law_7 := (ss_if (PW.pt (sw_or (st_cmp (op_neS (un64 hr)) ops_neS (se_var (pv 7)) (se_bin op_addAll ops_add (se_bin op_mulAll ops_mul (se_lst (sa_cons (se_tup (sa_cons se_str (sa_cons se_str (sa_cons se_int sa_nil (star_no rfl)) (star_no rfl)) (star_no rfl))) sa_nil (star_no rfl))) se_int) (se_lst (sa_cons (se_tup (sa_cons se_str (sa_cons se_str sa_nil (star_no rfl)) (star_no rfl))) (sa_cons (se_tup (sa_cons se_str (sa_cons se_str sa_nil (star_no rfl)) (star_no rfl))) sa_nil (star_no rfl)) (star_no rfl)))) (nomark _)) (sw_or (st_cmp op_le ops_le (se_call (sh := ⟨2, [], [.pos 0, .pos 1]⟩) (ok_even_factor M hD) (sh_even_factor_0 M) rfl hg (hr.mono (by decide)) pass_body (by rfl) M.g_even_factor M.t_even_factor.kp (by decide) (sa_cons (se_var (pv 3)) (sa_cons (se_var (pv 4)) sa_nil (star_no rfl)) (star_no rfl)) sk_nil rfl rfl rfl (fun h => nomatch h) (fun _ => rfl)) se_int (nomark _)) (sw_or1 (st_cmp op_gt ops_gt (se_call (sh := ⟨2, [], [.pos 0, .pos 1]⟩) (ok_even_factor M hD) (sh_even_factor_0 M) rfl hg (hr.mono (by decide)) pass_body (by rfl) M.g_even_factor M.t_even_factor.kp (by decide) (sa_cons (se_var (pv 3)) (sa_cons (se_bin op_sub ops_sub (se_var (pv 4)) se_int) sa_nil (star_no rfl)) (star_no rfl)) sk_nil rfl rfl rfl (fun h => nomatch h) (fun _ => rfl)) se_int (nomark _)))))) (sss_one (ss_ret se_bl)) sss_nil)
theorem ok_law_8 (M : Md K mg) (hD : base.NoDigits) (B : Lm M base) {cc PP : Addr} (tb : LamX.TabB base mg cc PP) (hT : (PP, qL "law" (defScope s_law)) ∈ TabT.T) (hX : ∀ p ∈ TabT.T, p.1 = PP → p.2 = qL "law" (defScope s_law)) (A : Around) (outer : List Env) (s : Shared) (H : Hp) (E : XK) (hg : (A.deeper (envOfC "law" (defScope s_law) s.heap.objs.size M.a_law (.ref cc))).guards = some []) (hr : Room 11 (A.deeper (envOfC "law" (defScope s_law) s.heap.objs.size M.a_law (.ref cc)))) : SS (CB P w K mg base ["_law_script", "_law_pen_here", "_law_turn", "_law_goods", "_law_days", "_law_shares", "_law_wide", "_law_heard_here", "_law_many", "_law_market", "_law_due", "_law_kept", "_law_told"] "law" (defScope s_law) M.a_law (.ref cc) A outer s H E) E ((defBody s_law).getD 8 (.Pass ⟨0, 0, 0, 0⟩)) b_law_8 := (ss_set (ps_set (i := 8) sc_law.nd (by rfl) (by first | exact .inl rfl | exact .inr rfl) (se_callIo (ok__law_one_of M hD) (binds_of M.t__law_one_of 2 fun _ _ _ _ _ _ us hl => match us, hl with | [_, _], _ => rfl) hg (hr.mono (by decide)) pass_body (by rfl) M.g__law_one_of M.t__law_one_of.kp (by decide) (pv 1) (sa_cons (se_lst (sa_cons se_int (sa_cons se_int (sa_cons se_int sa_nil (star_no rfl)) (star_no rfl)) (star_no rfl))) sa_nil (star_no rfl)) rfl)))
theorem ok_law_9 (M : Md K mg) (hD : base.NoDigits) (B : Lm M base) {cc PP : Addr} (tb : LamX.TabB base mg cc PP) (hT : (PP, qL "law" (defScope s_law)) ∈ TabT.T) (hX : ∀ p ∈ TabT.T, p.1 = PP → p.2 = qL "law" (defScope s_law)) (A : Around) (outer : List Env) (s : Shared) (H : Hp) (E : XK) (hg : (A.deeper (envOfC "law" (defScope s_law) s.heap.objs.size M.a_law (.ref cc))).guards = some []) (hr : Room 11 (A.deeper (envOfC "law" (defScope s_law) s.heap.objs.size M.a_law (.ref cc)))) : SS (CB P w K mg base ["_law_script", "_law_pen_here", "_law_turn", "_law_goods", "_law_days", "_law_shares", "_law_wide", "_law_heard_here", "_law_many", "_law_market", "_law_due", "_law_kept", "_law_told"] "law" (defScope s_law) M.a_law (.ref cc) A outer s H E) E ((defBody s_law).getD 9 (.Pass ⟨0, 0, 0, 0⟩)) b_law_9 := (ss_par (by decide) (ps_par rfl sc_law.nd (by rfl) (by rfl) (by decide) (by rfl) (by rfl) (sa_cons (se_bin op_mulAll ops_mul (se_lst (sa_cons (se_lst (sa_cons se_int sa_nil (star_no rfl))) (sa_cons (se_lst (sa_cons (se_tup (sa_cons se_int (sa_cons se_int sa_nil (star_no rfl)) (star_no rfl))) sa_nil (star_no rfl))) sa_nil (star_no rfl)) (star_no rfl))) (se_var (pv 8))) (sa_cons (se_ix (se_lst (sa_cons (se_tup (sa_cons se_int (sa_cons se_int sa_nil (star_no rfl)) (star_no rfl))) (sa_cons (se_tup (sa_cons se_int (sa_cons se_int sa_nil (star_no rfl)) (star_no rfl))) (sa_cons (se_tup (sa_cons se_int (sa_cons se_int sa_nil (star_no rfl)) (star_no rfl))) sa_nil (star_no rfl)) (star_no rfl)) (star_no rfl))) (se_bin op_sub ops_sub (se_var (pv 8)) se_int) (fun _ _ => rfl)) sa_nil (star_no rfl)) (star_no rfl)) (by rfl)))
theorem ok_law_10 (M : Md K mg) (hD : base.NoDigits) (B : Lm M base) {cc PP : Addr} (tb : LamX.TabB base mg cc PP) (hT : (PP, qL "law" (defScope s_law)) ∈ TabT.T) (hX : ∀ p ∈ TabT.T, p.1 = PP → p.2 = qL "law" (defScope s_law)) (A : Around) (outer : List Env) (s : Shared) (H : Hp) (E : XK) (hg : (A.deeper (envOfC "law" (defScope s_law) s.heap.objs.size M.a_law (.ref cc))).guards = some []) (hr : Room 11 (A.deeper (envOfC "law" (defScope s_law) s.heap.objs.size M.a_law (.ref cc)))) : SS (CB P w K mg base ["_law_script", "_law_pen_here", "_law_turn", "_law_goods", "_law_days", "_law_shares", "_law_wide", "_law_heard_here", "_law_many", "_law_market", "_law_due", "_law_kept", "_law_told"] "law" (defScope s_law) M.a_law (.ref cc) A outer s H E) E ((defBody s_law).getD 10 (.Pass ⟨0, 0, 0, 0⟩)) b_law_10 := (ss_set (ps_set (i := 11) sc_law.nd (by rfl) (by first | exact .inl rfl | exact .inr rfl) (se_callB (cr_repr hg (un150 hr) hD) cas_repr (by rfl) M.n_repr (by first | exact PySem.boot_repr | decide +kernel | rfl) (sa_cons (se_var (pv 9)) sa_nil (star_no rfl)) (by decide) (by decide) rfl)))
theorem ok_law_11 (M : Md K mg) (hD : base.NoDigits) (B : Lm M base) {cc PP : Addr} (tb : LamX.TabB base mg cc PP) (hT : (PP, qL "law" (defScope s_law)) ∈ TabT.T) (hX : ∀ p ∈ TabT.T, p.1 = PP → p.2 = qL "law" (defScope s_law)) (A : Around) (outer : List Env) (s : Shared) (H : Hp) (E : XK) (hg : (A.deeper (envOfC "law" (defScope s_law) s.heap.objs.size M.a_law (.ref cc))).guards = some []) (hr : Room 11 (A.deeper (envOfC "law" (defScope s_law) s.heap.objs.size M.a_law (.ref cc)))) : SS (CB P w K mg base ["_law_script", "_law_pen_here", "_law_turn", "_law_goods", "_law_days", "_law_shares", "_law_wide", "_law_heard_here", "_law_many", "_law_market", "_law_due", "_law_kept", "_law_told"] "law" (defScope s_law) M.a_law (.ref cc) A outer s H E) E ((defBody s_law).getD 11 (.Pass ⟨0, 0, 0, 0⟩)) b_law_11 := (ss_set (ps_set (i := 12) sc_law.nd (by rfl) (by first | exact .inl rfl | exact .inr rfl) (se_lst (sa_cons (se_call (sh := ⟨2, [], [.pos 0, .pos 1]⟩) (ok_even_purse M hD) (sh_even_purse_0 M) rfl hg (hr.mono (by decide)) pass_body (by rfl) M.g_even_purse M.t_even_purse.kp (by decide) (sa_cons se_int (sa_cons (se_var (pv 9)) sa_nil (star_no rfl)) (star_no rfl)) sk_nil rfl rfl rfl (fun h => nomatch h) (fun _ => rfl)) (sa_cons (se_call (sh := ⟨2, [], [.pos 0, .pos 1]⟩) (ok_even_amounts M hD) (sh_even_amounts_0 M) rfl hg (hr.mono (by decide)) pass_body (by rfl) M.g_even_amounts M.t_even_amounts.kp (by decide) (sa_cons se_int (sa_cons (se_var (pv 9)) sa_nil (star_no rfl)) (star_no rfl)) sk_nil rfl rfl rfl (fun h => nomatch h) (fun _ => rfl)) (sa_cons (se_call (sh := ⟨3, [], [.pos 0, .pos 1, .pos 2]⟩) (ok_even_spare M hD) (sh_even_spare_0 M) rfl hg (hr.mono (by decide)) pass_body (by rfl) M.g_even_spare M.t_even_spare.kp (by decide) (sa_cons se_int (sa_cons (se_var (pv 9)) (sa_cons (se_lst (sa_cons se_int sa_nil (star_no rfl))) sa_nil (star_no rfl)) (star_no rfl)) (star_no rfl)) sk_nil rfl rfl rfl (fun h => nomatch h) (fun _ => rfl)) sa_nil (star_no rfl)) (star_no rfl)) (star_no rfl)))))
theorem ok_law_12 (M : Md K mg) (hD : base.NoDigits) (B : Lm M base) {cc PP : Addr} (tb : LamX.TabB base mg cc PP) (hT : (PP, qL "law" (defScope s_law)) ∈ TabT.T) (hX : ∀ p ∈ TabT.T, p.1 = PP → p.2 = qL "law" (defScope s_law)) (A : Around) (outer : List Env) (s : Shared) (H : Hp) (E : XK) (hg : (A.deeper (envOfC "law" (defScope s_law) s.heap.objs.size M.a_law (.ref cc))).guards = some []) (hr : Room 11 (A.deeper (envOfC "law" (defScope s_law) s.heap.objs.size M.a_law (.ref cc)))) : SS (CB P w K mg base ["_law_script", "_law_pen_here", "_law_turn", "_law_goods", "_law_days", "_law_shares", "_law_wide", "_law_heard_here", "_law_many", "_law_market", "_law_due", "_law_kept", "_law_told"] "law" (defScope s_law) M.a_law (.ref cc) A outer s H E) E ((defBody s_law).getD 12 (.Pass ⟨0, 0, 0, 0⟩)) b_law_12 := (ss_ret (se_and (se_cmp (op_eqS (un64 hr)) ops_eqS (se_callB (cr_repr hg (un150 hr) hD) cas_repr (by rfl) M.n_repr (by first | exact PySem.boot_repr | decide +kernel | rfl) (sa_cons (se_var (pv 12)) sa_nil (star_no rfl)) (by decide) (by decide) rfl) (se_callB (cr_repr hg (un150 hr) hD) cas_repr (by rfl) M.n_repr (by first | exact PySem.boot_repr | decide +kernel | rfl) (sa_cons (se_lst (sa_cons (se_var (pv 10)) (sa_cons (se_tup (sa_cons (se_var (pv 10)) sa_nil (star_no rfl))) (sa_cons se_int sa_nil (star_no rfl)) (star_no rfl)) (star_no rfl))) sa_nil (star_no rfl)) (by decide) (by decide) rfl) (nomark _)) (se_one (se_cmp (op_eqS (un64 hr)) ops_eqS (se_callB (cr_repr hg (un150 hr) hD) cas_repr (by rfl) M.n_repr (by first | exact PySem.boot_repr | decide +kernel | rfl) (sa_cons (se_var (pv 9)) sa_nil (star_no rfl)) (by decide) (by decide) rfl) (se_var (pv 11)) (nomark _)))))
theorem ok_law (M : Md K mg) (hD : base.NoDigits) (B : Lm M base) : FnG P w K mg base 12 M.a_law M.d_law ["_law_script"] (spF ⟨K, mg⟩ 1 false F_law) := by
  obtain ⟨cc, PP, tb, hcd, hT, hX⟩ := B.l_law
  exact fn_textC M.t_law sc_law hcd fun A outer s H E hg hr =>
    (sss_cons (ok_law_0 M hD B tb hT hX A outer s H E hg hr) (sss_cons (ok_law_1 M hD B tb hT hX A outer s H E hg hr) (sss_cons (ok_law_2 M hD B tb hT hX A outer s H E hg hr) (sss_cons (ok_law_3 M hD B tb hT hX A outer s H E hg hr) (sss_cons (ok_law_4 M hD B tb hT hX A outer s H E hg hr) (sss_cons (ok_law_5 M hD B tb hT hX A outer s H E hg hr) (sss_cons (ok_law_6 M hD B tb hT hX A outer s H E hg hr) (sss_cons (ok_law_7 M hD B tb hT hX A outer s H E hg hr) (sss_cons (ok_law_8 M hD B tb hT hX A outer s H E hg hr) (sss_cons (ok_law_9 M hD B tb hT hX A outer s H E hg hr) (sss_cons (ok_law_10 M hD B tb hT hX A outer s H E hg hr) (sss_cons (ok_law_11 M hD B tb hT hX A outer s H E hg hr) (sss_one (ok_law_12 M hD B tb hT hX A outer s H E hg hr))))))))))))))
omit [TabT] in
theorem all_mk {w : World} {h : Heap} {fa : Addr} (X : K.In h) (G : h.Ns mainGlobals mg) (hfa : mg "law" = some (.ref fa))
    {f0 f1 f2 f3 f4 f5 f6 f7 f8 f9 f10 f11 f12 f13 f14 f15 f16 f17 f18 f19 f20 f21 f22 f23 f24 f25 f26 f27 f28 f29 f30 f31 f32 f33 f34 f35 f36 f37 f38 f39 f40 f41 f42 f43 f44 f45 f46 : Addr} {od0 an0 od1 an1 od2 an2 od3 an3 od4 an4 od5 an5 od6 an6 od7 an7 od8 an8 od9 an9 od10 an10 od11 an11 od12 an12 od13 an13 od14 an14 od15 an15 od16 an16 od17 an17 od18 an18 od19 an19 od20 an20 od21 an21 od22 an22 od23 an23 od24 an24 od25 an25 od26 an26 od27 an27 od28 an28 od29 an29 od30 an30 od31 an31 od32 an32 od33 an33 od34 an34 od35 an35 od36 an36 od37 an37 od38 an38 od39 an39 od40 an40 od41 an41 od42 an42 od43 an43 od44 an44 od45 an45 od46 an46 : Option Addr} {sl0 sl1 sl2 sl3 sl4 sl5 sl6 sl7 sl8 sl9 sl10 sl11 sl12 sl13 sl14 sl15 sl16 sl17 sl18 sl19 sl20 sl21 sl22 sl23 sl24 sl25 sl26 sl27 sl28 sl29 sl30 sl31 sl32 sl33 sl34 sl35 sl36 sl37 sl38 sl39 sl40 sl41 sl42 sl43 sl44 sl45 sl46 : Array (Option Value)} {oc0 kV0 dc0 pm0 cd0 ct0 oc1 kV1 dc1 pm1 cd1 ct1 oc2 kV2 dc2 pm2 cd2 ct2 oc3 kV3 dc3 pm3 cd3 ct3 oc4 kV4 dc4 pm4 cd4 ct4 oc5 kV5 dc5 pm5 cd5 ct5 oc6 kV6 dc6 pm6 cd6 ct6 oc7 kV7 dc7 pm7 cd7 ct7 oc8 kV8 dc8 pm8 cd8 ct8 oc9 kV9 dc9 pm9 cd9 ct9 oc10 kV10 dc10 pm10 cd10 ct10 oc11 kV11 dc11 pm11 cd11 ct11 oc12 kV12 dc12 pm12 cd12 ct12 oc13 kV13 dc13 pm13 cd13 ct13 oc14 kV14 dc14 pm14 cd14 ct14 oc15 kV15 dc15 pm15 cd15 ct15 oc16 kV16 dc16 pm16 cd16 ct16 oc17 kV17 dc17 pm17 cd17 ct17 oc18 kV18 dc18 pm18 cd18 ct18 oc19 kV19 dc19 pm19 cd19 ct19 oc20 kV20 dc20 pm20 cd20 ct20 oc21 kV21 dc21 pm21 cd21 ct21 oc22 kV22 dc22 pm22 cd22 ct22 oc23 kV23 dc23 pm23 cd23 ct23 oc24 kV24 dc24 pm24 cd24 ct24 oc25 kV25 dc25 pm25 cd25 ct25 oc26 kV26 dc26 pm26 cd26 ct26 oc27 kV27 dc27 pm27 cd27 ct27 oc28 kV28 dc28 pm28 cd28 ct28 oc29 kV29 dc29 pm29 cd29 ct29 oc30 kV30 dc30 pm30 cd30 ct30 oc31 kV31 dc31 pm31 cd31 ct31 oc32 kV32 dc32 pm32 cd32 ct32 oc33 kV33 dc33 pm33 cd33 ct33 oc34 kV34 dc34 pm34 cd34 ct34 oc35 kV35 dc35 pm35 cd35 ct35 oc36 kV36 dc36 pm36 cd36 ct36 oc37 kV37 dc37 pm37 cd37 ct37 oc38 kV38 dc38 pm38 cd38 ct38 oc39 kV39 dc39 pm39 cd39 ct39 oc40 kV40 dc40 pm40 cd40 ct40 oc41 kV41 dc41 pm41 cd41 ct41 oc42 kV42 dc42 pm42 cd42 ct42 oc43 kV43 dc43 pm43 cd43 ct43 oc44 kV44 dc44 pm44 cd44 ct44 oc45 kV45 dc45 pm45 ct45 oc46 kV46 dc46 pm46 ct46 : Value} {tk0 tk1 tk2 tk3 : Tok} {T17 : Addr} {Tc17 : Value} {Td17 : Option Addr} {Tn17 : Nat} {Ts17 : Array (Option Value)} {T35 : Addr} {Tc35 : Value} {Td35 : Option Addr} {Tn35 : Nat} {Ts35 : Array (Option Value)} {Tk17_0 : Tok} {Tk35_0 : Tok} {kc0 kc1 kc2 kc3 kc4 : Addr} {xn0 xq0 : Str} {xN0 ki0 : Addr} {xb0 : List Value} {xs0 : List Str} {xu0 : List Value} {xa0 : Bool} {xo0 : Option Bool} {xd0 iod0 ian0 : Option Addr} {xm0 xi0 xj0 xk0 xl0 : Option Value} {ioc0 ikV0 idc0 ipm0 icd0 ict0 : Value} {isl0 : Array (Option Value)} {xn1 xq1 : Str} {xN1 ki1 : Addr} {xb1 : List Value} {xs1 : List Str} {xu1 : List Value} {xa1 : Bool} {xo1 : Option Bool} {xd1 iod1 ian1 : Option Addr} {xm1 xi1 xj1 xk1 xl1 : Option Value} {ioc1 ikV1 idc1 ipm1 icd1 ict1 : Value} {isl1 : Array (Option Value)} {xn2 xq2 : Str} {xN2 ki2 : Addr} {xb2 : List Value} {xs2 : List Str} {xu2 : List Value} {xa2 : Bool} {xo2 : Option Bool} {xd2 iod2 ian2 : Option Addr} {xm2 xi2 xj2 xk2 xl2 : Option Value} {ioc2 ikV2 idc2 ipm2 icd2 ict2 : Value} {isl2 : Array (Option Value)} {xn3 xq3 : Str} {xN3 ki3 : Addr} {xb3 : List Value} {xs3 : List Str} {xu3 : List Value} {xa3 : Bool} {xo3 : Option Bool} {xd3 iod3 ian3 : Option Addr} {xm3 xi3 xj3 xk3 xl3 : Option Value} {ioc3 ikV3 idc3 ipm3 icd3 ict3 : Value} {isl3 : Array (Option Value)} {cc45 PP45 : Addr} {ce45 : Value} {cq45 : Option Addr} {cv45 : Array Value} {cs45 : Array (Option Value)} {cc46 PP46 : Addr} {ce46 : Value} {cq46 : Option Addr} {cv46 : Array Value} {cs46 : Array (Option Value)} {qq : Program}
    (p0 : PySem.W.nsIn K mainGlobals "_law_pen" = some (some (.ref f0))) (l0 : K.lookup f0 = some ⟨oc0, od0, .func (PySem.W.fnOf "_law_pen" "_law_pen" (defArgs s__law_pen) (defBody s__law_pen) (defScope s__law_pen) .none kV0 dc0 pm0 an0 cd0 ct0), sl0⟩) (c0 : PySem.W.codeIn K cd0 "_law_pen" = true) (q0 : PySem.W.keepIn K (.ref f0) = true)
    (p1 : PySem.W.nsIn K mainGlobals "_law_draw" = some (some (.ref f1))) (l1 : K.lookup f1 = some ⟨oc1, od1, .func (PySem.W.fnOf "_law_draw" "_law_draw" (defArgs s__law_draw) (defBody s__law_draw) (defScope s__law_draw) .none kV1 dc1 pm1 an1 cd1 ct1), sl1⟩) (c1 : PySem.W.codeIn K cd1 "_law_draw" = true) (q1 : PySem.W.keepIn K (.ref f1) = true)
    (p2 : PySem.W.nsIn K mainGlobals "_law_one_of" = some (some (.ref f2))) (l2 : K.lookup f2 = some ⟨oc2, od2, .func (PySem.W.fnOf "_law_one_of" "_law_one_of" (defArgs s__law_one_of) (defBody s__law_one_of) (defScope s__law_one_of) .none kV2 dc2 pm2 an2 cd2 ct2), sl2⟩) (c2 : PySem.W.codeIn K cd2 "_law_one_of" = true) (q2 : PySem.W.keepIn K (.ref f2) = true)
    (p3 : PySem.W.nsIn K mainGlobals "_law_heard" = some (some (.ref f3))) (l3 : K.lookup f3 = some ⟨oc3, od3, .func (PySem.W.fnOf "_law_heard" "_law_heard" (defArgs s__law_heard) (defBody s__law_heard) (defScope s__law_heard) .none kV3 dc3 pm3 an3 cd3 ct3), sl3⟩) (c3 : PySem.W.codeIn K cd3 "_law_heard" = true) (q3 : PySem.W.keepIn K (.ref f3) = true)
    (p4 : PySem.W.nsIn K mainGlobals "is_integer" = some (some (.ref f4))) (l4 : K.lookup f4 = some ⟨oc4, od4, .func (PySem.W.fnOf "is_integer" "is_integer" (defArgs s_is_integer) (defBody s_is_integer) (defScope s_is_integer) .none kV4 dc4 pm4 an4 cd4 ct4), sl4⟩) (c4 : PySem.W.codeIn K cd4 "is_integer" = true) (q4 : PySem.W.keepIn K (.ref f4) = true)
    (p5 : PySem.W.nsIn K mainGlobals "is_within" = some (some (.ref f5))) (l5 : K.lookup f5 = some ⟨oc5, od5, .func (PySem.W.fnOf "is_within" "is_within" (defArgs s_is_within) (defBody s_is_within) (defScope s_is_within) .none kV5 dc5 pm5 an5 cd5 ct5), sl5⟩) (c5 : PySem.W.codeIn K cd5 "is_within" = true) (q5 : PySem.W.keepIn K (.ref f5) = true)
    (p6 : PySem.W.nsIn K mainGlobals "need_integer" = some (some (.ref f6))) (l6 : K.lookup f6 = some ⟨oc6, od6, .func (PySem.W.fnOf "need_integer" "need_integer" (defArgs s_need_integer) (defBody s_need_integer) (defScope s_need_integer) .none kV6 dc6 pm6 an6 cd6 ct6), sl6⟩) (c6 : PySem.W.codeIn K cd6 "need_integer" = true) (q6 : PySem.W.keepIn K (.ref f6) = true)
    (p7 : PySem.W.nsIn K mainGlobals "need_goods" = some (some (.ref f7))) (l7 : K.lookup f7 = some ⟨oc7, od7, .func (PySem.W.fnOf "need_goods" "need_goods" (defArgs s_need_goods) (defBody s_need_goods) (defScope s_need_goods) .none kV7 dc7 pm7 an7 cd7 ct7), sl7⟩) (c7 : PySem.W.codeIn K cd7 "need_goods" = true) (q7 : PySem.W.keepIn K (.ref f7) = true)
    (p8 : PySem.W.nsIn K mainGlobals "is_list" = some (some (.ref f8))) (l8 : K.lookup f8 = some ⟨oc8, od8, .func (PySem.W.fnOf "is_list" "is_list" (defArgs s_is_list) (defBody s_is_list) (defScope s_is_list) .none kV8 dc8 pm8 an8 cd8 ct8), sl8⟩) (c8 : PySem.W.codeIn K cd8 "is_list" = true) (q8 : PySem.W.keepIn K (.ref f8) = true)
    (p9 : PySem.W.nsIn K mainGlobals "common" = some (some (.ref f9))) (l9 : K.lookup f9 = some ⟨oc9, od9, .func (PySem.W.fnOf "common" "common" (defArgs s_common) (defBody s_common) (defScope s_common) .none kV9 dc9 pm9 an9 cd9 ct9), sl9⟩) (c9 : PySem.W.codeIn K cd9 "common" = true) (q9 : PySem.W.keepIn K (.ref f9) = true)
    (p10 : PySem.W.nsIn K mainGlobals "is_number" = some (some (.ref f10))) (l10 : K.lookup f10 = some ⟨oc10, od10, .func (PySem.W.fnOf "is_number" "is_number" (defArgs s_is_number) (defBody s_is_number) (defScope s_is_number) .none kV10 dc10 pm10 an10 cd10 ct10), sl10⟩) (c10 : PySem.W.codeIn K cd10 "is_number" = true) (q10 : PySem.W.keepIn K (.ref f10) = true)
    (p11 : PySem.W.nsIn K mainGlobals "above_in" = some (some (.ref f11))) (l11 : K.lookup f11 = some ⟨oc11, od11, .func (PySem.W.fnOf "above_in" "above_in" (defArgs s_above_in) (defBody s_above_in) (defScope s_above_in) .none kV11 dc11 pm11 an11 cd11 ct11), sl11⟩) (c11 : PySem.W.codeIn K cd11 "above_in" = true) (q11 : PySem.W.keepIn K (.ref f11) = true)
    (p12 : PySem.W.nsIn K mainGlobals "is_from_0" = some (some (.ref f12))) (l12 : K.lookup f12 = some ⟨oc12, od12, .func (PySem.W.fnOf "is_from_0" "is_from_0" (defArgs s_is_from_0) (defBody s_is_from_0) (defScope s_is_from_0) .none kV12 dc12 pm12 an12 cd12 ct12), sl12⟩) (c12 : PySem.W.codeIn K cd12 "is_from_0" = true) (q12 : PySem.W.keepIn K (.ref f12) = true)
    (p13 : PySem.W.nsIn K mainGlobals "is_row" = some (some (.ref f13))) (l13 : K.lookup f13 = some ⟨oc13, od13, .func (PySem.W.fnOf "is_row" "is_row" (defArgs s_is_row) (defBody s_is_row) (defScope s_is_row) .none kV13 dc13 pm13 an13 cd13 ct13), sl13⟩) (c13 : PySem.W.codeIn K cd13 "is_row" = true) (q13 : PySem.W.keepIn K (.ref f13) = true)
    (p14 : PySem.W.nsIn K mainGlobals "is_market_of" = some (some (.ref f14))) (l14 : K.lookup f14 = some ⟨oc14, od14, .func (PySem.W.fnOf "is_market_of" "is_market_of" (defArgs s_is_market_of) (defBody s_is_market_of) (defScope s_is_market_of) .none kV14 dc14 pm14 an14 cd14 ct14), sl14⟩) (c14 : PySem.W.codeIn K cd14 "is_market_of" = true) (q14 : PySem.W.keepIn K (.ref f14) = true)
    (p15 : PySem.W.nsIn K mainGlobals "kept" = some (some (.ref f15))) (l15 : K.lookup f15 = some ⟨oc15, od15, .func (PySem.W.fnOf "kept" "kept" (defArgs s_kept) (defBody s_kept) (defScope s_kept) .none kV15 dc15 pm15 an15 cd15 ct15), sl15⟩) (c15 : PySem.W.codeIn K cd15 "kept" = true) (q15 : PySem.W.keepIn K (.ref f15) = true)
    (p16 : PySem.W.nsIn K mainGlobals "kept_row" = some (some (.ref f16))) (l16 : K.lookup f16 = some ⟨oc16, od16, .func (PySem.W.fnOf "kept_row" "kept_row" (defArgs s_kept_row) (defBody s_kept_row) (defScope s_kept_row) .none kV16 dc16 pm16 an16 cd16 ct16), sl16⟩) (c16 : PySem.W.codeIn K cd16 "kept_row" = true) (q16 : PySem.W.keepIn K (.ref f16) = true)
    (p17 : PySem.W.nsIn K mainGlobals "need_market" = some (some (.ref f17))) (l17 : K.lookup f17 = some ⟨oc17, od17, .func (PySem.W.fnOf "need_market" "need_market" (defArgs s_need_market) (defBody s_need_market) (defScope s_need_market) (.ref T17) kV17 dc17 pm17 an17 cd17 ct17), sl17⟩) (c17 : PySem.W.codeIn K cd17 "need_market" = true) (q17 : PySem.W.keepIn K (.ref f17) = true)
    (r17 : K.lookup T17 = some ⟨Tc17, Td17, .seq [.str "market" Tk17_0].toArray Tn17, Ts17⟩)
    (p18 : PySem.W.nsIn K mainGlobals "choose_in" = some (some (.ref f18))) (l18 : K.lookup f18 = some ⟨oc18, od18, .func (PySem.W.fnOf "choose_in" "choose_in" (defArgs s_choose_in) (defBody s_choose_in) (defScope s_choose_in) .none kV18 dc18 pm18 an18 cd18 ct18), sl18⟩) (c18 : PySem.W.codeIn K cd18 "choose_in" = true) (q18 : PySem.W.keepIn K (.ref f18) = true)
    (p19 : PySem.W.nsIn K mainGlobals "factor_in" = some (some (.ref f19))) (l19 : K.lookup f19 = some ⟨oc19, od19, .func (PySem.W.fnOf "factor_in" "factor_in" (defArgs s_factor_in) (defBody s_factor_in) (defScope s_factor_in) .none kV19 dc19 pm19 an19 cd19 ct19), sl19⟩) (c19 : PySem.W.codeIn K cd19 "factor_in" = true) (q19 : PySem.W.keepIn K (.ref f19) = true)
    (p20 : PySem.W.nsIn K mainGlobals "need_few" = some (some (.ref f20))) (l20 : K.lookup f20 = some ⟨oc20, od20, .func (PySem.W.fnOf "need_few" "need_few" (defArgs s_need_few) (defBody s_need_few) (defScope s_need_few) .none kV20 dc20 pm20 an20 cd20 ct20), sl20⟩) (c20 : PySem.W.codeIn K cd20 "need_few" = true) (q20 : PySem.W.keepIn K (.ref f20) = true)
    (p21 : PySem.W.nsIn K mainGlobals "lowest" = some (some (.ref f21))) (l21 : K.lookup f21 = some ⟨oc21, od21, .func (PySem.W.fnOf "lowest" "lowest" (defArgs s_lowest) (defBody s_lowest) (defScope s_lowest) .none kV21 dc21 pm21 an21 cd21 ct21), sl21⟩) (c21 : PySem.W.codeIn K cd21 "lowest" = true) (q21 : PySem.W.keepIn K (.ref f21) = true)
    (p22 : PySem.W.nsIn K mainGlobals "halves" = some (some (.ref f22))) (l22 : K.lookup f22 = some ⟨oc22, od22, .func (PySem.W.fnOf "halves" "halves" (defArgs s_halves) (defBody s_halves) (defScope s_halves) .none kV22 dc22 pm22 an22 cd22 ct22), sl22⟩) (c22 : PySem.W.codeIn K cd22 "halves" = true) (q22 : PySem.W.keepIn K (.ref f22) = true)
    (p23 : PySem.W.nsIn K mainGlobals "added" = some (some (.ref f23))) (l23 : K.lookup f23 = some ⟨oc23, od23, .func (PySem.W.fnOf "added" "added" (defArgs s_added) (defBody s_added) (defScope s_added) .none kV23 dc23 pm23 an23 cd23 ct23), sl23⟩) (c23 : PySem.W.codeIn K cd23 "added" = true) (q23 : PySem.W.keepIn K (.ref f23) = true)
    (p24 : PySem.W.nsIn K mainGlobals "total" = some (some (.ref f24))) (l24 : K.lookup f24 = some ⟨oc24, od24, .func (PySem.W.fnOf "total" "total" (defArgs s_total) (defBody s_total) (defScope s_total) .none kV24 dc24 pm24 an24 cd24 ct24), sl24⟩) (c24 : PySem.W.codeIn K cd24 "total" = true) (q24 : PySem.W.keepIn K (.ref f24) = true)
    (p25 : PySem.W.nsIn K mainGlobals "product" = some (some (.ref f25))) (l25 : K.lookup f25 = some ⟨oc25, od25, .func (PySem.W.fnOf "product" "product" (defArgs s_product) (defBody s_product) (defScope s_product) .none kV25 dc25 pm25 an25 cd25 ct25), sl25⟩) (c25 : PySem.W.codeIn K cd25 "product" = true) (q25 : PySem.W.keepIn K (.ref f25) = true)
    (p26 : PySem.W.nsIn K mainGlobals "factorial" = some (some (.ref f26))) (l26 : K.lookup f26 = some ⟨oc26, od26, .func (PySem.W.fnOf "factorial" "factorial" (defArgs s_factorial) (defBody s_factorial) (defScope s_factorial) .none kV26 dc26 pm26 an26 cd26 ct26), sl26⟩) (c26 : PySem.W.codeIn K cd26 "factorial" = true) (q26 : PySem.W.keepIn K (.ref f26) = true)
    (p27 : PySem.W.nsIn K mainGlobals "weight_in" = some (some (.ref f27))) (l27 : K.lookup f27 = some ⟨oc27, od27, .func (PySem.W.fnOf "weight_in" "weight_in" (defArgs s_weight_in) (defBody s_weight_in) (defScope s_weight_in) .none kV27 dc27 pm27 an27 cd27 ct27), sl27⟩) (c27 : PySem.W.codeIn K cd27 "weight_in" = true) (q27 : PySem.W.keepIn K (.ref f27) = true)
    (p28 : PySem.W.nsIn K mainGlobals "with_one" = some (some (.ref f28))) (l28 : K.lookup f28 = some ⟨oc28, od28, .func (PySem.W.fnOf "with_one" "with_one" (defArgs s_with_one) (defBody s_with_one) (defScope s_with_one) .none kV28 dc28 pm28 an28 cd28 ct28), sl28⟩) (c28 : PySem.W.codeIn K cd28 "with_one" = true) (q28 : PySem.W.keepIn K (.ref f28) = true)
    (p29 : PySem.W.nsIn K mainGlobals "grouped" = some (some (.ref f29))) (l29 : K.lookup f29 = some ⟨oc29, od29, .func (PySem.W.fnOf "grouped" "grouped" (defArgs s_grouped) (defBody s_grouped) (defScope s_grouped) .none kV29 dc29 pm29 an29 cd29 ct29), sl29⟩) (c29 : PySem.W.codeIn K cd29 "grouped" = true) (q29 : PySem.W.keepIn K (.ref f29) = true)
    (p30 : PySem.W.nsIn K mainGlobals "purse_in" = some (some (.ref f30))) (l30 : K.lookup f30 = some ⟨oc30, od30, .func (PySem.W.fnOf "purse_in" "purse_in" (defArgs s_purse_in) (defBody s_purse_in) (defScope s_purse_in) .none kV30 dc30 pm30 an30 cd30 ct30), sl30⟩) (c30 : PySem.W.codeIn K cd30 "purse_in" = true) (q30 : PySem.W.keepIn K (.ref f30) = true)
    (p31 : PySem.W.nsIn K mainGlobals "even_purse" = some (some (.ref f31))) (l31 : K.lookup f31 = some ⟨oc31, od31, .func (PySem.W.fnOf "even_purse" "even_purse" (defArgs s_even_purse) (defBody s_even_purse) (defScope s_even_purse) .none kV31 dc31 pm31 an31 cd31 ct31), sl31⟩) (c31 : PySem.W.codeIn K cd31 "even_purse" = true) (q31 : PySem.W.keepIn K (.ref f31) = true)
    (p32 : PySem.W.nsIn K mainGlobals "even_amounts" = some (some (.ref f32))) (l32 : K.lookup f32 = some ⟨oc32, od32, .func (PySem.W.fnOf "even_amounts" "even_amounts" (defArgs s_even_amounts) (defBody s_even_amounts) (defScope s_even_amounts) .none kV32 dc32 pm32 an32 cd32 ct32), sl32⟩) (c32 : PySem.W.codeIn K cd32 "even_amounts" = true) (q32 : PySem.W.keepIn K (.ref f32) = true)
    (p33 : PySem.W.nsIn K mainGlobals "is_sum_1" = some (some (.ref f33))) (l33 : K.lookup f33 = some ⟨oc33, od33, .func (PySem.W.fnOf "is_sum_1" "is_sum_1" (defArgs s_is_sum_1) (defBody s_is_sum_1) (defScope s_is_sum_1) .none kV33 dc33 pm33 an33 cd33 ct33), sl33⟩) (c33 : PySem.W.codeIn K cd33 "is_sum_1" = true) (q33 : PySem.W.keepIn K (.ref f33) = true)
    (p34 : PySem.W.nsIn K mainGlobals "is_mix_of" = some (some (.ref f34))) (l34 : K.lookup f34 = some ⟨oc34, od34, .func (PySem.W.fnOf "is_mix_of" "is_mix_of" (defArgs s_is_mix_of) (defBody s_is_mix_of) (defScope s_is_mix_of) .none kV34 dc34 pm34 an34 cd34 ct34), sl34⟩) (c34 : PySem.W.codeIn K cd34 "is_mix_of" = true) (q34 : PySem.W.keepIn K (.ref f34) = true)
    (p35 : PySem.W.nsIn K mainGlobals "need_mix" = some (some (.ref f35))) (l35 : K.lookup f35 = some ⟨oc35, od35, .func (PySem.W.fnOf "need_mix" "need_mix" (defArgs s_need_mix) (defBody s_need_mix) (defScope s_need_mix) (.ref T35) kV35 dc35 pm35 an35 cd35 ct35), sl35⟩) (c35 : PySem.W.codeIn K cd35 "need_mix" = true) (q35 : PySem.W.keepIn K (.ref f35) = true)
    (r35 : K.lookup T35 = some ⟨Tc35, Td35, .seq [.str "shares" Tk35_0].toArray Tn35, Ts35⟩)
    (p36 : PySem.W.nsIn K mainGlobals "multiplied" = some (some (.ref f36))) (l36 : K.lookup f36 = some ⟨oc36, od36, .func (PySem.W.fnOf "multiplied" "multiplied" (defArgs s_multiplied) (defBody s_multiplied) (defScope s_multiplied) .none kV36 dc36 pm36 an36 cd36 ct36), sl36⟩) (c36 : PySem.W.codeIn K cd36 "multiplied" = true) (q36 : PySem.W.keepIn K (.ref f36) = true)
    (p37 : PySem.W.nsIn K mainGlobals "turned" = some (some (.ref f37))) (l37 : K.lookup f37 = some ⟨oc37, od37, .func (PySem.W.fnOf "turned" "turned" (defArgs s_turned) (defBody s_turned) (defScope s_turned) .none kV37 dc37 pm37 an37 cd37 ct37), sl37⟩) (c37 : PySem.W.codeIn K cd37 "turned" = true) (q37 : PySem.W.keepIn K (.ref f37) = true)
    (p38 : PySem.W.nsIn K mainGlobals "less_by" = some (some (.ref f38))) (l38 : K.lookup f38 = some ⟨oc38, od38, .func (PySem.W.fnOf "less_by" "less_by" (defArgs s_less_by) (defBody s_less_by) (defScope s_less_by) .none kV38 dc38 pm38 an38 cd38 ct38), sl38⟩) (c38 : PySem.W.codeIn K cd38 "less_by" = true) (q38 : PySem.W.keepIn K (.ref f38) = true)
    (p39 : PySem.W.nsIn K mainGlobals "summed" = some (some (.ref f39))) (l39 : K.lookup f39 = some ⟨oc39, od39, .func (PySem.W.fnOf "summed" "summed" (defArgs s_summed) (defBody s_summed) (defScope s_summed) .none kV39 dc39 pm39 an39 cd39 ct39), sl39⟩) (c39 : PySem.W.codeIn K cd39 "summed" = true) (q39 : PySem.W.keepIn K (.ref f39) = true)
    (p40 : PySem.W.nsIn K mainGlobals "even_spare" = some (some (.ref f40))) (l40 : K.lookup f40 = some ⟨oc40, od40, .func (PySem.W.fnOf "even_spare" "even_spare" (defArgs s_even_spare) (defBody s_even_spare) (defScope s_even_spare) .none kV40 dc40 pm40 an40 cd40 ct40), sl40⟩) (c40 : PySem.W.codeIn K cd40 "even_spare" = true) (q40 : PySem.W.keepIn K (.ref f40) = true)
    (p41 : PySem.W.nsIn K mainGlobals "need_days" = some (some (.ref f41))) (l41 : K.lookup f41 = some ⟨oc41, od41, .func (PySem.W.fnOf "need_days" "need_days" (defArgs s_need_days) (defBody s_need_days) (defScope s_need_days) .none kV41 dc41 pm41 an41 cd41 ct41), sl41⟩) (c41 : PySem.W.codeIn K cd41 "need_days" = true) (q41 : PySem.W.keepIn K (.ref f41) = true)
    (p42 : PySem.W.nsIn K mainGlobals "even_factor" = some (some (.ref f42))) (l42 : K.lookup f42 = some ⟨oc42, od42, .func (PySem.W.fnOf "even_factor" "even_factor" (defArgs s_even_factor) (defBody s_even_factor) (defScope s_even_factor) .none kV42 dc42 pm42 an42 cd42 ct42), sl42⟩) (c42 : PySem.W.codeIn K cd42 "even_factor" = true) (q42 : PySem.W.keepIn K (.ref f42) = true)
    (p43 : PySem.W.nsIn K mainGlobals "need_counts" = some (some (.ref f43))) (l43 : K.lookup f43 = some ⟨oc43, od43, .func (PySem.W.fnOf "need_counts" "need_counts" (defArgs s_need_counts) (defBody s_need_counts) (defScope s_need_counts) .none kV43 dc43 pm43 an43 cd43 ct43), sl43⟩) (c43 : PySem.W.codeIn K cd43 "need_counts" = true) (q43 : PySem.W.keepIn K (.ref f43) = true)
    (p44 : PySem.W.nsIn K mainGlobals "even_weight" = some (some (.ref f44))) (l44 : K.lookup f44 = some ⟨oc44, od44, .func (PySem.W.fnOf "even_weight" "even_weight" (defArgs s_even_weight) (defBody s_even_weight) (defScope s_even_weight) .none kV44 dc44 pm44 an44 cd44 ct44), sl44⟩) (c44 : PySem.W.codeIn K cd44 "even_weight" = true) (q44 : PySem.W.keepIn K (.ref f44) = true)
    (p45 : PySem.W.nsIn K mainGlobals "_law_first_right" = some (some (.ref f45))) (l45 : K.lookup f45 = some ⟨oc45, od45, .func (PySem.W.fnOf "_law_first_right" "_law_first_right" (defArgs s__law_first_right) (defBody s__law_first_right) (defScope s__law_first_right) .none kV45 dc45 pm45 an45 (.ref cc45) ct45), sl45⟩) (c45 : PySem.W.codeIn K (.ref cc45) "_law_first_right" = true) (q45 : PySem.W.keepIn K (.ref f45) = true)
    (p46 : PySem.W.nsIn K mainGlobals "law" = some (some (.ref f46))) (l46 : K.lookup f46 = some ⟨oc46, od46, .func (PySem.W.fnOf "law" "law" (defArgs s_law) (defBody s_law) (defScope s_law) .none kV46 dc46 pm46 an46 (.ref cc46) ct46), sl46⟩) (c46 : PySem.W.codeIn K (.ref cc46) "law" = true) (q46 : PySem.W.keepIn K (.ref f46) = true)
    (b0 : PySem.W.nsIn K mainGlobals "abs" = some none)
    (b1 : PySem.W.nsIn K mainGlobals "all" = some none)
    (b2 : PySem.W.nsIn K mainGlobals "bool" = some none)
    (b3 : PySem.W.nsIn K mainGlobals "int" = some none)
    (b4 : PySem.W.nsIn K mainGlobals "isinstance" = some none)
    (b5 : PySem.W.nsIn K mainGlobals "len" = some none)
    (b6 : PySem.W.nsIn K mainGlobals "list" = some none)
    (b7 : PySem.W.nsIn K mainGlobals "max" = some none)
    (b8 : PySem.W.nsIn K mainGlobals "range" = some none)
    (b9 : PySem.W.nsIn K mainGlobals "repr" = some none)
    (b10 : PySem.W.nsIn K mainGlobals "sum" = some none)
    (b11 : PySem.W.nsIn K mainGlobals "tuple" = some none)
    (b12 : PySem.W.nsIn K mainGlobals "zip" = some none)
    (v0 : PySem.W.nsIn K mainGlobals "MOST_COUNT" = some (some (.int 1000 tk0)))
    (v1 : PySem.W.nsIn K mainGlobals "MOST_COUNTS" = some (some (.int 5000 tk1)))
    (v2 : PySem.W.nsIn K mainGlobals "MOST_DAYS" = some (some (.int 1000 tk2)))
    (v3 : PySem.W.nsIn K mainGlobals "MOST_GOODS" = some (some (.int 5 tk3)))
    (w45 : K.lookup cc45 = some ⟨ce45, cq45, .fields cv45, cs45⟩) (o45 : cv45[11]? = some (.ref PP45)) (y45 : ((recsOf qq).any fun e => e.name == "_law_first_right") = true)
    (w46 : K.lookup cc46 = some ⟨ce46, cq46, .fields cv46, cs46⟩) (o46 : cv46[11]? = some (.ref PP46)) (y46 : ((recsOf qq).any fun e => e.name == "law") = true)
    (tq : TabsK qq K h) (nt : PySem.W.noTabs K = true) (dd45_46 : PP45 ≠ PP46)
    (ka0 : PySem.W.nsIn K mainGlobals "BadNumber" = some (some (.ref kc0)))
    (ka1 : PySem.W.nsIn K mainGlobals "BadMarket" = some (some (.ref kc1)))
    (ka2 : PySem.W.nsIn K mainGlobals "TooMany" = some (some (.ref kc2)))
    (ka3 : PySem.W.nsIn K mainGlobals "BadMix" = some (some (.ref kc3)))
    (ka4 : PySem.W.nsIn K mainGlobals "PriceError" = some (some (.ref kc4)))
    (pg4 : PySem.W.specialIn K (.ref kc4) "__getattribute__" = some (some (.builtin "type.__getattribute__")))
    (pr4 : PySem.W.readsIn K kc4 (.type "type") = true)
    (pf4 : PySem.W.findCls K (.ref kc4) (.type "type") "__init__" = some (.val (.builtin "ValueError.__init__")))
    (hn : PySem.W.specialIn K (.builtin "object.__class__") "__get__" = some (some (.builtin "getset_descriptor.__get__")))
    (hx : PySem.W.takesIn K (.builtin "object.__class__") = some true)
    (hb4 : PySem.W.subIn K (.ref kc4) (.type "BaseException") = some true)
    (hh4 : PySem.W.hasDictIn K kc4 = true)
    (ht4 : PySem.W.typeIn K (.ref kc4) = some (.type "type"))
    (kx0 : K.lookup kc0 = some (excClassObj xn0 xq0 kc0 xN0 xb0 [.ref kc4, .type "ValueError", .type "Exception", .type "BaseException", .type "object"] true xs0 xu0 xa0 xo0 xd0 xm0 xi0 xj0 xk0 xl0 "ValueError.__new__"))
    (sa0 : PySem.W.findIn K (.ref kc0) "__setattr__" = some (some (.builtin "object.__setattr__")))
    (sb0 : PySem.W.subIn K (.ref kc0) (.type "BaseException") = some true)
    (st0 : PySem.W.typeIn K (.ref kc0) = some (.type "type"))
    (sk0 : PySem.W.keepIn K (.ref kc0) = true)
    (sf0_0 : PySem.W.findIn K (.ref kc0) "part" = some none)
    (si0 : PySem.W.findIn K (.ref kc0) "__init__" = some (some (.ref ki0)))
    (sj0 : PySem.W.typeIn K (.ref ki0) = some (.type "function"))
    (sl0_ : K.lookup ki0 = some ⟨ioc0, iod0, .func (PySem.W.fnOf "__init__" "BadNumber.__init__" (defArgs s_BadNumber__init) (defBody s_BadNumber__init) (defScope s_BadNumber__init) .none ikV0 idc0 ipm0 ian0 icd0 ict0), isl0⟩)
    (sc0_ : PySem.W.codeIn K icd0 "BadNumber.__init__" = true)
    (sq0 : PySem.W.keepIn K (.ref ki0) = true)
    (ga0 : PySem.W.findIn K (.ref kc0) "__getattribute__" = some (some (.builtin "BaseException.__getattribute__")))
    (gg0 : PySem.W.findIn K (.ref kc0) "__getattr__" = some none)
    (gd0 : PySem.W.hasDictIn K kc0 = true)
    (gc0 : PySem.W.findIn K (.ref kc0) "__class__" = some (some (.builtin "object.__class__")))
    (go0 : PySem.W.mroIn K kc0 (.type "object") = some true)
    (ue0_4 : PySem.W.subIn K (.ref kc0) (.ref kc4) = some true)
    (kx1 : K.lookup kc1 = some (excClassObj xn1 xq1 kc1 xN1 xb1 [.ref kc4, .type "ValueError", .type "Exception", .type "BaseException", .type "object"] true xs1 xu1 xa1 xo1 xd1 xm1 xi1 xj1 xk1 xl1 "ValueError.__new__"))
    (sa1 : PySem.W.findIn K (.ref kc1) "__setattr__" = some (some (.builtin "object.__setattr__")))
    (sb1 : PySem.W.subIn K (.ref kc1) (.type "BaseException") = some true)
    (st1 : PySem.W.typeIn K (.ref kc1) = some (.type "type"))
    (sk1 : PySem.W.keepIn K (.ref kc1) = true)
    (sf1_0 : PySem.W.findIn K (.ref kc1) "part" = some none)
    (si1 : PySem.W.findIn K (.ref kc1) "__init__" = some (some (.ref ki1)))
    (sj1 : PySem.W.typeIn K (.ref ki1) = some (.type "function"))
    (sl1_ : K.lookup ki1 = some ⟨ioc1, iod1, .func (PySem.W.fnOf "__init__" "BadMarket.__init__" (defArgs s_BadMarket__init) (defBody s_BadMarket__init) (defScope s_BadMarket__init) .none ikV1 idc1 ipm1 ian1 icd1 ict1), isl1⟩)
    (sc1_ : PySem.W.codeIn K icd1 "BadMarket.__init__" = true)
    (sq1 : PySem.W.keepIn K (.ref ki1) = true)
    (ga1 : PySem.W.findIn K (.ref kc1) "__getattribute__" = some (some (.builtin "BaseException.__getattribute__")))
    (gg1 : PySem.W.findIn K (.ref kc1) "__getattr__" = some none)
    (gd1 : PySem.W.hasDictIn K kc1 = true)
    (gc1 : PySem.W.findIn K (.ref kc1) "__class__" = some (some (.builtin "object.__class__")))
    (go1 : PySem.W.mroIn K kc1 (.type "object") = some true)
    (ue1_4 : PySem.W.subIn K (.ref kc1) (.ref kc4) = some true)
    (kx2 : K.lookup kc2 = some (excClassObj xn2 xq2 kc2 xN2 xb2 [.ref kc4, .type "ValueError", .type "Exception", .type "BaseException", .type "object"] true xs2 xu2 xa2 xo2 xd2 xm2 xi2 xj2 xk2 xl2 "ValueError.__new__"))
    (sa2 : PySem.W.findIn K (.ref kc2) "__setattr__" = some (some (.builtin "object.__setattr__")))
    (sb2 : PySem.W.subIn K (.ref kc2) (.type "BaseException") = some true)
    (st2 : PySem.W.typeIn K (.ref kc2) = some (.type "type"))
    (sk2 : PySem.W.keepIn K (.ref kc2) = true)
    (sf2_0 : PySem.W.findIn K (.ref kc2) "what" = some none)
    (sf2_1 : PySem.W.findIn K (.ref kc2) "most" = some none)
    (si2 : PySem.W.findIn K (.ref kc2) "__init__" = some (some (.ref ki2)))
    (sj2 : PySem.W.typeIn K (.ref ki2) = some (.type "function"))
    (sl2_ : K.lookup ki2 = some ⟨ioc2, iod2, .func (PySem.W.fnOf "__init__" "TooMany.__init__" (defArgs s_TooMany__init) (defBody s_TooMany__init) (defScope s_TooMany__init) .none ikV2 idc2 ipm2 ian2 icd2 ict2), isl2⟩)
    (sc2_ : PySem.W.codeIn K icd2 "TooMany.__init__" = true)
    (sq2 : PySem.W.keepIn K (.ref ki2) = true)
    (ga2 : PySem.W.findIn K (.ref kc2) "__getattribute__" = some (some (.builtin "BaseException.__getattribute__")))
    (gg2 : PySem.W.findIn K (.ref kc2) "__getattr__" = some none)
    (gd2 : PySem.W.hasDictIn K kc2 = true)
    (gc2 : PySem.W.findIn K (.ref kc2) "__class__" = some (some (.builtin "object.__class__")))
    (go2 : PySem.W.mroIn K kc2 (.type "object") = some true)
    (ue2_4 : PySem.W.subIn K (.ref kc2) (.ref kc4) = some true)
    (kx3 : K.lookup kc3 = some (excClassObj xn3 xq3 kc3 xN3 xb3 [.ref kc4, .type "ValueError", .type "Exception", .type "BaseException", .type "object"] true xs3 xu3 xa3 xo3 xd3 xm3 xi3 xj3 xk3 xl3 "ValueError.__new__"))
    (sa3 : PySem.W.findIn K (.ref kc3) "__setattr__" = some (some (.builtin "object.__setattr__")))
    (sb3 : PySem.W.subIn K (.ref kc3) (.type "BaseException") = some true)
    (st3 : PySem.W.typeIn K (.ref kc3) = some (.type "type"))
    (sk3 : PySem.W.keepIn K (.ref kc3) = true)
    (sf3_0 : PySem.W.findIn K (.ref kc3) "part" = some none)
    (si3 : PySem.W.findIn K (.ref kc3) "__init__" = some (some (.ref ki3)))
    (sj3 : PySem.W.typeIn K (.ref ki3) = some (.type "function"))
    (sl3_ : K.lookup ki3 = some ⟨ioc3, iod3, .func (PySem.W.fnOf "__init__" "BadMix.__init__" (defArgs s_BadMix__init) (defBody s_BadMix__init) (defScope s_BadMix__init) .none ikV3 idc3 ipm3 ian3 icd3 ict3), isl3⟩)
    (sc3_ : PySem.W.codeIn K icd3 "BadMix.__init__" = true)
    (sq3 : PySem.W.keepIn K (.ref ki3) = true)
    (ga3 : PySem.W.findIn K (.ref kc3) "__getattribute__" = some (some (.builtin "BaseException.__getattribute__")))
    (gg3 : PySem.W.findIn K (.ref kc3) "__getattr__" = some none)
    (gd3 : PySem.W.hasDictIn K kc3 = true)
    (gc3 : PySem.W.findIn K (.ref kc3) "__class__" = some (some (.builtin "object.__class__")))
    (go3 : PySem.W.mroIn K kc3 (.type "object") = some true)
    (ue3_4 : PySem.W.subIn K (.ref kc3) (.ref kc4) = some true)
    (un2 : PySem.W.subIn K (.type "NoneType") (.ref kc2) = some false)
    (us0_2 : PySem.W.subIn K (.ref kc0) (.ref kc2) = some false)
    (us1_2 : PySem.W.subIn K (.ref kc1) (.ref kc2) = some false)
    (us2_2 : PySem.W.subIn K (.ref kc2) (.ref kc2) = some true)
    (us3_2 : PySem.W.subIn K (.ref kc3) (.ref kc2) = some false)
    (ud0_2 : kc0 ≠ kc2)
    (ud1_2 : kc1 ≠ kc2)
    (ud3_2 : kc3 ≠ kc2)
    (un0 : PySem.W.subIn K (.type "NoneType") (.ref kc0) = some false)
    (us0_0 : PySem.W.subIn K (.ref kc0) (.ref kc0) = some true)
    (us1_0 : PySem.W.subIn K (.ref kc1) (.ref kc0) = some false)
    (us2_0 : PySem.W.subIn K (.ref kc2) (.ref kc0) = some false)
    (us3_0 : PySem.W.subIn K (.ref kc3) (.ref kc0) = some false)
    (ud1_0 : kc1 ≠ kc0)
    (ud2_0 : kc2 ≠ kc0)
    (ud3_0 : kc3 ≠ kc0)
    (un1 : PySem.W.subIn K (.type "NoneType") (.ref kc1) = some false)
    (us0_1 : PySem.W.subIn K (.ref kc0) (.ref kc1) = some false)
    (us1_1 : PySem.W.subIn K (.ref kc1) (.ref kc1) = some true)
    (us2_1 : PySem.W.subIn K (.ref kc2) (.ref kc1) = some false)
    (us3_1 : PySem.W.subIn K (.ref kc3) (.ref kc1) = some false)
    (ud0_1 : kc0 ≠ kc1)
    (ud2_1 : kc2 ≠ kc1)
    (ud3_1 : kc3 ≠ kc1)
    (un3 : PySem.W.subIn K (.type "NoneType") (.ref kc3) = some false)
    (us0_3 : PySem.W.subIn K (.ref kc0) (.ref kc3) = some false)
    (us1_3 : PySem.W.subIn K (.ref kc1) (.ref kc3) = some false)
    (us2_3 : PySem.W.subIn K (.ref kc2) (.ref kc3) = some false)
    (us3_3 : PySem.W.subIn K (.ref kc3) (.ref kc3) = some true)
    (ud0_3 : kc0 ≠ kc3)
    (ud1_3 : kc1 ≠ kc3)
    (ud2_3 : kc2 ≠ kc3) :
    ∃ (I : TabT) (cs : List (Addr × Addr)) (fd : FuncData), CsOk K h cs ∧ (∀ p ∈ I.T, ∃ c, (c, p.1) ∈ cs) ∧ (∀ (s : Shared) (v : Value), BindsTo s fd ⟨[v], []⟩ [("_law_script", v)]) ∧ ∀ base : Heap, K.In base → base.Ns mainGlobals mg → base.NoDigits → (∀ p ∈ cs, LamX.TabB base mg p.1 p.2) → FnG P w K mg base 12 fa fd ["_law_script"] (@spF I ⟨K, mg⟩ 1 false F_law) := by
  have e := hfa.symm.trans (PySem.W.mg_of X G p46)
  cases e
  letI I : TabT := ⟨[(PP45, qL "_law_first_right" (defScope s__law_first_right)), (PP46, qL "law" (defScope s_law))]⟩
  let M : Md K mg := {
    a__law_pen := f0
    d__law_pen := _
    t__law_pen := fun_mk (st := s__law_pen) l0 c0 q0
    g__law_pen := PySem.W.mg_of X G p0
    a__law_draw := f1
    d__law_draw := _
    t__law_draw := fun_mk (st := s__law_draw) l1 c1 q1
    g__law_draw := PySem.W.mg_of X G p1
    a__law_one_of := f2
    d__law_one_of := _
    t__law_one_of := fun_mk (st := s__law_one_of) l2 c2 q2
    g__law_one_of := PySem.W.mg_of X G p2
    a__law_heard := f3
    d__law_heard := _
    t__law_heard := fun_mk (st := s__law_heard) l3 c3 q3
    g__law_heard := PySem.W.mg_of X G p3
    a_is_integer := f4
    d_is_integer := _
    t_is_integer := fun_mk (st := s_is_integer) l4 c4 q4
    g_is_integer := PySem.W.mg_of X G p4
    a_is_within := f5
    d_is_within := _
    t_is_within := fun_mk (st := s_is_within) l5 c5 q5
    g_is_within := PySem.W.mg_of X G p5
    a_need_integer := f6
    d_need_integer := _
    t_need_integer := fun_mk (st := s_need_integer) l6 c6 q6
    g_need_integer := PySem.W.mg_of X G p6
    a_need_goods := f7
    d_need_goods := _
    t_need_goods := fun_mk (st := s_need_goods) l7 c7 q7
    g_need_goods := PySem.W.mg_of X G p7
    a_is_list := f8
    d_is_list := _
    t_is_list := fun_mk (st := s_is_list) l8 c8 q8
    g_is_list := PySem.W.mg_of X G p8
    a_common := f9
    d_common := _
    t_common := fun_mk (st := s_common) l9 c9 q9
    g_common := PySem.W.mg_of X G p9
    a_is_number := f10
    d_is_number := _
    t_is_number := fun_mk (st := s_is_number) l10 c10 q10
    g_is_number := PySem.W.mg_of X G p10
    a_above_in := f11
    d_above_in := _
    t_above_in := fun_mk (st := s_above_in) l11 c11 q11
    g_above_in := PySem.W.mg_of X G p11
    a_is_from_0 := f12
    d_is_from_0 := _
    t_is_from_0 := fun_mk (st := s_is_from_0) l12 c12 q12
    g_is_from_0 := PySem.W.mg_of X G p12
    a_is_row := f13
    d_is_row := _
    t_is_row := fun_mk (st := s_is_row) l13 c13 q13
    g_is_row := PySem.W.mg_of X G p13
    a_is_market_of := f14
    d_is_market_of := _
    t_is_market_of := fun_mk (st := s_is_market_of) l14 c14 q14
    g_is_market_of := PySem.W.mg_of X G p14
    a_kept := f15
    d_kept := _
    t_kept := fun_mk (st := s_kept) l15 c15 q15
    g_kept := PySem.W.mg_of X G p15
    a_kept_row := f16
    d_kept_row := _
    t_kept_row := fun_mk (st := s_kept_row) l16 c16 q16
    g_kept_row := PySem.W.mg_of X G p16
    a_need_market := f17
    d_need_market := _
    t_need_market := funT_mk (st := s_need_market) l17 r17 (by repeat first | exact .nil | refine .cons ⟨_, rfl⟩ ?_ | refine .cons rfl ?_) c17 q17
    g_need_market := PySem.W.mg_of X G p17
    a_choose_in := f18
    d_choose_in := _
    t_choose_in := fun_mk (st := s_choose_in) l18 c18 q18
    g_choose_in := PySem.W.mg_of X G p18
    a_factor_in := f19
    d_factor_in := _
    t_factor_in := fun_mk (st := s_factor_in) l19 c19 q19
    g_factor_in := PySem.W.mg_of X G p19
    a_need_few := f20
    d_need_few := _
    t_need_few := fun_mk (st := s_need_few) l20 c20 q20
    g_need_few := PySem.W.mg_of X G p20
    a_lowest := f21
    d_lowest := _
    t_lowest := fun_mk (st := s_lowest) l21 c21 q21
    g_lowest := PySem.W.mg_of X G p21
    a_halves := f22
    d_halves := _
    t_halves := fun_mk (st := s_halves) l22 c22 q22
    g_halves := PySem.W.mg_of X G p22
    a_added := f23
    d_added := _
    t_added := fun_mk (st := s_added) l23 c23 q23
    g_added := PySem.W.mg_of X G p23
    a_total := f24
    d_total := _
    t_total := fun_mk (st := s_total) l24 c24 q24
    g_total := PySem.W.mg_of X G p24
    a_product := f25
    d_product := _
    t_product := fun_mk (st := s_product) l25 c25 q25
    g_product := PySem.W.mg_of X G p25
    a_factorial := f26
    d_factorial := _
    t_factorial := fun_mk (st := s_factorial) l26 c26 q26
    g_factorial := PySem.W.mg_of X G p26
    a_weight_in := f27
    d_weight_in := _
    t_weight_in := fun_mk (st := s_weight_in) l27 c27 q27
    g_weight_in := PySem.W.mg_of X G p27
    a_with_one := f28
    d_with_one := _
    t_with_one := fun_mk (st := s_with_one) l28 c28 q28
    g_with_one := PySem.W.mg_of X G p28
    a_grouped := f29
    d_grouped := _
    t_grouped := fun_mk (st := s_grouped) l29 c29 q29
    g_grouped := PySem.W.mg_of X G p29
    a_purse_in := f30
    d_purse_in := _
    t_purse_in := fun_mk (st := s_purse_in) l30 c30 q30
    g_purse_in := PySem.W.mg_of X G p30
    a_even_purse := f31
    d_even_purse := _
    t_even_purse := fun_mk (st := s_even_purse) l31 c31 q31
    g_even_purse := PySem.W.mg_of X G p31
    a_even_amounts := f32
    d_even_amounts := _
    t_even_amounts := fun_mk (st := s_even_amounts) l32 c32 q32
    g_even_amounts := PySem.W.mg_of X G p32
    a_is_sum_1 := f33
    d_is_sum_1 := _
    t_is_sum_1 := fun_mk (st := s_is_sum_1) l33 c33 q33
    g_is_sum_1 := PySem.W.mg_of X G p33
    a_is_mix_of := f34
    d_is_mix_of := _
    t_is_mix_of := fun_mk (st := s_is_mix_of) l34 c34 q34
    g_is_mix_of := PySem.W.mg_of X G p34
    a_need_mix := f35
    d_need_mix := _
    t_need_mix := funT_mk (st := s_need_mix) l35 r35 (by repeat first | exact .nil | refine .cons ⟨_, rfl⟩ ?_ | refine .cons rfl ?_) c35 q35
    g_need_mix := PySem.W.mg_of X G p35
    a_multiplied := f36
    d_multiplied := _
    t_multiplied := fun_mk (st := s_multiplied) l36 c36 q36
    g_multiplied := PySem.W.mg_of X G p36
    a_turned := f37
    d_turned := _
    t_turned := fun_mk (st := s_turned) l37 c37 q37
    g_turned := PySem.W.mg_of X G p37
    a_less_by := f38
    d_less_by := _
    t_less_by := fun_mk (st := s_less_by) l38 c38 q38
    g_less_by := PySem.W.mg_of X G p38
    a_summed := f39
    d_summed := _
    t_summed := fun_mk (st := s_summed) l39 c39 q39
    g_summed := PySem.W.mg_of X G p39
    a_even_spare := f40
    d_even_spare := _
    t_even_spare := fun_mk (st := s_even_spare) l40 c40 q40
    g_even_spare := PySem.W.mg_of X G p40
    a_need_days := f41
    d_need_days := _
    t_need_days := fun_mk (st := s_need_days) l41 c41 q41
    g_need_days := PySem.W.mg_of X G p41
    a_even_factor := f42
    d_even_factor := _
    t_even_factor := fun_mk (st := s_even_factor) l42 c42 q42
    g_even_factor := PySem.W.mg_of X G p42
    a_need_counts := f43
    d_need_counts := _
    t_need_counts := fun_mk (st := s_need_counts) l43 c43 q43
    g_need_counts := PySem.W.mg_of X G p43
    a_even_weight := f44
    d_even_weight := _
    t_even_weight := fun_mk (st := s_even_weight) l44 c44 q44
    g_even_weight := PySem.W.mg_of X G p44
    a__law_first_right := f45
    d__law_first_right := _
    t__law_first_right := fun_mk (st := s__law_first_right) l45 c45 q45
    g__law_first_right := PySem.W.mg_of X G p45
    a_law := fa
    d_law := _
    t_law := fun_mk (st := s_law) l46 c46 q46
    g_law := PySem.W.mg_of X G p46
    n_abs := PySem.W.mg_none_of X G b0
    n_all := PySem.W.mg_none_of X G b1
    n_bool := PySem.W.mg_none_of X G b2
    n_int := PySem.W.mg_none_of X G b3
    n_isinstance := PySem.W.mg_none_of X G b4
    n_len := PySem.W.mg_none_of X G b5
    n_list := PySem.W.mg_none_of X G b6
    n_max := PySem.W.mg_none_of X G b7
    n_range := PySem.W.mg_none_of X G b8
    n_repr := PySem.W.mg_none_of X G b9
    n_sum := PySem.W.mg_none_of X G b10
    n_tuple := PySem.W.mg_none_of X G b11
    n_zip := PySem.W.mg_none_of X G b12
    k_MOST_COUNT := tk0
    c_MOST_COUNT := PySem.W.mg_of X G v0
    k_MOST_COUNTS := tk1
    c_MOST_COUNTS := PySem.W.mg_of X G v1
    k_MOST_DAYS := tk2
    c_MOST_DAYS := PySem.W.mg_of X G v2
    k_MOST_GOODS := tk3
    c_MOST_GOODS := PySem.W.mg_of X G v3
    C_BadNumber := kc0
    g_BadNumber := PySem.W.mg_of X G ka0
    C_BadMarket := kc1
    g_BadMarket := PySem.W.mg_of X G ka1
    C_TooMany := kc2
    g_TooMany := PySem.W.mg_of X G ka2
    C_BadMix := kc3
    g_BadMix := PySem.W.mg_of X G ka3
    C_PriceError := kc4
    g_PriceError := PySem.W.mg_of X G ka4
    p_PriceError := ⟨pg4, pr4, pf4⟩
    x_BadNumber := ⟨PySem.W.mg_of X G ka0, ⟨ga0, gg0, sb0, gd0, gc0, hn, hx, go0⟩, ⟨ga0, gg0, sb0, gd0⟩⟩
    i_BadNumber := ⟨⟨⟨_, _, _, _, _, _, _, _, _, _, _, _, _, _, _, kx0, by rfl⟩, sa0, sb0, st0, sk0⟩, (by intro k hk; simp only [List.mem_cons, List.not_mem_nil, or_false] at hk; rcases hk with rfl; (· exact sf0_0)), ki0, _, si0, sj0, fun_mk (st := s_BadNumber__init) sl0_ sc0_ sq0⟩
    e_BadNumber_PriceError := PySem.W.exm_ref hb4 hh4 ht4 ue0_4
    x_BadMarket := ⟨PySem.W.mg_of X G ka1, ⟨ga1, gg1, sb1, gd1, gc1, hn, hx, go1⟩, ⟨ga1, gg1, sb1, gd1⟩⟩
    i_BadMarket := ⟨⟨⟨_, _, _, _, _, _, _, _, _, _, _, _, _, _, _, kx1, by rfl⟩, sa1, sb1, st1, sk1⟩, (by intro k hk; simp only [List.mem_cons, List.not_mem_nil, or_false] at hk; rcases hk with rfl; (· exact sf1_0)), ki1, _, si1, sj1, fun_mk (st := s_BadMarket__init) sl1_ sc1_ sq1⟩
    e_BadMarket_PriceError := PySem.W.exm_ref hb4 hh4 ht4 ue1_4
    x_TooMany := ⟨PySem.W.mg_of X G ka2, ⟨ga2, gg2, sb2, gd2, gc2, hn, hx, go2⟩, ⟨ga2, gg2, sb2, gd2⟩⟩
    i_TooMany := ⟨⟨⟨_, _, _, _, _, _, _, _, _, _, _, _, _, _, _, kx2, by rfl⟩, sa2, sb2, st2, sk2⟩, (by intro k hk; simp only [List.mem_cons, List.not_mem_nil, or_false] at hk; rcases hk with rfl | rfl; (· exact sf2_0); (· exact sf2_1)), ki2, _, si2, sj2, fun_mk (st := s_TooMany__init) sl2_ sc2_ sq2⟩
    e_TooMany_PriceError := PySem.W.exm_ref hb4 hh4 ht4 ue2_4
    x_BadMix := ⟨PySem.W.mg_of X G ka3, ⟨ga3, gg3, sb3, gd3, gc3, hn, hx, go3⟩, ⟨ga3, gg3, sb3, gd3⟩⟩
    i_BadMix := ⟨⟨⟨_, _, _, _, _, _, _, _, _, _, _, _, _, _, _, kx3, by rfl⟩, sa3, sb3, st3, sk3⟩, (by intro k hk; simp only [List.mem_cons, List.not_mem_nil, or_false] at hk; rcases hk with rfl; (· exact sf3_0)), ki3, _, si3, sj3, fun_mk (st := s_BadMix__init) sl3_ sc3_ sq3⟩
    e_BadMix_PriceError := PySem.W.exm_ref hb4 hh4 ht4 ue3_4
    nn_TooMany := kit_ref gd2 st2 un2 (fun _ z => nomatch z)
    s_BadNumber_TooMany := kit_ref gd2 st2 us0_2 (fun _ z => ud0_2 (Value.ref.inj z))
    s_BadMarket_TooMany := kit_ref gd2 st2 us1_2 (fun _ z => ud1_2 (Value.ref.inj z))
    s_TooMany_TooMany := kit_ref gd2 st2 us2_2 (fun z => nomatch z)
    s_BadMix_TooMany := kit_ref gd2 st2 us3_2 (fun _ z => ud3_2 (Value.ref.inj z))
    nn_BadNumber := kit_ref gd0 st0 un0 (fun _ z => nomatch z)
    s_BadNumber_BadNumber := kit_ref gd0 st0 us0_0 (fun z => nomatch z)
    s_BadMarket_BadNumber := kit_ref gd0 st0 us1_0 (fun _ z => ud1_0 (Value.ref.inj z))
    s_TooMany_BadNumber := kit_ref gd0 st0 us2_0 (fun _ z => ud2_0 (Value.ref.inj z))
    s_BadMix_BadNumber := kit_ref gd0 st0 us3_0 (fun _ z => ud3_0 (Value.ref.inj z))
    nn_BadMarket := kit_ref gd1 st1 un1 (fun _ z => nomatch z)
    s_BadNumber_BadMarket := kit_ref gd1 st1 us0_1 (fun _ z => ud0_1 (Value.ref.inj z))
    s_BadMarket_BadMarket := kit_ref gd1 st1 us1_1 (fun z => nomatch z)
    s_TooMany_BadMarket := kit_ref gd1 st1 us2_1 (fun _ z => ud2_1 (Value.ref.inj z))
    s_BadMix_BadMarket := kit_ref gd1 st1 us3_1 (fun _ z => ud3_1 (Value.ref.inj z))
    nn_BadMix := kit_ref gd3 st3 un3 (fun _ z => nomatch z)
    s_BadNumber_BadMix := kit_ref gd3 st3 us0_3 (fun _ z => ud0_3 (Value.ref.inj z))
    s_BadMarket_BadMix := kit_ref gd3 st3 us1_3 (fun _ z => ud1_3 (Value.ref.inj z))
    s_TooMany_BadMix := kit_ref gd3 st3 us2_3 (fun _ z => ud2_3 (Value.ref.inj z))
    s_BadMix_BadMix := kit_ref gd3 st3 us3_3 (fun z => nomatch z) }
  have z45 := lam_tab tq nt X p45 l45 rfl w45 o45 y45
  have z46 := lam_tab tq nt X p46 l46 rfl w46 o46 y46
  refine ⟨I, [(cc45, PP45), (cc46, PP46)], M.d_law, ⟨?_, ?_, ?_⟩, ?_, fun s v => .of_eq rfl, fun base _ _ hD tb => ok_law M hD ⟨?l45, ?l46⟩⟩
  · intro p hp; simp only [List.mem_cons, List.not_mem_nil, or_false] at hp; rcases hp with rfl | rfl; (· exact z45.2.1); (· exact z46.2.1)
  · intro p hp; simp only [List.mem_cons, List.not_mem_nil, or_false] at hp; rcases hp with rfl | rfl; (· exact z45.2.2); (· exact z46.2.2)
  · intro p hp; simp only [List.mem_cons, List.not_mem_nil, or_false] at hp; rcases hp with rfl | rfl; (· exact z45.1); (· exact z46.1)
  · intro p hp; have hp : p ∈ [(PP45, qL "_law_first_right" (defScope s__law_first_right)), (PP46, qL "law" (defScope s_law))] := hp; simp only [List.mem_cons, List.not_mem_nil, or_false] at hp; rcases hp with rfl | rfl; (· exact ⟨cc45, by simp⟩); (· exact ⟨cc46, by simp⟩)
  case l45 => exact ⟨cc45, PP45, tb (cc45, PP45) (by simp), rfl, (show _ ∈ [(PP45, qL "_law_first_right" (defScope s__law_first_right)), (PP46, qL "law" (defScope s_law))] from by simp), (fun p hp e => by have hp : p ∈ [(PP45, qL "_law_first_right" (defScope s__law_first_right)), (PP46, qL "law" (defScope s_law))] := hp; simp only [List.mem_cons, List.not_mem_nil, or_false] at hp; rcases hp with rfl | rfl; (· exact rfl); (· exact absurd e dd45_46.symm))⟩
  case l46 => exact ⟨cc46, PP46, tb (cc46, PP46) (by simp), rfl, (show _ ∈ [(PP45, qL "_law_first_right" (defScope s__law_first_right)), (PP46, qL "law" (defScope s_law))] from by simp), (fun p hp e => by have hp : p ∈ [(PP45, qL "_law_first_right" (defScope s__law_first_right)), (PP46, qL "law" (defScope s_law))] := hp; simp only [List.mem_cons, List.not_mem_nil, or_false] at hp; rcases hp with rfl | rfl; (· exact absurd e dd45_46); (· exact rfl))⟩
end
end G


/-! Tab0: for texts that speak of data alone: no tables. -/
namespace G
open PySem PySem.Spec PyProof.Rows L2
instance tab0 : TabT := ⟨[]⟩
theorem cut_takeR {α : Type} (xs : List α) (k : Nat) : cutG xs none (some (k : Int)) = xs.take k := by
  unfold cutG
  rw [HT.sIx_none, HT.sIx_nat, List.drop_zero, Nat.sub_zero]
  by_cases h : k ≤ xs.length
  · rw [Nat.min_eq_left h]
  · rw [Nat.min_eq_right (by omega), List.take_length, List.take_of_length_le (by omega)]
theorem cut_dropR {α : Type} (xs : List α) (k : Nat) : cutG xs (some (k : Int)) none = xs.drop k := by
  unfold cutG
  rw [HT.sIx_none, HT.sIx_nat]
  by_cases h : k ≤ xs.length
  · rw [Nat.min_eq_left h]
    exact List.take_of_length_le (by simp)
  · rw [Nat.min_eq_right (by omega), List.drop_of_length_le (Nat.le_refl _), List.drop_of_length_le (by omega), List.take_nil]
end G


set_option maxRecDepth 100000
set_option maxHeartbeats 4000000
set_option exponentiation.threshold 30000
namespace G
open PySem PySem.Spec PyProof.Rows L2
/-! Q1: the pen of a law; lists of what is heard. -/
/-- a pen that has drawn at most k cells -/
def Pen (k : Nat) (d : Dt) : Prop := ∃ ns pl rest, d = PenD ns pl rest ∧ pl ≤ k
theorem drawF_eq : F__law_draw = runF true 6 (drawB 2147483629 52127 7103 2147483543 6089 2147483587) := rfl
theorem drawP {k many : Nat} {d : Dt} (hd : Pen k d) (hk : k < 1000) (hm : 0 < many) (hm2 : many < 2 ^ 64) : ∃ r d', r < many ∧ Pen (k + 1) d' ∧ F__law_draw [d, ni many] = .ok (.imm (ni r), some d') := by
  obtain ⟨ns, pl, rest, rfl, hp⟩ := hd
  obtain ⟨r, pl', rest', h1, h2, h3⟩ := draw_ok (p1 := 2147483629) (c1 := 52127) (c2 := 7103) (p2 := 2147483543) (c3 := 6089) (p3 := 2147483587) (by decide) (by decide) (by decide) (by decide) (by decide) (by decide) (cs := ns) (pl := pl) (rest := rest) hm hm2 (by omega)
  exact ⟨r, _, h1, ⟨ns, pl', rest', rfl, by omega⟩, by rw [drawF_eq]; exact h3⟩
theorem oneP {k : Nat} {d : Dt} {ds : List Dt} (hd : Pen k d) (hk : k < 1000) (h0 : 0 < ds.length) (hl : ds.length < 2 ^ 64) : ∃ x ∈ ds, ∃ d', Pen (k + 1) d' ∧ F__law_one_of [d, .lst ds] = .ok (.imm x, some d') := by
  obtain ⟨r, d', h1, h2, h3⟩ := drawP hd hk h0 hl
  refine ⟨ds[r], List.getElem_mem h1, d', h2, ?_⟩
  have x := ix_l (List.getElem?_eq_getElem h1)
  unfold F__law_one_of b__law_one_of
  simp [dTest, dBin, dVar, dC, dMove, dUn, dIf, dTru, dAnd, dOr, dNot, tAndD, tOrD, tNotD, dTup, dLst, aCons, aNil, aStar, dCallB, dCall, dIxS, asB, asTru, truD, Val.d, sSeq, seqK, sIf, sRet, sRetN, sExpr, sSet, setVal, sAsg, gDone, sPar, sNext, itRng1, itRng2, itSeq, gSet, gTupD, gsCons, gsNil, canSet, slotD, seqD, Src.d, Src.ok, asRes, runF, env0, outOf, sizeLine, Res.map, ni_add, ni_gt, ni_lt, ni_le, ni_ge, ni_abs, ni_int, ni_eq, ni_ne, ni_isi, ni_isb, bLen_l, bLen_t, ixt0, ixt1, ixl0, ixl1, ixl2, lit0, lit1, lit2, dCallIo, isOwn, asIo, h3, asResIo, x]
theorem drawC {i k many : Nat} {d : Dt} {mk : Dt → Slot} {env e : Env'} {f : DE} {v : Val} (hmk : mk = Slot.own ∨ mk = Slot.io) (hi : (env[i]?.map isOwn) = some true) (hf : f env = .ok (v, e)) (hv : v.d = ni many) (he : e[i]? = some (mk d)) (hd : Pen k d) (hk : k < 1000) (hm : 0 < many) (hm2 : many < 2 ^ 64) :
    ∃ r d', r < many ∧ Pen (k + 1) d' ∧ dCallIo i 2 F__law_draw (aCons f aNil) env = .ok (.imm (ni r), e.set i (mk d')) := by
  obtain ⟨r, d', h1, h2, h3⟩ := drawP hd hk hm hm2
  refine ⟨r, d', h1, h2, ?_⟩
  unfold dCallIo
  rw [if_pos hi]
  rcases hmk with rfl | rfl <;> simp [aCons, aNil, hf, hv, asIo, he, h3, asResIo]
theorem oneC {i k : Nat} {d : Dt} {ds : List Dt} {mk : Dt → Slot} {env e : Env'} {f : DE} {v : Val} (hmk : mk = Slot.own ∨ mk = Slot.io) (hi : (env[i]?.map isOwn) = some true) (hf : f env = .ok (v, e)) (hv : v.d = .lst ds) (he : e[i]? = some (mk d)) (hd : Pen k d) (hk : k < 1000) (h0 : 0 < ds.length) (hl : ds.length < 2 ^ 64) :
    ∃ x ∈ ds, ∃ d', Pen (k + 1) d' ∧ dCallIo i 2 F__law_one_of (aCons f aNil) env = .ok (.imm x, e.set i (mk d')) := by
  obtain ⟨x, hx, d', h2, h3⟩ := oneP hd hk h0 hl
  refine ⟨x, hx, d', h2, ?_⟩
  unfold dCallIo
  rw [if_pos hi]
  rcases hmk with rfl | rfl <;> simp [aCons, aNil, hf, hv, asIo, he, h3, asResIo]
theorem pen_ok (ns : List Int) : ∃ d, Pen 0 d ∧ F__law_pen [.scr ns] = .ok (.fresh d, none) := by
  refine ⟨PenD (ns.take 60) 0 0, ⟨_, _, _, rfl, Nat.le_refl _⟩, ?_⟩
  have hz : sizeLine = 16777216 := by decide
  have c : cutG (ns.map Dt.int) none (some (60 : Int)) = (ns.take 60).map .int := by
    have := cut_takeR (ns.map Dt.int) 60
    rw [List.map_take]
    exact this
  have it : itSeq (dSl (dVar 0) oNone (oSome (dC (.int 60)))) [.imm (.scr ns), .un] = .ok ((ns.take 60).map .int, [.imm (.scr ns), .un]) := by
    have o : slD (.scr ns) none (some (60 : Int)) = .ok (.fresh (.lst ((ns.take 60).map .int))) := by
      show Res.ok (Val.fresh (Dt.lst (cutG (ns.map Dt.int) none (some (60 : Int))))) = _
      rw [c]
    simp only [itSeq, dSl, dVar, oNone, oSome, dC, asI, List.getElem?_cons_zero, Res.bind_ok, Val.d, o, Res.map_ok, seqD]
  have l : lcLoop [1] (gSet 1) dYes (dCallB bInt (aCons (dVar 1) aNil)) ((ns.take 60).map .int) [.imm (.scr ns), .un] = .ok ((ns.take 60).map .int, [.imm (.scr ns), .un]) := lc_pure Dt.int Dt.int (ns.take 60) fun i _ => rfl
  have hl : ((ns.take 60).map Dt.int).length ≤ 16777216 := by rw [List.length_map, List.length_take]; omega
  have dl := dlc_of (vs := [1]) (g := gSet 1) (t := dYes) it rfl (by rw [hz]; exact hl) l
  unfold F__law_pen b__law_pen PenD
  generalize (ns.take 60).map Dt.int = L at *
  simp only [runF, env0, List.length_cons, List.length_nil, Nat.zero_add, Nat.reduceSub, List.map_cons, List.map_nil, List.replicate, List.cons_append, List.nil_append, sRet, dLst, aCons, aNil] at dl ⊢
  rw [dl]
  rfl
theorem callIo1 {i : Nat} {F : List Dt → FR} {f : DE} {env e : Env'} {v val : Val} {mk : Dt → Slot} {d d' : Dt} (hmk : mk = Slot.own ∨ mk = Slot.io) (hi : (env[i]?.map isOwn) = some true) (hf : f env = .ok (v, e)) (he : e[i]? = some (mk d)) (hF : F [d, v.d] = .ok (val, some d')) :
    dCallIo i 2 F (aCons f aNil) env = .ok (val, e.set i (mk d')) := by
  unfold dCallIo
  rw [if_pos hi]
  rcases hmk with rfl | rfl <;> simp [aCons, aNil, hf, asIo, he, hF, asResIo]
/-! lists -/
theorem lst3 {f1 f2 f3 : DE} {env : Env'} {d1 d2 d3 : Dt} (h1 : f1 env = .ok (.imm d1, env)) (h2 : f2 env = .ok (.imm d2, env)) (h3 : f3 env = .ok (.imm d3, env)) : dLst (aCons f1 (aCons f2 (aCons f3 aNil))) env = .ok (.fresh (.lst [d1, d2, d3]), env) := by
  simp [dLst, aCons, aNil, h1, h2, h3, Val.d, (by decide : 3 ≤ sizeLine)]
theorem lst2 {f1 f2 : DE} {env : Env'} {d1 d2 : Dt} (h1 : f1 env = .ok (.imm d1, env)) (h2 : f2 env = .ok (.imm d2, env)) : dLst (aCons f1 (aCons f2 aNil)) env = .ok (.fresh (.lst [d1, d2]), env) := by
  simp [dLst, aCons, aNil, h1, h2, Val.d, (by decide : 2 ≤ sizeLine)]
theorem tup2 {f1 f2 : DE} {env e1 e2 : Env'} {d1 d2 : Dt} (h1 : f1 env = .ok (.imm d1, e1)) (h2 : f2 e1 = .ok (.imm d2, e2)) : dTup (aCons f1 (aCons f2 aNil)) env = .ok (.imm (.tup [d1, d2]), e2) := by
  simp [dTup, aCons, aNil, h1, h2, Val.d, (by decide : 2 ≤ sizeLine)]
theorem asg_ok {g : DG} {f : DE} {env e1 e2 : Env'} {v : Val} (h1 : f env = .ok (v, e1)) (h2 : g v.d e1 = .ok e2) : sAsg g f env = .ok (.nx, e2) := by
  unfold sAsg
  rw [h1, Res.bind_ok, h2]
  rfl
theorem setI {env e e2 : Env'} {i : Nat} {f : DE} {d : Dt} (h : f env = .ok (.imm d, e)) (h1 : canSet e i = true) (h2 : e.set i (.imm d) = e2) : sSet i f env = .ok (.nx, e2) := set_at h h1 h2
theorem setF {env e e2 : Env'} {i : Nat} {f : DE} {d : Dt} (h : f env = .ok (.fresh d, e)) (h1 : canSet e i = true) (h2 : e.set i (.own d) = e2) : sSet i f env = .ok (.nx, e2) := by
  unfold sSet
  rw [h, Res.bind_ok]
  unfold setVal
  dsimp only
  rw [if_pos h1, h2]
end G


set_option maxRecDepth 100000
set_option maxHeartbeats 4000000
set_option exponentiation.threshold 30000
namespace G
open PySem PySem.Spec PyProof.Rows L2
/-! Q2: k73, what is refused. -/
def L1 : List Dt := [.non, .int 0, .int 6, .int (-1), .bl true, .str "2", .lst [.int 2], .tup [.int 2, .int 3], .int 100000000000000000000]
def LB : List Dt := [.non, .int (-1), .int 1001, .bl true, .str "3", .lst [], .tup [.int 1, .int 2], .int 100000000000000000000]
def rp (g : Nat) (d : Dt) : Dt := .lst (List.replicate g d)
def LO (g : Nat) : List Dt := [.non, .int 5, .lst [rp (g + 1) (.int 1)], .lst [rp g (.int 1), rp (g - 1) (.int 1)], .lst [rp g (.int (-1))], rp g (.int 1), .str "1", .lst [rp g (.bl true)], .lst [.non], .dct [] [], .lst [rp g (.tup [.int 2, .int 2])]]
def LS (g : Nat) : List Dt := [.non, .int 5, rp (g + 1) (.int 1), rp g (.int 0), (if 1 < g then .lst (.int 2 :: .int (-1) :: List.replicate (g - 2) (.int 0)) else .lst [.int 2]), .str "1", .lst (.bl true :: List.replicate (g - 1) (.int 0)), .lst (.int 1 :: List.replicate g (.int 0)), .dct [] []]
def LC : List Dt := [.non, .int 5, .lst [], .tup [], rp 6 (.int 1), .lst [.int (-1)], .lst [.int 1, .bl true], .lst [.str "1"], .lst [.int 1001], .lst [.tup [.int 1, .int 2]], .dct [] [], .str "12", .lst [.int 0, .non], .lst [.int 2, .int 100000000000000000000]]
abbrev CS : List Str := ["BadNumber", "BadMarket", "TooMany", "BadMix"]
abbrev FE (d : Dt) (g : Nat) (s2 s3 s4 s5 s6 s7 s8 s9 : Slot) : Env' := [.io d, .imm (ni g), s2, s3, s4, s5, s6, s7, s8, s9]
abbrev hFac (i j : Nat) : DE := dHear CS 7 1 [i, j] (dCall F_even_factor ⟨2, [], [.pos 0, .pos 1]⟩ (aCons (dVar i) (aCons (dVar j) aNil)) aNil) b__law_heard
abbrev hPur (i j : Nat) : DE := dHear CS 7 1 [i, j] (dCall F_even_purse ⟨2, [], [.pos 0, .pos 1]⟩ (aCons (dVar i) (aCons (dVar j) aNil)) aNil) b__law_heard
abbrev hAmt (i j : Nat) : DE := dHear CS 7 1 [i, j] (dCall F_even_amounts ⟨2, [], [.pos 0, .pos 1]⟩ (aCons (dVar i) (aCons (dVar j) aNil)) aNil) b__law_heard
abbrev hSpa (cs : List Nat) (i j k : Nat) : DE := dHear CS 7 1 cs (dCall F_even_spare ⟨3, [], [.pos 0, .pos 1, .pos 2]⟩ (aCons (dVar i) (aCons (dVar j) (aCons (dVar k) aNil))) aNil) b__law_heard
abbrev hWei : DE := dHear CS 7 1 [9] (dCall F_even_weight ⟨1, [], [.pos 0]⟩ (aCons (dVar 9) aNil) aNil) b__law_heard
def hd2 (a b : Str) : Dt := .tup [.str a, .str b]
section
variable {x : Dt} (d y z : Dt) {g : Nat} (s2 s3 s4 s5 s6 s7 s8 s9 : Slot)
theorem fac_none (hx : x ∈ L1) : hFac 2 3 (FE d g (.imm x) (.imm y) s4 s5 s6 s7 s8 s9) = .ok (.imm (hd2 "number" "goods"), FE d g (.imm x) (.imm y) s4 s5 s6 s7 s8 s9) := by
  unfold L1 at hx
  simp only [List.mem_cons, List.not_mem_nil, or_false] at hx
  rcases hx with rfl | rfl | rfl | rfl | rfl | rfl | rfl | rfl | rfl <;> kernel_rfl
theorem pur_none (hx : x ∈ L1) : hPur 2 4 (FE d g (.imm x) s3 (.imm y) s5 s6 s7 s8 s9) = .ok (.imm (hd2 "number" "goods"), FE d g (.imm x) s3 (.imm y) s5 s6 s7 s8 s9) := by
  unfold L1 at hx
  simp only [List.mem_cons, List.not_mem_nil, or_false] at hx
  rcases hx with rfl | rfl | rfl | rfl | rfl | rfl | rfl | rfl | rfl <;> kernel_rfl
theorem amt_none (hx : x ∈ L1) : hAmt 2 4 (FE d g (.imm x) s3 (.imm y) s5 s6 s7 s8 s9) = .ok (.imm (hd2 "number" "goods"), FE d g (.imm x) s3 (.imm y) s5 s6 s7 s8 s9) := by
  unfold L1 at hx
  simp only [List.mem_cons, List.not_mem_nil, or_false] at hx
  rcases hx with rfl | rfl | rfl | rfl | rfl | rfl | rfl | rfl | rfl <;> kernel_rfl
theorem spa_none (hx : x ∈ L1) : hSpa [2, 4, 5] 2 4 5 (FE d g (.imm x) s3 (.imm y) (.imm z) s6 s7 s8 s9) = .ok (.imm (hd2 "number" "goods"), FE d g (.imm x) s3 (.imm y) (.imm z) s6 s7 s8 s9) := by
  unfold L1 at hx
  simp only [List.mem_cons, List.not_mem_nil, or_false] at hx
  rcases hx with rfl | rfl | rfl | rfl | rfl | rfl | rfl | rfl | rfl <;> kernel_rfl
theorem five (g1 : 1 ≤ g) (g5 : g ≤ 5) : g = 1 ∨ g = 2 ∨ g = 3 ∨ g = 4 ∨ g = 5 := by omega
theorem fac_bad (g1 : 1 ≤ g) (g5 : g ≤ 5) : ∀ x ∈ LB, hFac 1 3 (FE d g s2 (.imm x) s4 s5 s6 s7 s8 s9) = .ok (.imm (hd2 "number" "days"), FE d g s2 (.imm x) s4 s5 s6 s7 s8 s9) := by
  rcases five g1 g5 with rfl | rfl | rfl | rfl | rfl <;> (intro x hx; unfold LB at hx; simp only [List.mem_cons, List.not_mem_nil, or_false] at hx; rcases hx with rfl | rfl | rfl | rfl | rfl | rfl | rfl | rfl <;> kernel_rfl)
theorem pur_odd (g1 : 1 ≤ g) (g5 : g ≤ 5) : ∀ x ∈ LO g, hPur 1 4 (FE d g s2 s3 (.imm x) s5 s6 s7 s8 s9) = .ok (.imm (hd2 "market" "market"), FE d g s2 s3 (.imm x) s5 s6 s7 s8 s9) := by
  rcases five g1 g5 with rfl | rfl | rfl | rfl | rfl <;> (intro x hx; unfold LO at hx; simp only [List.mem_cons, List.not_mem_nil, or_false] at hx; rcases hx with rfl | rfl | rfl | rfl | rfl | rfl | rfl | rfl | rfl | rfl | rfl <;> kernel_rfl)
theorem amt_odd (g1 : 1 ≤ g) (g5 : g ≤ 5) : ∀ x ∈ LO g, hAmt 1 4 (FE d g s2 s3 (.imm x) s5 s6 s7 s8 s9) = .ok (.imm (hd2 "market" "market"), FE d g s2 s3 (.imm x) s5 s6 s7 s8 s9) := by
  rcases five g1 g5 with rfl | rfl | rfl | rfl | rfl <;> (intro x hx; unfold LO at hx; simp only [List.mem_cons, List.not_mem_nil, or_false] at hx; rcases hx with rfl | rfl | rfl | rfl | rfl | rfl | rfl | rfl | rfl | rfl | rfl <;> kernel_rfl)
theorem spa_odd (g1 : 1 ≤ g) (g5 : g ≤ 5) : ∀ x ∈ LO g, hSpa [1, 4, 5] 1 4 5 (FE d g s2 s3 (.imm x) (.imm z) s6 s7 s8 s9) = .ok (.imm (hd2 "market" "market"), FE d g s2 s3 (.imm x) (.imm z) s6 s7 s8 s9) := by
  rcases five g1 g5 with rfl | rfl | rfl | rfl | rfl <;> (intro x hx; unfold LO at hx; simp only [List.mem_cons, List.not_mem_nil, or_false] at hx; rcases hx with rfl | rfl | rfl | rfl | rfl | rfl | rfl | rfl | rfl | rfl | rfl <;> kernel_rfl)
def LM (g : Nat) : List Dt := [.lst [], .lst [rp g (.int 1)], .lst [rp g (.int 1), rp g (.int 1)]]
theorem spa_sh (g1 : 1 ≤ g) (g5 : g ≤ 5) : ∀ m ∈ LM g, ∀ x ∈ LS g, hSpa [1, 5, 6] 1 6 5 (FE d g s2 s3 s4 (.imm x) (.imm m) s7 s8 s9) = .ok (.imm (hd2 "mix" "shares"), FE d g s2 s3 s4 (.imm x) (.imm m) s7 s8 s9) := by
  rcases five g1 g5 with rfl | rfl | rfl | rfl | rfl <;> (intro m hm x hx; unfold LM at hm; unfold LS at hx; simp only [List.mem_cons, List.not_mem_nil, or_false] at hm hx; rcases hm with rfl | rfl | rfl <;> rcases hx with rfl | rfl | rfl | rfl | rfl | rfl | rfl | rfl | rfl <;> kernel_rfl)
theorem wei_bad : ∀ x ∈ LC, hWei (FE d g s2 s3 s4 s5 s6 s7 s8 (.imm x)) = .ok (.imm (hd2 "number" "counts"), FE d g s2 s3 s4 s5 s6 s7 s8 (.imm x)) := by
  intro x hx; unfold LC at hx; simp only [List.mem_cons, List.not_mem_nil, or_false] at hx; rcases hx with rfl | rfl | rfl | rfl | rfl | rfl | rfl | rfl | rfl | rfl | rfl | rfl | rfl | rfl <;> kernel_rfl
end
end G


set_option maxRecDepth 100000
set_option maxHeartbeats 4000000
set_option exponentiation.threshold 30000
namespace G
open PySem PySem.Spec PyProof.Rows L2
/-! Q3: k73, the first fault is told. -/
theorem first_right {k g : Nat} {d : Dt} (hd : Pen k d) (hk : k < 900) (g1 : 1 ≤ g) (g5 : g ≤ 5) : ∃ d', Pen (k + 6) d' ∧ F__law_first_right [d, ni g] = .ok (.imm (.bl true), some d') := by
  -- drawn values
  obtain ⟨x, hx, d1, p1, e1⟩ := oneC (i := 0) (k := k) (d := d) (ds := L1) (mk := Slot.io) (env := FE d g .un .un .un .un .un .un .un .un) (e := FE d g .un .un .un .un .un .un .un .un) (v := .fresh (.lst L1)) (.inr rfl) rfl
    (f := dLst (aCons (dC .non) (aCons (dC (.int 0)) (aCons (dC (.int 6)) (aCons (dUn opNeg (dC (.int 1))) (aCons (dC (.bl true)) (aCons (dC (.str "2")) (aCons (dLst (aCons (dC (.int 2)) aNil)) (aCons (dTup (aCons (dC (.int 2)) (aCons (dC (.int 3)) aNil))) (aCons (dBin opPow (dC (.int 10)) (dC (.int 20))) aNil))))))))))
    (by kernel_rfl) rfl rfl hd (by omega) (by decide) (by decide)
  obtain ⟨y, hy, d2, p2, e2⟩ := oneC (i := 0) (k := k + 1) (d := d1) (ds := LB) (mk := Slot.io) (env := FE d1 g .un .un .un .un .un .un .un .un) (e := FE d1 g .un .un .un .un .un .un .un .un) (v := .fresh (.lst LB)) (.inr rfl) rfl
    (f := dLst (aCons (dC .non) (aCons (dUn opNeg (dC (.int 1))) (aCons (dC (.int 1001)) (aCons (dC (.bl true)) (aCons (dC (.str "3")) (aCons (dLst aNil) (aCons (dTup (aCons (dC (.int 1)) (aCons (dC (.int 2)) aNil))) (aCons (dBin opPow (dC (.int 10)) (dC (.int 20))) aNil)))))))))
    (by kernel_rfl) rfl rfl p1 (by omega) (by decide) (by decide)
  have b0 : b__law_first_right_0 (FE d g .un .un .un .un .un .un .un .un) = .ok (.nx, FE d2 g (.imm x) (.imm y) .un .un .un .un .un .un) := asg_ok (tup2 e1 e2) rfl
  obtain ⟨o, ho, d3, p3, e3⟩ := oneC (i := 0) (k := k + 2) (d := d2) (ds := LO g) (mk := Slot.io) (env := FE d2 g (.imm x) (.imm y) .un .un .un .un .un .un) (e := FE d2 g (.imm x) (.imm y) .un .un .un .un .un .un) (v := .fresh (.lst (LO g))) (.inr rfl) rfl
    (f := dLst (aCons (dC .non) (aCons (dC (.int 5)) (aCons (dLst (aCons (dBin opMul (dLst (aCons (dC (.int 1)) aNil)) (dBin opAdd (dVar 1) (dC (.int 1)))) aNil)) (aCons (dLst (aCons (dBin opMul (dLst (aCons (dC (.int 1)) aNil)) (dVar 1)) (aCons (dBin opMul (dLst (aCons (dC (.int 1)) aNil)) (dBin opSub (dVar 1) (dC (.int 1)))) aNil))) (aCons (dLst (aCons (dBin opMul (dLst (aCons (dUn opNeg (dC (.int 1))) aNil)) (dVar 1)) aNil)) (aCons (dBin opMul (dLst (aCons (dC (.int 1)) aNil)) (dVar 1)) (aCons (dC (.str "1")) (aCons (dLst (aCons (dBin opMul (dLst (aCons (dC (.bl true)) aNil)) (dVar 1)) aNil)) (aCons (dLst (aCons (dC .non) aNil)) (aCons dDNew (aCons (dLst (aCons (dBin opMul (dLst (aCons (dTup (aCons (dC (.int 2)) (aCons (dC (.int 2)) aNil))) aNil)) (dVar 1)) aNil)) aNil))))))))))))
    (by clear e1 e2 b0; rcases five g1 g5 with rfl | rfl | rfl | rfl | rfl <;> kernel_rfl) rfl rfl p2 (by omega) (by unfold LO; exact (by decide : 0 < 11)) (by unfold LO; exact (by decide : 11 < 2 ^ 64))
  have b1 : b__law_first_right_1 (FE d2 g (.imm x) (.imm y) .un .un .un .un .un .un) = .ok (.nx, FE d3 g (.imm x) (.imm y) (.imm o) .un .un .un .un .un) := setI e3 rfl rfl
  obtain ⟨s, hs, d4, p4, e4⟩ := oneC (i := 0) (k := k + 3) (d := d3) (ds := LS g) (mk := Slot.io) (env := FE d3 g (.imm x) (.imm y) (.imm o) .un .un .un .un .un) (e := FE d3 g (.imm x) (.imm y) (.imm o) .un .un .un .un .un) (v := .fresh (.lst (LS g))) (.inr rfl) rfl
    (f := dLst (aCons (dC .non) (aCons (dC (.int 5)) (aCons (dBin opMul (dLst (aCons (dC (.int 1)) aNil)) (dBin opAdd (dVar 1) (dC (.int 1)))) (aCons (dBin opMul (dLst (aCons (dC (.int 0)) aNil)) (dVar 1)) (aCons (dIf (dTest (dBin opGt (dVar 1) (dC (.int 1)))) (dBin opAdd (dBin opAdd (dLst (aCons (dC (.int 2)) aNil)) (dLst (aCons (dUn opNeg (dC (.int 1))) aNil))) (dBin opMul (dLst (aCons (dC (.int 0)) aNil)) (dBin opSub (dVar 1) (dC (.int 2))))) (dLst (aCons (dC (.int 2)) aNil))) (aCons (dC (.str "1")) (aCons (dBin opAdd (dLst (aCons (dC (.bl true)) aNil)) (dBin opMul (dLst (aCons (dC (.int 0)) aNil)) (dBin opSub (dVar 1) (dC (.int 1))))) (aCons (dBin opAdd (dLst (aCons (dC (.int 1)) aNil)) (dBin opMul (dLst (aCons (dC (.int 0)) aNil)) (dVar 1))) (aCons dDNew aNil))))))))))
    (by clear e1 e2 b0 e3 b1; rcases five g1 g5 with rfl | rfl | rfl | rfl | rfl <;> kernel_rfl) rfl rfl p3 (by omega) (by unfold LS; exact (by decide : 0 < 9)) (by unfold LS; exact (by decide : 9 < 2 ^ 64))
  have b2 : b__law_first_right_2 (FE d3 g (.imm x) (.imm y) (.imm o) .un .un .un .un .un) = .ok (.nx, FE d4 g (.imm x) (.imm y) (.imm o) (.imm s) .un .un .un .un) := setI e4 rfl rfl
  obtain ⟨n, d5, hn, p5, e5⟩ := drawC (i := 0) (k := k + 4) (many := 3) (d := d4) (mk := Slot.io) (env := FE d4 g (.imm x) (.imm y) (.imm o) (.imm s) .un .un .un .un) (e := FE d4 g (.imm x) (.imm y) (.imm o) (.imm s) .un .un .un .un) (f := dC (.int 3)) (v := .imm (ni 3)) (.inr rfl) rfl rfl rfl rfl p4 (by omega) (by decide) (by decide)
  obtain ⟨m, hm, b3⟩ : ∃ m ∈ LM g, b__law_first_right_3 (FE d4 g (.imm x) (.imm y) (.imm o) (.imm s) .un .un .un .un) = .ok (.nx, FE d5 g (.imm x) (.imm y) (.imm o) (.imm s) (.own m) .un .un .un) := by
    have l : dLst (aCons (dBin opMul (dLst (aCons (dC (.int 1)) aNil)) (dVar 1)) aNil) (FE d4 g (.imm x) (.imm y) (.imm o) (.imm s) .un .un .un .un) = .ok (.fresh (.lst [rp g (.int 1)]), FE d4 g (.imm x) (.imm y) (.imm o) (.imm s) .un .un .un .un) := by
      clear e1 e2 b0 e3 b1 e4 b2 e5
      rcases five g1 g5 with rfl | rfl | rfl | rfl | rfl <;> kernel_rfl
    have q : ∃ m ∈ LM g, opMul (.lst [rp g (.int 1)]) (ni n) = .ok (.fresh m) := by
      clear e1 e2 b0 e3 b1 e4 b2 e5 l
      match n, hn with
      | 0, _ => exact ⟨.lst [], by unfold LM; simp, by rcases five g1 g5 with rfl | rfl | rfl | rfl | rfl <;> kernel_rfl⟩
      | 1, _ => exact ⟨.lst [rp g (.int 1)], by unfold LM; simp, by rcases five g1 g5 with rfl | rfl | rfl | rfl | rfl <;> kernel_rfl⟩
      | 2, _ => exact ⟨.lst [rp g (.int 1), rp g (.int 1)], by unfold LM; simp, by rcases five g1 g5 with rfl | rfl | rfl | rfl | rfl <;> kernel_rfl⟩
    obtain ⟨m, hm, q⟩ := q
    exact ⟨m, hm, setF (bin_ok l e5 q) rfl rfl⟩
  -- what is heard
  let A := hd2 "number" "goods"
  let D := hd2 "number" "days"
  let M := hd2 "market" "market"
  have f4 : b__law_first_right_4 (FE d5 g (.imm x) (.imm y) (.imm o) (.imm s) (.own m) .un .un .un) = .ok (.nx, FE d5 g (.imm x) (.imm y) (.imm o) (.imm s) (.own m) (.own (.lst [A, D, A])) .un .un) :=
    setF (lst3 (fac_none d5 y _ _ _ _ _ _ hx) (fac_bad d5 _ _ _ _ _ _ _ g1 g5 y hy) (pur_none d5 o _ _ _ _ _ _ hx)) rfl rfl
  have v7 : ∀ (l : Dt), dVar 7 (FE d5 g (.imm x) (.imm y) (.imm o) (.imm s) (.own m) (.own l) .un .un) = .ok (.imm l, FE d5 g (.imm x) (.imm y) (.imm o) (.imm s) (.own m) (.imm l) .un .un) := fun l => rfl
  have f5 : b__law_first_right_5 (FE d5 g (.imm x) (.imm y) (.imm o) (.imm s) (.own m) (.own (.lst [A, D, A])) .un .un) = .ok (.nx, FE d5 g (.imm x) (.imm y) (.imm o) (.imm s) (.own m) (.own (.lst [A, D, A, M, A, M])) .un .un) :=
    setF (bin_ok (v7 _) (lst3 (pur_odd d5 _ _ _ _ _ _ _ g1 g5 o ho) (amt_none d5 o _ _ _ _ _ _ hx) (amt_odd d5 _ _ _ _ _ _ _ g1 g5 o ho)) (by kernel_rfl)) rfl rfl
  have hm' : hSpa [1, 5, 6] 1 6 5 (FE d5 g (.imm x) (.imm y) (.imm o) (.imm s) (.own m) (.imm (.lst [A, D, A, M, A, M])) .un .un) = hSpa [1, 5, 6] 1 6 5 (FE d5 g (.imm x) (.imm y) (.imm o) (.imm s) (.imm m) (.imm (.lst [A, D, A, M, A, M])) .un .un) := rfl
  have f6 : b__law_first_right_6 (FE d5 g (.imm x) (.imm y) (.imm o) (.imm s) (.own m) (.own (.lst [A, D, A, M, A, M])) .un .un) = .ok (.nx, FE d5 g (.imm x) (.imm y) (.imm o) (.imm s) (.imm m) (.own (.lst [A, D, A, M, A, M, A, M, hd2 "mix" "shares"])) .un .un) := by
    have l3 : dLst (aCons (hSpa [2, 4, 5] 2 4 5) (aCons (hSpa [1, 4, 5] 1 4 5) (aCons (hSpa [1, 5, 6] 1 6 5) aNil))) (FE d5 g (.imm x) (.imm y) (.imm o) (.imm s) (.own m) (.imm (.lst [A, D, A, M, A, M])) .un .un) =
        .ok (.fresh (.lst [A, M, hd2 "mix" "shares"]), FE d5 g (.imm x) (.imm y) (.imm o) (.imm s) (.imm m) (.imm (.lst [A, D, A, M, A, M])) .un .un) := by
      have h1 := spa_none d5 o s (g := g) (.imm y) (.own m) (.imm (.lst [A, D, A, M, A, M])) .un .un hx
      have h2 := spa_odd d5 s (.imm x) (.imm y) (.own m) (.imm (.lst [A, D, A, M, A, M])) .un .un g1 g5 o ho
      have h3 := spa_sh d5 (.imm x) (.imm y) (.imm o) (.imm (.lst [A, D, A, M, A, M])) .un .un g1 g5 m hm s hs
      rw [← hm'] at h3
      simp only [dLst, aCons, aNil, h1, h2, h3, Res.bind_ok, Val.d, List.length_cons, List.length_nil]
      exact if_pos (by decide)
    exact setF (bin_ok (v7 _) l3 (by kernel_rfl)) rfl rfl
  have f7 : b__law_first_right_7 (FE d5 g (.imm x) (.imm y) (.imm o) (.imm s) (.imm m) (.own (.lst [A, D, A, M, A, M, A, M, hd2 "mix" "shares"])) .un .un) = .ok (.nx, FE d5 g (.imm x) (.imm y) (.imm o) (.imm s) (.imm m) (.own (.lst [A, D, A, M, A, M, A, M, hd2 "mix" "shares"])) (.own (.lst [A, D, A, M, A, M, A, M, hd2 "mix" "shares"])) .un) := by
    kernel_rfl
  have f8 : b__law_first_right_8 (FE d5 g (.imm x) (.imm y) (.imm o) (.imm s) (.imm m) (.own (.lst [A, D, A, M, A, M, A, M, hd2 "mix" "shares"])) (.own (.lst [A, D, A, M, A, M, A, M, hd2 "mix" "shares"])) .un) = .ok (.nx, FE d5 g (.imm x) (.imm y) (.imm o) (.imm s) (.imm m) (.imm (.lst [A, D, A, M, A, M, A, M, hd2 "mix" "shares"])) (.imm (.lst [A, D, A, M, A, M, A, M, hd2 "mix" "shares"])) .un) := by
    kernel_rfl
  generalize (Dt.lst [A, D, A, M, A, M, A, M, hd2 "mix" "shares"]) = LL at f6 f7 f8
  obtain ⟨c, hc, d6, p6, e6⟩ := oneC (i := 0) (k := k + 5) (d := d5) (ds := LC) (mk := Slot.io) (env := FE d5 g (.imm x) (.imm y) (.imm o) (.imm s) (.imm m) (.imm LL) (.imm LL) .un) (e := FE d5 g (.imm x) (.imm y) (.imm o) (.imm s) (.imm m) (.imm LL) (.imm LL) .un) (v := .fresh (.lst LC)) (.inr rfl) rfl
    (f := dLst (aCons (dC .non) (aCons (dC (.int 5)) (aCons (dLst aNil) (aCons (dTup aNil) (aCons (dBin opMul (dLst (aCons (dC (.int 1)) aNil)) (dC (.int 6))) (aCons (dLst (aCons (dUn opNeg (dC (.int 1))) aNil)) (aCons (dLst (aCons (dC (.int 1)) (aCons (dC (.bl true)) aNil))) (aCons (dLst (aCons (dC (.str "1")) aNil)) (aCons (dLst (aCons (dC (.int 1001)) aNil)) (aCons (dLst (aCons (dTup (aCons (dC (.int 1)) (aCons (dC (.int 2)) aNil))) aNil)) (aCons dDNew (aCons (dC (.str "12")) (aCons (dLst (aCons (dC (.int 0)) (aCons (dC .non) aNil))) (aCons (dLst (aCons (dC (.int 2)) (aCons (dBin opPow (dC (.int 10)) (dC (.int 20))) aNil))) aNil)))))))))))))))
    (by clear e1 e2 b0 e3 b1 e4 b2 e5 b3 f4 f5 f6 f7 f8 hm'; kernel_rfl) rfl rfl p5 (by omega) (by decide) (by decide)
  have f9 : b__law_first_right_9 (FE d5 g (.imm x) (.imm y) (.imm o) (.imm s) (.imm m) (.imm LL) (.imm LL) .un) = .ok (.nx, FE d6 g (.imm x) (.imm y) (.imm o) (.imm s) (.imm m) (.imm LL) (.imm LL) (.imm c)) := setI e6 rfl rfl
  have w := wei_bad d6 (g := g) (.imm x) (.imm y) (.imm o) (.imm s) (.imm m) (.imm LL) (.imm LL) c hc
  have f10 : b__law_first_right_10 (FE d6 g (.imm x) (.imm y) (.imm o) (.imm s) (.imm m) (.imm LL) (.imm LL) (.imm c)) = .ok (.rt (.imm (.bl true)), FE d6 g (.imm x) (.imm y) (.imm o) (.imm s) (.imm m) (.imm LL) (.imm LL) (.imm c)) :=
    ret_ok (bin_ok w (w := .imm (hd2 "number" "counts")) rfl (by kernel_rfl))
  refine ⟨d6, p6, ?_⟩
  unfold F__law_first_right runF
  rw [show env0 true 10 [d, ni g] = FE d g .un .un .un .un .un .un .un .un from rfl, b__law_first_right_eq, seq_nx b0, seq_nx b1, seq_nx b2, seq_nx b3, seq_nx f4, seq_nx f5, seq_nx f6, seq_nx f7, seq_nx f8, seq_nx f9, f10]
  rfl
end G


set_option maxRecDepth 100000
set_option maxHeartbeats 4000000
set_option exponentiation.threshold 30000
namespace G
open PySem PySem.Spec PyProof.Rows L2
/-! Q4: k73's law. -/
abbrev LE (s0 s1 s2 s3 s4 s5 s6 s7 s8 s9 s10 s11 s12 : Slot) : Env' := [s0, s1, s2, s3, s4, s5, s6, s7, s8, s9, s10, s11, s12]
/-- the law's loop goes on -/
structure Mid (k : Nat) (e : Env') : Prop where
  ex : ∃ s0 s2 d, e = LE s0 (.own d) s2 .un .un .un .un .un .un .un .un .un .un ∧ Pen k d ∧ canSet e 2 = true
theorem turn_ok {k : Nat} {e : Env'} {i : Nat} (h : Mid k e) (hk : k < 800) : ∃ e1 e2, gSet 2 (ni i) e = .ok e1 ∧ b_law_1_b e1 = .ok (.nx, e2) ∧ Mid (k + 7) e2 := by
  obtain ⟨s0, s2, d, rfl, hp, hc⟩ := h.ex
  obtain ⟨n, d1, hn, p1, e1⟩ := drawC (i := 1) (k := k) (many := 5) (d := d) (mk := Slot.own) (env := LE s0 (.own d) (.imm (ni i)) .un .un .un .un .un .un .un .un .un .un) (e := LE s0 (.own d) (.imm (ni i)) .un .un .un .un .un .un .un .un .un .un) (f := dC (.int 5)) (v := .imm (ni 5)) (.inl rfl) rfl rfl rfl rfl hp (by omega) (by decide) (by decide)
  obtain ⟨d2, p2, f⟩ := first_right (g := 1 + n) p1 (by omega) (by omega) (by omega)
  refine ⟨LE s0 (.own d) (.imm (ni i)) .un .un .un .un .un .un .un .un .un .un, LE s0 (.own d2) (.imm (ni i)) .un .un .un .un .un .un .un .un .un .un, if_pos hc, ?_, ⟨s0, .imm (ni i), d2, rfl, p2, rfl⟩⟩
  have a : dBin opAdd (dC (.int 1)) (dCallIo 1 2 F__law_draw (aCons (dC (.int 5)) aNil)) (LE s0 (.own d) (.imm (ni i)) .un .un .un .un .un .un .un .un .un .un) = .ok (.imm (ni (1 + n)), LE s0 (.own d1) (.imm (ni i)) .un .un .un .un .un .un .un .un .un .un) :=
    bin_ok (v := .imm (ni 1)) rfl e1 (ni_add 1 n)
  have c : dCallIo 1 2 F__law_first_right (aCons (dBin opAdd (dC (.int 1)) (dCallIo 1 2 F__law_draw (aCons (dC (.int 5)) aNil))) aNil) (LE s0 (.own d) (.imm (ni i)) .un .un .un .un .un .un .un .un .un .un) = .ok (.imm (.bl true), LE s0 (.own d2) (.imm (ni i)) .un .un .un .un .un .un .un .un .un .un) := by
    exact callIo1 (mk := Slot.own) (.inl rfl) rfl a rfl f
  have t : tNotD (dTru (dCallIo 1 2 F__law_first_right (aCons (dBin opAdd (dC (.int 1)) (dCallIo 1 2 F__law_draw (aCons (dC (.int 5)) aNil))) aNil))) (LE s0 (.own d) (.imm (ni i)) .un .un .un .un .un .un .un .un .un .un) = .ok (false, LE s0 (.own d2) (.imm (ni i)) .un .un .un .un .un .un .un .un .un .un) := by
    unfold tNotD dTru
    rw [c]
    rfl
  exact if_no t
def dd (g : Nat) : Nat := if g = 5 then 17 else if g = 4 then 30 else 99
def sha (g : Nat) : Dt := .lst (.int 1 :: List.replicate (g - 1) (.int 0))
def wide (g : Nat) : Dt := .lst (List.replicate (dd g) (rp g (.int 0)))
def mny : Dt := .tup [.str "many", .str "counts", .int 5000]
theorem mid_ok {g : Nat} (hg : g = 5 ∨ g = 4 ∨ g = 3) (s0 s2 : Slot) (d : Dt) :
    b_law_3 (LE s0 (.own d) s2 (.imm (ni g)) .un .un .un .un .un .un .un .un .un) = .ok (.nx, LE s0 (.own d) s2 (.imm (ni g)) (.imm (ni (dd g))) (.imm (sha g)) .un .un .un .un .un .un .un) ∧
    b_law_4 (LE s0 (.own d) s2 (.imm (ni g)) (.imm (ni (dd g))) (.imm (sha g)) .un .un .un .un .un .un .un) = .ok (.nx, LE s0 (.own d) s2 (.imm (ni g)) (.imm (ni (dd g))) (.imm (sha g)) (.own (wide g)) .un .un .un .un .un .un) ∧
    b_law_5 (LE s0 (.own d) s2 (.imm (ni g)) (.imm (ni (dd g))) (.imm (sha g)) (.own (wide g)) .un .un .un .un .un .un) = .ok (.nx, LE s0 (.own d) s2 (.imm (ni g)) (.imm (ni (dd g))) (.imm (sha g)) (.imm (wide g)) (.own (.lst [mny, mny, mny])) .un .un .un .un .un) ∧
    b_law_6 (LE s0 (.own d) s2 (.imm (ni g)) (.imm (ni (dd g))) (.imm (sha g)) (.imm (wide g)) (.own (.lst [mny, mny, mny])) .un .un .un .un .un) = .ok (.nx, LE s0 (.own d) s2 (.imm (ni g)) (.imm (ni (dd g))) (.imm (sha g)) (.imm (wide g)) (.own (.lst [mny, mny, mny, hd2 "mix" "shares", hd2 "market" "market"])) .un .un .un .un .un) ∧
    b_law_7 (LE s0 (.own d) s2 (.imm (ni g)) (.imm (ni (dd g))) (.imm (sha g)) (.imm (wide g)) (.own (.lst [mny, mny, mny, hd2 "mix" "shares", hd2 "market" "market"])) .un .un .un .un .un) = .ok (.nx, LE s0 (.own d) s2 (.imm (ni g)) (.imm (ni (dd g))) (.imm (sha g)) (.imm (wide g)) (.imm (.lst [mny, mny, mny, hd2 "mix" "shares", hd2 "market" "market"])) .un .un .un .un .un) := by
  rcases hg with rfl | rfl | rfl <;> exact ⟨by kernel_rfl, by kernel_rfl, by kernel_rfl, by kernel_rfl, by kernel_rfl⟩
def mkt (m : Nat) : Dt := .lst (List.replicate m [.lst [.int 2], .lst [.tup [.int 1, .int 3]]]).flatten
def due (m : Nat) : Dt := .tup [.int (2 ^ m), .int (3 ^ m)]
theorem last_ok {m : Nat} (hm : m = 1 ∨ m = 2 ∨ m = 3) (s0 s1 s2 s3 s4 s5 s6 s7 : Slot) : ∃ z,
    b_law_9 (LE s0 s1 s2 s3 s4 s5 s6 s7 (.imm (ni m)) .un .un .un .un) = .ok (.nx, LE s0 s1 s2 s3 s4 s5 s6 s7 (.imm (ni m)) (.imm (mkt m)) (.imm (due m)) .un .un) ∧
    b_law_10 (LE s0 s1 s2 s3 s4 s5 s6 s7 (.imm (ni m)) (.imm (mkt m)) (.imm (due m)) .un .un) = .ok (.nx, LE s0 s1 s2 s3 s4 s5 s6 s7 (.imm (ni m)) (.imm (mkt m)) (.imm (due m)) (.imm (.str z)) .un) ∧
    b_law_11 (LE s0 s1 s2 s3 s4 s5 s6 s7 (.imm (ni m)) (.imm (mkt m)) (.imm (due m)) (.imm (.str z)) .un) = .ok (.nx, LE s0 s1 s2 s3 s4 s5 s6 s7 (.imm (ni m)) (.imm (mkt m)) (.imm (due m)) (.imm (.str z)) (.own (.lst [due m, .tup [due m], .int 0]))) ∧
    b_law_12 (LE s0 s1 s2 s3 s4 s5 s6 s7 (.imm (ni m)) (.imm (mkt m)) (.imm (due m)) (.imm (.str z)) (.own (.lst [due m, .tup [due m], .int 0]))) = .ok (.rt (.imm (.bl true)), LE s0 s1 s2 s3 s4 s5 s6 s7 (.imm (ni m)) (.imm (mkt m)) (.imm (due m)) (.imm (.str z)) (.imm (.lst [due m, .tup [due m], .int 0]))) := by
  rcases hm with rfl | rfl | rfl
  · exact ⟨_, by kernel_rfl, (rfl : b_law_10 _ = .ok (.nx, LE s0 s1 s2 s3 s4 s5 s6 s7 (.imm (ni 1)) (.imm (mkt 1)) (.imm (due 1)) (.imm (.str (PyData.shown (.list [.list [.int 2], .list [.tuple [.int 1, .int 3]]])))) .un)), by kernel_rfl, by kernel_rfl⟩
  · exact ⟨_, by kernel_rfl, (rfl : b_law_10 _ = .ok (.nx, LE s0 s1 s2 s3 s4 s5 s6 s7 (.imm (ni 2)) (.imm (mkt 2)) (.imm (due 2)) (.imm (.str (PyData.shown (.list [.list [.int 2], .list [.tuple [.int 1, .int 3]], .list [.int 2], .list [.tuple [.int 1, .int 3]]])))) .un)), by kernel_rfl, by kernel_rfl⟩
  · exact ⟨_, by kernel_rfl, (rfl : b_law_10 _ = .ok (.nx, LE s0 s1 s2 s3 s4 s5 s6 s7 (.imm (ni 3)) (.imm (mkt 3)) (.imm (due 3)) (.imm (.str (PyData.shown (.list [.list [.int 2], .list [.tuple [.int 1, .int 3]], .list [.int 2], .list [.tuple [.int 1, .int 3]], .list [.int 2], .list [.tuple [.int 1, .int 3]]])))) .un)), by kernel_rfl, by kernel_rfl⟩
end G


set_option maxRecDepth 100000
set_option maxHeartbeats 4000000
set_option exponentiation.threshold 30000
namespace G
open PySem PySem.Spec PyProof.Rows L2
/-! Q5: k73's law is true. -/
theorem law_true : LawTrue F_law 63 := fun ns _ => by
  obtain ⟨d, hp, pe⟩ := pen_ok ns
  refine ⟨.imm (.bl true), ?_, rfl⟩
  have b0 : b_law_0 (LE (.imm (.scr ns)) .un .un .un .un .un .un .un .un .un .un .un .un) = .ok (.nx, LE (.imm (.scr ns)) (.own d) .un .un .un .un .un .un .un .un .un .un .un) := by
    refine setF (e := LE (.imm (.scr ns)) .un .un .un .un .un .un .un .un .un .un .un .un) ?_ rfl rfl
    simp [dCall, aCons, aNil, dVar, Val.d, Src.d, Src.ok, pe, asRes]
  obtain ⟨e', l, hm⟩ := loop_inv (g := gSet 2) (f := b_law_1_b) (fun i e => Mid (7 * i) e) ((List.range 3).map ni) (k := 0) (env := LE (.imm (.scr ns)) (.own d) .un .un .un .un .un .un .un .un .un .un .un)
    ⟨_, _, d, rfl, hp, rfl⟩ fun i hi e pe => by
      rw [List.length_map, List.length_range] at hi
      rw [Nat.zero_add] at pe ⊢
      obtain ⟨e1, e2, h1, h2, h3⟩ := turn_ok (i := i) pe (by omega)
      exact ⟨e1, e2, by rw [List.getElem_map, List.getElem_range]; exact h1, h2, by rw [show 7 * (i + 1) = 7 * i + 7 by omega]; exact h3⟩
  obtain ⟨s0, s2, d1, rfl, p1, _⟩ := hm.ex
  have b1 : b_law_1 (LE (.imm (.scr ns)) (.own d) .un .un .un .un .un .un .un .un .un .un .un) = .ok (.nx, LE s0 (.own d1) s2 .un .un .un .un .un .un .un .un .un .un) := for_of rfl l
  obtain ⟨x, hx, d2, p2, e2⟩ := oneC (i := 1) (k := 21) (d := d1) (ds := [ni 5, ni 4, ni 3]) (mk := Slot.own) (env := LE s0 (.own d1) s2 .un .un .un .un .un .un .un .un .un .un) (e := LE s0 (.own d1) s2 .un .un .un .un .un .un .un .un .un .un) (v := .fresh (.lst [ni 5, ni 4, ni 3])) (.inl rfl) rfl
    (f := dLst (aCons (dC (.int 5)) (aCons (dC (.int 4)) (aCons (dC (.int 3)) aNil)))) (by kernel_rfl) rfl rfl p1 (by omega) (by decide) (by decide)
  obtain ⟨g, hg, rfl⟩ : ∃ g, (g = 5 ∨ g = 4 ∨ g = 3) ∧ x = ni g := by
    simp only [List.mem_cons, List.not_mem_nil, or_false] at hx
    rcases hx with rfl | rfl | rfl
    · exact ⟨5, by simp, rfl⟩
    · exact ⟨4, by simp, rfl⟩
    · exact ⟨3, by simp, rfl⟩
  have b2 : b_law_2 (LE s0 (.own d1) s2 .un .un .un .un .un .un .un .un .un .un) = .ok (.nx, LE s0 (.own d2) s2 (.imm (ni g)) .un .un .un .un .un .un .un .un .un) := setI e2 rfl rfl
  obtain ⟨b3, b4, b5, b6, b7⟩ := mid_ok hg s0 s2 d2
  generalize (Dt.lst [mny, mny, mny, hd2 "mix" "shares", hd2 "market" "market"]) = HH at b6 b7
  obtain ⟨x, hx, d3, p3, e3⟩ := oneC (i := 1) (k := 22) (d := d2) (ds := [ni 1, ni 2, ni 3]) (mk := Slot.own) (env := LE s0 (.own d2) s2 (.imm (ni g)) (.imm (ni (dd g))) (.imm (sha g)) (.imm (wide g)) (.imm HH) .un .un .un .un .un) (e := LE s0 (.own d2) s2 (.imm (ni g)) (.imm (ni (dd g))) (.imm (sha g)) (.imm (wide g)) (.imm HH) .un .un .un .un .un) (v := .fresh (.lst [ni 1, ni 2, ni 3])) (.inl rfl) rfl
    (f := dLst (aCons (dC (.int 1)) (aCons (dC (.int 2)) (aCons (dC (.int 3)) aNil)))) (by clear b3 b4 b5 b6 b7 e2 b2; kernel_rfl) rfl rfl p2 (by omega) (by decide) (by decide)
  obtain ⟨m, hm, rfl⟩ : ∃ m, (m = 1 ∨ m = 2 ∨ m = 3) ∧ x = ni m := by
    simp only [List.mem_cons, List.not_mem_nil, or_false] at hx
    rcases hx with rfl | rfl | rfl
    · exact ⟨1, by simp, rfl⟩
    · exact ⟨2, by simp, rfl⟩
    · exact ⟨3, by simp, rfl⟩
  have b8 : b_law_8 (LE s0 (.own d2) s2 (.imm (ni g)) (.imm (ni (dd g))) (.imm (sha g)) (.imm (wide g)) (.imm HH) .un .un .un .un .un) = .ok (.nx, LE s0 (.own d3) s2 (.imm (ni g)) (.imm (ni (dd g))) (.imm (sha g)) (.imm (wide g)) (.imm HH) (.imm (ni m)) .un .un .un .un) := setI e3 rfl rfl
  obtain ⟨z, c9, c10, c11, c12⟩ := last_ok hm s0 (.own d3) s2 (.imm (ni g)) (.imm (ni (dd g))) (.imm (sha g)) (.imm (wide g)) (.imm HH)
  refine run_rt (e := LE (.imm (.scr ns)) .un .un .un .un .un .un .un .un .un .un .un .un) rfl (e' := LE s0 (.own d3) s2 (.imm (ni g)) (.imm (ni (dd g))) (.imm (sha g)) (.imm (wide g)) (.imm HH) (.imm (ni m)) (.imm (mkt m)) (.imm (due m)) (.imm (.str z)) (.imm (.lst [due m, .tup [due m], .int 0]))) ?_
  rw [b_law_eq, seq_nx b0, seq_nx b1, seq_nx b2, seq_nx b3, seq_nx b4, seq_nx b5, seq_nx b6, seq_nx b7, seq_nx b8, seq_nx c9, seq_nx c10, seq_nx c11, c12]
end G


open PySem PySem.W PyProof.Rows
set_option maxHeartbeats 0 in
theorem PySem.Challenge.cw_hindprice_k73_even_purses_refused_holds : PySem.Challenge.rw_hindprice_k73_even_purses_refused.Holds := by
  w_on; o_law; k_head; (case hw => w_witness2)
  k_fill
  refine G.walk_G (l := PySem.Challenge.rw_hindprice_k73_even_purses_refused) (n := 63) (k := 12) (x := "_law_script") (F := G.F_law) rfl (by decide) rfl ⟨rfl, by decide, by decide⟩ (fun w h Y => by first | exact PySem.W.kIn_of Y | exact PySem.W.km_in_of Y) ?F G.law_true
  case F =>
    intro w mg fa h KX Gn hmg tq
    refine' G.all_mk KX Gn hmg ?p0 ?l0 ?c0 ?q0 ?p1 ?l1 ?c1 ?q1 ?p2 ?l2 ?c2 ?q2 ?p3 ?l3 ?c3 ?q3 ?p4 ?l4 ?c4 ?q4 ?p5 ?l5 ?c5 ?q5 ?p6 ?l6 ?c6 ?q6 ?p7 ?l7 ?c7 ?q7 ?p8 ?l8 ?c8 ?q8 ?p9 ?l9 ?c9 ?q9 ?p10 ?l10 ?c10 ?q10 ?p11 ?l11 ?c11 ?q11 ?p12 ?l12 ?c12 ?q12 ?p13 ?l13 ?c13 ?q13 ?p14 ?l14 ?c14 ?q14 ?p15 ?l15 ?c15 ?q15 ?p16 ?l16 ?c16 ?q16 ?p17 ?l17 ?c17 ?q17 ?r17 ?p18 ?l18 ?c18 ?q18 ?p19 ?l19 ?c19 ?q19 ?p20 ?l20 ?c20 ?q20 ?p21 ?l21 ?c21 ?q21 ?p22 ?l22 ?c22 ?q22 ?p23 ?l23 ?c23 ?q23 ?p24 ?l24 ?c24 ?q24 ?p25 ?l25 ?c25 ?q25 ?p26 ?l26 ?c26 ?q26 ?p27 ?l27 ?c27 ?q27 ?p28 ?l28 ?c28 ?q28 ?p29 ?l29 ?c29 ?q29 ?p30 ?l30 ?c30 ?q30 ?p31 ?l31 ?c31 ?q31 ?p32 ?l32 ?c32 ?q32 ?p33 ?l33 ?c33 ?q33 ?p34 ?l34 ?c34 ?q34 ?p35 ?l35 ?c35 ?q35 ?r35 ?p36 ?l36 ?c36 ?q36 ?p37 ?l37 ?c37 ?q37 ?p38 ?l38 ?c38 ?q38 ?p39 ?l39 ?c39 ?q39 ?p40 ?l40 ?c40 ?q40 ?p41 ?l41 ?c41 ?q41 ?p42 ?l42 ?c42 ?q42 ?p43 ?l43 ?c43 ?q43 ?p44 ?l44 ?c44 ?q44 ?p45 ?l45 ?c45 ?q45 ?p46 ?l46 ?c46 ?q46 ?b0 ?b1 ?b2 ?b3 ?b4 ?b5 ?b6 ?b7 ?b8 ?b9 ?b10 ?b11 ?b12 ?v0 ?v1 ?v2 ?v3 ?w45 ?o45 ?y45 ?w46 ?o46 ?y46 tq ?nt ?dd45_46 ?ka0 ?ka1 ?ka2 ?ka3 ?ka4 ?pg4 ?pr4 ?pf4 ?hn ?hx ?hb4 ?hh4 ?ht4 ?kx0 ?sa0 ?sb0 ?st0 ?sk0 ?sf0_0 ?si0 ?sj0 ?sl0_ ?sc0_ ?sq0 ?ga0 ?gg0 ?gd0 ?gc0 ?go0 ?ue0_4 ?kx1 ?sa1 ?sb1 ?st1 ?sk1 ?sf1_0 ?si1 ?sj1 ?sl1_ ?sc1_ ?sq1 ?ga1 ?gg1 ?gd1 ?gc1 ?go1 ?ue1_4 ?kx2 ?sa2 ?sb2 ?st2 ?sk2 ?sf2_0 ?sf2_1 ?si2 ?sj2 ?sl2_ ?sc2_ ?sq2 ?ga2 ?gg2 ?gd2 ?gc2 ?go2 ?ue2_4 ?kx3 ?sa3 ?sb3 ?st3 ?sk3 ?sf3_0 ?si3 ?sj3 ?sl3_ ?sc3_ ?sq3 ?ga3 ?gg3 ?gd3 ?gc3 ?go3 ?ue3_4 ?un2 ?us0_2 ?us1_2 ?us2_2 ?us3_2 ?ud0_2 ?ud1_2 ?ud3_2 ?un0 ?us0_0 ?us1_0 ?us2_0 ?us3_0 ?ud1_0 ?ud2_0 ?ud3_0 ?un1 ?us0_1 ?us1_1 ?us2_1 ?us3_1 ?ud0_1 ?ud2_1 ?ud3_1 ?un3 ?us0_3 ?us1_3 ?us2_3 ?us3_3 ?ud0_3 ?ud1_3 ?ud2_3
    (case p0 => k_is); (case l0 => k_is); (case c0 => k_is); (case q0 => k_is); (case p1 => k_is); (case l1 => k_is); (case c1 => k_is); (case q1 => k_is); (case p2 => k_is); (case l2 => k_is); (case c2 => k_is); (case q2 => k_is); (case p3 => k_is); (case l3 => k_is); (case c3 => k_is); (case q3 => k_is); (case p4 => k_is); (case l4 => k_is); (case c4 => k_is); (case q4 => k_is); (case p5 => k_is); (case l5 => k_is); (case c5 => k_is); (case q5 => k_is); (case p6 => k_is); (case l6 => k_is); (case c6 => k_is); (case q6 => k_is); (case p7 => k_is); (case l7 => k_is); (case c7 => k_is); (case q7 => k_is); (case p8 => k_is); (case l8 => k_is); (case c8 => k_is); (case q8 => k_is); (case p9 => k_is); (case l9 => k_is); (case c9 => k_is); (case q9 => k_is); (case p10 => k_is); (case l10 => k_is); (case c10 => k_is); (case q10 => k_is); (case p11 => k_is); (case l11 => k_is); (case c11 => k_is); (case q11 => k_is); (case p12 => k_is); (case l12 => k_is); (case c12 => k_is); (case q12 => k_is); (case p13 => k_is); (case l13 => k_is); (case c13 => k_is); (case q13 => k_is); (case p14 => k_is); (case l14 => k_is); (case c14 => k_is); (case q14 => k_is); (case p15 => k_is); (case l15 => k_is); (case c15 => k_is); (case q15 => k_is); (case p16 => k_is); (case l16 => k_is); (case c16 => k_is); (case q16 => k_is); (case p17 => k_is); (case l17 => k_is); (case c17 => k_is); (case q17 => k_is); (case r17 => k_is); (case p18 => k_is); (case l18 => k_is); (case c18 => k_is); (case q18 => k_is); (case p19 => k_is); (case l19 => k_is); (case c19 => k_is); (case q19 => k_is); (case p20 => k_is); (case l20 => k_is); (case c20 => k_is); (case q20 => k_is); (case p21 => k_is); (case l21 => k_is); (case c21 => k_is); (case q21 => k_is); (case p22 => k_is); (case l22 => k_is); (case c22 => k_is); (case q22 => k_is); (case p23 => k_is); (case l23 => k_is); (case c23 => k_is); (case q23 => k_is); (case p24 => k_is); (case l24 => k_is); (case c24 => k_is); (case q24 => k_is); (case p25 => k_is); (case l25 => k_is); (case c25 => k_is); (case q25 => k_is); (case p26 => k_is); (case l26 => k_is); (case c26 => k_is); (case q26 => k_is); (case p27 => k_is); (case l27 => k_is); (case c27 => k_is); (case q27 => k_is); (case p28 => k_is); (case l28 => k_is); (case c28 => k_is); (case q28 => k_is); (case p29 => k_is); (case l29 => k_is); (case c29 => k_is); (case q29 => k_is); (case p30 => k_is); (case l30 => k_is); (case c30 => k_is); (case q30 => k_is); (case p31 => k_is); (case l31 => k_is); (case c31 => k_is); (case q31 => k_is); (case p32 => k_is); (case l32 => k_is); (case c32 => k_is); (case q32 => k_is); (case p33 => k_is); (case l33 => k_is); (case c33 => k_is); (case q33 => k_is); (case p34 => k_is); (case l34 => k_is); (case c34 => k_is); (case q34 => k_is); (case p35 => k_is); (case l35 => k_is); (case c35 => k_is); (case q35 => k_is); (case r35 => k_is); (case p36 => k_is); (case l36 => k_is); (case c36 => k_is); (case q36 => k_is); (case p37 => k_is); (case l37 => k_is); (case c37 => k_is); (case q37 => k_is); (case p38 => k_is); (case l38 => k_is); (case c38 => k_is); (case q38 => k_is); (case p39 => k_is); (case l39 => k_is); (case c39 => k_is); (case q39 => k_is); (case p40 => k_is); (case l40 => k_is); (case c40 => k_is); (case q40 => k_is); (case p41 => k_is); (case l41 => k_is); (case c41 => k_is); (case q41 => k_is); (case p42 => k_is); (case l42 => k_is); (case c42 => k_is); (case q42 => k_is); (case p43 => k_is); (case l43 => k_is); (case c43 => k_is); (case q43 => k_is); (case p44 => k_is); (case l44 => k_is); (case c44 => k_is); (case q44 => k_is); (case p45 => k_is); (case l45 => k_is); (case c45 => k_is); (case q45 => k_is); (case p46 => k_is); (case l46 => k_is); (case c46 => k_is); (case q46 => k_is); (case b0 => k_is); (case b1 => k_is); (case b2 => k_is); (case b3 => k_is); (case b4 => k_is); (case b5 => k_is); (case b6 => k_is); (case b7 => k_is); (case b8 => k_is); (case b9 => k_is); (case b10 => k_is); (case b11 => k_is); (case b12 => k_is); (case v0 => k_is); (case v1 => k_is); (case v2 => k_is); (case v3 => k_is); (case w45 => k_is); (case o45 => rfl); (case y45 => first | rfl | decide +kernel); (case w46 => k_is); (case o46 => rfl); (case y46 => first | rfl | decide +kernel); (case nt => kernel_rfl); (case dd45_46 => decide); (case ka0 => k_is); (case ka1 => k_is); (case ka2 => k_is); (case ka3 => k_is); (case ka4 => k_is); (case pg4 => k_is); (case pr4 => k_is); (case pf4 => k_is); (case hn => k_is); (case hx => k_is); (case hb4 => k_is); (case hh4 => k_is); (case ht4 => k_is); (case kx0 => k_is); (case sa0 => k_is); (case sb0 => k_is); (case st0 => k_is); (case sk0 => k_is); (case sf0_0 => k_is); (case si0 => k_is); (case sj0 => k_is); (case sl0_ => k_is); (case sc0_ => k_is); (case sq0 => k_is); (case ga0 => k_is); (case gg0 => k_is); (case gd0 => k_is); (case gc0 => k_is); (case go0 => k_is); (case ue0_4 => k_is); (case kx1 => k_is); (case sa1 => k_is); (case sb1 => k_is); (case st1 => k_is); (case sk1 => k_is); (case sf1_0 => k_is); (case si1 => k_is); (case sj1 => k_is); (case sl1_ => k_is); (case sc1_ => k_is); (case sq1 => k_is); (case ga1 => k_is); (case gg1 => k_is); (case gd1 => k_is); (case gc1 => k_is); (case go1 => k_is); (case ue1_4 => k_is); (case kx2 => k_is); (case sa2 => k_is); (case sb2 => k_is); (case st2 => k_is); (case sk2 => k_is); (case sf2_0 => k_is); (case sf2_1 => k_is); (case si2 => k_is); (case sj2 => k_is); (case sl2_ => k_is); (case sc2_ => k_is); (case sq2 => k_is); (case ga2 => k_is); (case gg2 => k_is); (case gd2 => k_is); (case gc2 => k_is); (case go2 => k_is); (case ue2_4 => k_is); (case kx3 => k_is); (case sa3 => k_is); (case sb3 => k_is); (case st3 => k_is); (case sk3 => k_is); (case sf3_0 => k_is); (case si3 => k_is); (case sj3 => k_is); (case sl3_ => k_is); (case sc3_ => k_is); (case sq3 => k_is); (case ga3 => k_is); (case gg3 => k_is); (case gd3 => k_is); (case gc3 => k_is); (case go3 => k_is); (case ue3_4 => k_is); (case un2 => k_is); (case us0_2 => k_is); (case us1_2 => k_is); (case us2_2 => k_is); (case us3_2 => k_is); (case ud0_2 => decide); (case ud1_2 => decide); (case ud3_2 => decide); (case un0 => k_is); (case us0_0 => k_is); (case us1_0 => k_is); (case us2_0 => k_is); (case us3_0 => k_is); (case ud1_0 => decide); (case ud2_0 => decide); (case ud3_0 => decide); (case un1 => k_is); (case us0_1 => k_is); (case us1_1 => k_is); (case us2_1 => k_is); (case us3_1 => k_is); (case ud0_1 => decide); (case ud2_1 => decide); (case ud3_1 => decide); (case un3 => k_is); (case us0_3 => k_is); (case us1_3 => k_is); (case us2_3 => k_is); (case us3_3 => k_is); (case ud0_3 => decide); (case ud1_3 => decide); (case ud2_3 => decide)

