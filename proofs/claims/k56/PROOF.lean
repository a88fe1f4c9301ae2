import PyProof.Rows.All
import Wide.All
import OpenK.AllK
import Wide.FinOn
import KE.KStateDown
import Lean
import HandS.ForMost
import HandS.ForExc
import HandS.More
import HandS.ExcInit
import HandS.IsInst
import HandS.Deep
import HandS.SetFor
import HandS.TupAny
import HandS.TupMul
import HandS.TupLe
import HandS.Style
import HandS.Zip
import HandS.DictTup
import HandS.Defaults
import HandS.Head0
import HandS.Head1
import HandS.Head2
import HandS.HeadEnd
import HandS.HeadHook1
import HandS.HeadHook2
import HandS.Conv
import PySem.Challenge.RW_tabletalk_k56_whole_removals_by_whomever
set_option Elab.async false
set_option linter.all false
set_option autoImplicit false
set_option maxRecDepth 100000
set_option maxHeartbeats 0
/-! # A mirror of a Python program as plain Lean functions over data, tied to the hand layer's judgements. -/
namespace Mir
open PySem PySem.Spec PyProof.Rows L2

/-! ### values, cells, results -/
inductive W where
  | p (d : PyData)
  | ro (ds : List PyData)
  | loc (n : Nat)
  | tw (ws : List W)
inductive Cell where
  | lst (ws : List W)
  | dct (kvs : List (PyData × W))
  | ins (C : Str) (fs : List (Str × W))
abbrev Hm := List Cell
structure Exn where
  cls : Str
  fs : List (Str × W)
inductive Res (α : Type) where
  | stuck
  | ok (a : α) (m : Hm)
  | exc (x : Exn) (m : Hm)
abbrev Ev := List (Option W)
abbrev EX (α : Type) := Ev → Hm → Res α
def Res.bind {α β : Type} : Res α → (α → Hm → Res β) → Res β
  | .stuck, _ => .stuck
  | .ok a m, k => k a m
  | .exc x m, _ => .exc x m
@[simp] theorem bind_stuck {α β : Type} {k : α → Hm → Res β} : (Res.stuck : Res α).bind k = .stuck := rfl
@[simp] theorem bind_ok {α β : Type} {a : α} {m : Hm} {k : α → Hm → Res β} : (Res.ok a m).bind k = k a m := rfl
@[simp] theorem bind_exc {α β : Type} {x : Exn} {m : Hm} {k : α → Hm → Res β} : (Res.exc x m : Res α).bind k = .exc x m := rfl

/-- where the cells stand (rho), which further objects are out of reach, and what they hold (fb) -/
structure Cfg where
  fb : List (Addr × HO)
  rho : List Addr
abbrev Cfg.fa (c : Cfg) : List Addr := c.fb.map (·.1)

def TupAt (K : PySem.W.Frag) (c : Cfg) (H : Hp) (a : Addr) (xs : List V) : Prop :=
  (Rd H a (.tup xs) ∧ a ∉ c.fa ∧ a ∉ c.rho) ∨
    ∃ (o : Obj) (its : Array Value) (n : Nat), K.lookup a = some o ∧ o.cls = .type "tuple" ∧ o.data = .seq its n ∧ its.size ≤ sizeLine ∧ Vals xs its.toList
def LstAt (K : PySem.W.Frag) (c : Cfg) (H : Hp) (a : Addr) (xs : List V) : Prop :=
  (Rd H a (.lst xs) ∧ a ∉ c.fa ∧ a ∉ c.rho) ∨
    ∃ (o : Obj) (its : Array Value) (n : Nat), K.lookup a = some o ∧ o.cls = .type "list" ∧ o.dict = none ∧ o.data = .seq its n ∧ its.size ≤ sizeLine ∧ Vals xs its.toList

/-! ### what stands for what -/
mutual
inductive Rp (K : PySem.W.Frag) (c : Cfg) (H : Hp) : V → PyData → Prop
  | non : Rp K c H .non .none
  | bl (b : Bool) : Rp K c H (.bl b) (.bool b)
  | int (i : Int) : Rp K c H (.int i) (.int i)
  | str (x : Str) : Rp K c H (.str x) (.str x)
  | lst {a : Addr} {xs : List V} {ds : List PyData} : H a = some (.lst xs) → a ∉ c.fa → a ∉ c.rho → xs.length ≤ sizeLine → RpAll K c H xs ds → Rp K c H (.ref a) (.list ds)
  | tup {a : Addr} {xs : List V} {ds : List PyData} : TupAt K c H a xs → xs.length ≤ sizeLine → RpAll K c H xs ds → Rp K c H (.ref a) (.tuple ds)
inductive RpAll (K : PySem.W.Frag) (c : Cfg) (H : Hp) : List V → List PyData → Prop
  | nil : RpAll K c H [] []
  | cons {v : V} {vs : List V} {d : PyData} {ds : List PyData} : Rp K c H v d → RpAll K c H vs ds → RpAll K c H (v :: vs) (d :: ds)
end
mutual
inductive RpW (K : PySem.W.Frag) (c : Cfg) (H : Hp) : V → W → Prop
  | p {v : V} {d : PyData} : Rp K c H v d → RpW K c H v (.p d)
  | ro {a : Addr} {xs : List V} {ds : List PyData} : LstAt K c H a xs → xs.length ≤ sizeLine → RpAll K c H xs ds → RpW K c H (.ref a) (.ro ds)
  | loc {a : Addr} {n : Nat} : c.rho[n]? = some a → RpW K c H (.ref a) (.loc n)
  | tw {a : Addr} {xs : List V} {ws : List W} : TupAt K c H a xs → xs.length ≤ sizeLine → RpWs K c H xs ws → RpW K c H (.ref a) (.tw ws)
inductive RpWs (K : PySem.W.Frag) (c : Cfg) (H : Hp) : List V → List W → Prop
  | nil : RpWs K c H [] []
  | cons {v : V} {vs : List V} {d : W} {ds : List W} : RpW K c H v d → RpWs K c H vs ds → RpWs K c H (v :: vs) (d :: ds)
end

/-! ### growing -/
/-- what is needed for values to stay as they are -/
structure Sub (c : Cfg) (H : Hp) (c' : Cfg) (H' : Hp) : Prop where
  at_ : ∀ (n : Nat) (a : Addr), c.rho[n]? = some a → c'.rho[n]? = some a
  keep : ∀ a o, H a = some o → a ∉ c.fa → a ∉ c.rho → H' a = some o ∧ a ∉ c'.fa ∧ a ∉ c'.rho
structure Ext (c : Cfg) (H : Hp) (c' : Cfg) (H' : Hp) : Prop where
  fb : ∃ l, c'.fb = l ++ c.fb ∧ ∀ p ∈ l, H p.1 = none
  rho : ∃ l, c'.rho = c.rho ++ l ∧ ∀ a ∈ l, H a = none
  keep : ∀ a o, H a = some o → a ∉ c.fa → a ∉ c.rho → H' a = some o
  live : ∀ a, H' a = none → H a = none
theorem Ext.refl {c : Cfg} {H : Hp} : Ext c H c H := ⟨⟨[], by simp, fun _ h => nomatch h⟩, ⟨[], by simp, fun _ h => nomatch h⟩, fun _ _ h _ _ => h, fun _ h => h⟩
section
variable {K : PySem.W.Frag} {c c' c2 : Cfg} {H H' H2 : Hp} {m : Hm}
theorem Ext.notin (e : Ext c H c' H') {a : Addr} {o : HO} (h : H a = some o) (n : a ∉ c.rho) : a ∉ c'.rho := by
  obtain ⟨l, hl, hn⟩ := e.rho
  rw [hl]
  intro q
  rcases List.mem_append.mp q with q | q
  · exact n q
  · rw [hn a q] at h; cases h
theorem Ext.notfa (e : Ext c H c' H') {a : Addr} {o : HO} (h : H a = some o) (n : a ∉ c.fa) : a ∉ c'.fa := by
  obtain ⟨l, hl, hn⟩ := e.fb
  intro q
  obtain ⟨p, hp, rfl⟩ := List.mem_map.mp q
  rw [hl] at hp
  rcases List.mem_append.mp hp with q | q
  · rw [hn p q] at h; cases h
  · exact n (List.mem_map.mpr ⟨p, q, rfl⟩)
theorem Ext.sub_fb (e : Ext c H c' H') : ∀ p ∈ c.fb, p ∈ c'.fb := fun p hp => by
  obtain ⟨l, hl, hn⟩ := e.fb
  rw [hl]; exact List.mem_append_right _ hp
theorem Ext.at (e : Ext c H c' H') {n : Nat} {a : Addr} (h : c.rho[n]? = some a) : c'.rho[n]? = some a := by
  obtain ⟨l, hl, _⟩ := e.rho
  rw [hl, List.getElem?_append_left (List.getElem?_eq_some_iff.mp h).1]
  exact h
theorem Ext.sub (e : Ext c H c' H') : Sub c H c' H' := ⟨fun _ _ => e.at, fun a o h n n2 => ⟨e.keep a o h n n2, e.notfa h n, e.notin h n2⟩⟩
theorem Ext.trans (e : Ext c H c' H') (f : Ext c' H' c2 H2) : Ext c H c2 H2 := by
  obtain ⟨l, hl, hn⟩ := e.rho
  obtain ⟨l', hl', hn'⟩ := f.rho
  obtain ⟨k, hk, kn⟩ := e.fb
  obtain ⟨k', hk', kn'⟩ := f.fb
  refine ⟨⟨k' ++ k, by rw [hk', hk, List.append_assoc], fun p hp => ?_⟩, ⟨l ++ l', by rw [hl', hl, List.append_assoc], fun a ha => ?_⟩, fun a o h n n2 => f.keep a o (e.keep a o h n n2) (e.notfa h n) (e.notin h n2), fun a h => e.live a (f.live a h)⟩
  · rcases List.mem_append.mp hp with q | q
    · exact e.live _ (kn' p q)
    · exact kn p q
  · rcases List.mem_append.mp ha with q | q
    · exact hn a q
    · exact e.live a (hn' a q)
theorem Rd.some {H : Hp} {a : Addr} {u : HO} (h : Rd H a u) : ∃ o, H a = some o ∧ ∀ H' : Hp, H' a = some o → Rd H' a u := by
  rcases h with h | ⟨o, h⟩
  · exact ⟨_, h, fun _ q => .inl q⟩
  · exact ⟨_, h, fun _ q => .inr ⟨o, q⟩⟩
theorem TupAt.sub (e : Sub c H c' H') {a : Addr} {xs : List V} (h : TupAt K c H a xs) : TupAt K c' H' a xs := by
  rcases h with ⟨h, n, n2⟩ | h
  · obtain ⟨o, ho, hr⟩ := Mir.Rd.some h
    obtain ⟨q, n', n2'⟩ := e.keep a o ho n n2
    exact .inl ⟨hr _ q, n', n2'⟩
  · exact .inr h
theorem LstAt.sub (e : Sub c H c' H') {a : Addr} {xs : List V} (h : LstAt K c H a xs) : LstAt K c' H' a xs := by
  rcases h with ⟨h, n, n2⟩ | h
  · obtain ⟨o, ho, hr⟩ := Mir.Rd.some h
    obtain ⟨q, n', n2'⟩ := e.keep a o ho n n2
    exact .inl ⟨hr _ q, n', n2'⟩
  · exact .inr h
theorem TupAt.sq {a : Addr} {xs : List V} (h : TupAt K c H a xs) : SqT K H a xs := by
  rcases h with ⟨h, _⟩ | h
  · exact .inl h
  · exact .inr h
theorem LstAt.sq {a : Addr} {xs : List V} (h : LstAt K c H a xs) : SqL K H a xs := by
  rcases h with ⟨h, _⟩ | h
  · exact .inl h
  · exact .inr h
mutual
theorem Rp.sub (e : Sub c H c' H') : ∀ {v : V} {d : PyData}, Rp K c H v d → Rp K c' H' v d
  | _, _, .non => .non
  | _, _, .bl b => .bl b
  | _, _, .int i => .int i
  | _, _, .str x => .str x
  | _, _, .lst h n n2 z r => .lst (e.keep _ _ h n n2).1 (e.keep _ _ h n n2).2.1 (e.keep _ _ h n n2).2.2 z (RpAll.sub e r)
  | _, _, .tup h z r => .tup (h.sub e) z (RpAll.sub e r)
theorem RpAll.sub (e : Sub c H c' H') : ∀ {vs : List V} {ds : List PyData}, RpAll K c H vs ds → RpAll K c' H' vs ds
  | _, _, .nil => .nil
  | _, _, .cons r t => .cons (Rp.sub e r) (RpAll.sub e t)
end
mutual
theorem RpW.sub (e : Sub c H c' H') : ∀ {v : V} {w : W}, RpW K c H v w → RpW K c' H' v w
  | _, _, .p r => .p (r.sub e)
  | _, _, .ro h z r => .ro (h.sub e) z (r.sub e)
  | _, _, .loc h => .loc (e.at_ _ _ h)
  | _, _, .tw h z r => .tw (h.sub e) z (RpWs.sub e r)
theorem RpWs.sub (e : Sub c H c' H') : ∀ {vs : List V} {ws : List W}, RpWs K c H vs ws → RpWs K c' H' vs ws
  | _, _, .nil => .nil
  | _, _, .cons r t => .cons (RpW.sub e r) (RpWs.sub e t)
end
theorem Rp.mono (e : Ext c H c' H') {v : V} {d : PyData} (r : Rp K c H v d) : Rp K c' H' v d := r.sub e.sub
theorem RpAll.mono (e : Ext c H c' H') {v : List V} {d : List PyData} (r : RpAll K c H v d) : RpAll K c' H' v d := r.sub e.sub
theorem RpW.mono (e : Ext c H c' H') {v : V} {d : W} (r : RpW K c H v d) : RpW K c' H' v d := r.sub e.sub
theorem RpWs.mono (e : Ext c H c' H') {v : List V} {d : List W} (r : RpWs K c H v d) : RpWs K c' H' v d := r.sub e.sub
theorem RpAll.length : ∀ {vs : List V} {ds : List PyData}, RpAll K c H vs ds → vs.length = ds.length
  | _, _, .nil => rfl
  | _, _, .cons _ t => by simp [RpAll.length t]
theorem RpWs.length : ∀ {vs : List V} {ds : List W}, RpWs K c H vs ds → vs.length = ds.length
  | _, _, .nil => rfl
  | _, _, .cons _ t => by simp [RpWs.length t]
theorem RpAll.get : ∀ {vs : List V} {ds : List PyData} {i : Nat} {d : PyData}, RpAll K c H vs ds → ds[i]? = some d → ∃ v, vs[i]? = some v ∧ Rp K c H v d
  | _, _, _, _, .nil, h => by simp at h
  | _, _, 0, _, .cons r t, h => by simp at h; subst h; exact ⟨_, rfl, r⟩
  | _, _, i + 1, _, .cons r t, h => by
    obtain ⟨v, e, q⟩ := RpAll.get (i := i) t (by simpa using h)
    exact ⟨v, by simpa using e, q⟩
theorem RpWs.get : ∀ {vs : List V} {ds : List W} {i : Nat} {d : W}, RpWs K c H vs ds → ds[i]? = some d → ∃ v, vs[i]? = some v ∧ RpW K c H v d
  | _, _, _, _, .nil, h => by simp at h
  | _, _, 0, _, .cons r t, h => by simp at h; subst h; exact ⟨_, rfl, r⟩
  | _, _, i + 1, _, .cons r t, h => by
    obtain ⟨v, e, q⟩ := RpWs.get (i := i) t (by simpa using h)
    exact ⟨v, by simpa using e, q⟩
theorem RpAll.toWs : ∀ {vs : List V} {ds : List PyData}, RpAll K c H vs ds → RpWs K c H vs (ds.map W.p)
  | _, _, .nil => .nil
  | _, _, .cons r t => .cons (.p r) (RpAll.toWs t)
theorem RpAll.append : ∀ {vs vs' : List V} {ds ds' : List PyData}, RpAll K c H vs ds → RpAll K c H vs' ds' → RpAll K c H (vs ++ vs') (ds ++ ds')
  | _, _, _, _, .nil, t => t
  | _, _, _, _, .cons r t, t' => .cons r (RpAll.append t t')
theorem RpWs.append : ∀ {vs vs' : List V} {ds ds' : List W}, RpWs K c H vs ds → RpWs K c H vs' ds' → RpWs K c H (vs ++ vs') (ds ++ ds')
  | _, _, _, _, .nil, t => t
  | _, _, _, _, .cons r t, t' => .cons r (RpWs.append t t')
theorem RpAll.take : ∀ {vs : List V} {ds : List PyData} (n : Nat), RpAll K c H vs ds → RpAll K c H (vs.take n) (ds.take n)
  | _, _, 0, _ => .nil
  | _, _, _ + 1, .nil => .nil
  | _, _, n + 1, .cons r t => .cons r (RpAll.take n t)
theorem RpAll.drop : ∀ {vs : List V} {ds : List PyData} (n : Nat), RpAll K c H vs ds → RpAll K c H (vs.drop n) (ds.drop n)
  | _, _, 0, t => t
  | _, _, _ + 1, .nil => .nil
  | _, _, n + 1, .cons r t => RpAll.drop n t
theorem RpWs.take : ∀ {vs : List V} {ds : List W} (n : Nat), RpWs K c H vs ds → RpWs K c H (vs.take n) (ds.take n)
  | _, _, 0, _ => .nil
  | _, _, _ + 1, .nil => .nil
  | _, _, n + 1, .cons r t => .cons r (RpWs.take n t)
theorem RpWs.drop : ∀ {vs : List V} {ds : List W} (n : Nat), RpWs K c H vs ds → RpWs K c H (vs.drop n) (ds.drop n)
  | _, _, 0, t => t
  | _, _, _ + 1, .nil => .nil
  | _, _, n + 1, .cons r t => RpWs.drop n t
theorem RpWs.set : ∀ {vs : List V} {ds : List W} (n : Nat) {v : V} {d : W}, RpW K c H v d → RpWs K c H vs ds → RpWs K c H (vs.set n v) (ds.set n d)
  | _, _, _, _, _, _, .nil => .nil
  | _, _, 0, _, _, r, .cons _ t => .cons r t
  | _, _, n + 1, _, _, r, .cons q t => .cons q (RpWs.set n r t)
theorem RpWs.eraseIdx : ∀ {vs : List V} {ds : List W} (n : Nat), RpWs K c H vs ds → RpWs K c H (vs.eraseIdx n) (ds.eraseIdx n)
  | _, _, _, .nil => .nil
  | _, _, 0, .cons _ t => t
  | _, _, n + 1, .cons q t => .cons q (RpWs.eraseIdx n t)
theorem RpAll.reverse {vs : List V} {ds : List PyData} (h : RpAll K c H vs ds) : RpAll K c H vs.reverse ds.reverse := by
  induction vs generalizing ds with
  | nil => cases h; exact .nil
  | cons v vs ih =>
    cases h with
    | cons r t =>
      rw [List.reverse_cons, List.reverse_cons]
      exact RpAll.append (ih t) (.cons r .nil)
/-- plain data among values: all of it plain? -/
def allP : List W → Option (List PyData)
  | [] => some []
  | .p d :: r => (allP r).map (d :: ·)
  | _ :: _ => none
theorem allP_rp : ∀ {vs : List V} {ws : List W} {ds : List PyData}, RpWs K c H vs ws → allP ws = some ds → RpAll K c H vs ds
  | _, _, _, .nil, e => by cases e; exact .nil
  | _, _, ds, .cons (.p r) t, e => by
    unfold allP at e
    obtain ⟨ds', e', rfl⟩ := Option.map_eq_some_iff.mp e
    exact .cons r (allP_rp t e')
  | _, _, _, .cons (.ro _ _ _) t, e => by cases e
  | _, _, _, .cons (.loc _) t, e => by cases e
  | _, _, _, .cons (.tw _ _ _) t, e => by cases e
@[simp] theorem allP_nil : allP [] = some [] := rfl
@[simp] theorem allP_cons (d : PyData) (r : List W) : allP (.p d :: r) = (allP r).map (d :: ·) := rfl
@[simp] theorem allP_map (ds : List PyData) : allP (ds.map W.p) = some ds := by
  induction ds with
  | nil => rfl
  | cons d r ih => simp [ih]

/-! ### the cells -/
def CellOk (K : PySem.W.Frag) (c : Cfg) (H : Hp) (a : Addr) : Cell → Prop
  | .lst ws => ∃ xs, H a = some (.lst xs) ∧ xs.length ≤ sizeLine ∧ RpWs K c H xs ws
  | .dct _ => False
  | .ins _ _ => False
structure HRel (K : PySem.W.Frag) (c : Cfg) (m : Hm) (H : Hp) : Prop where
  len : c.rho.length = m.length
  nd : c.rho.Nodup
  fb : ∀ p ∈ c.fb, H p.1 = some p.2
  dj : ∀ a ∈ c.fa, a ∉ c.rho
  at_ : ∀ (n : Nat) (x : Cell), m[n]? = some x → ∃ a, c.rho[n]? = some a ∧ CellOk K c H a x
def SRel (K : PySem.W.Frag) (c : Cfg) (H : Hp) (s : Ev) (σ : L2.St) : Prop :=
  s.length = σ.length ∧ ∀ (i : Nat) (w : W), s[i]? = some (some w) → ∃ v, σ[i]? = some (some v) ∧ RpW K c H v w
theorem CellOk.live {a : Addr} {x : Cell} (h : CellOk K c H a x) : H a ≠ none := by
  cases x with
  | lst ws => obtain ⟨xs, e, _⟩ := h; rw [e]; simp
  | dct => exact h.elim
  | ins => exact h.elim
theorem HRel.live (h : HRel K c m H) {a : Addr} (ha : a ∈ c.rho) : H a ≠ none := by
  obtain ⟨n, hn, e⟩ := List.mem_iff_getElem.mp ha
  have hm : n < m.length := by rw [← h.len]; exact hn
  obtain ⟨b, hb, ok⟩ := h.at_ n _ (List.getElem?_eq_getElem hm)
  rw [List.getElem?_eq_getElem hn, e] at hb
  cases hb
  exact ok.live
theorem HRel.fas (h : HRel K c m H) {a : Addr} (ha : a ∈ c.fa) : ∃ o, H a = some o := by
  obtain ⟨p, hp, rfl⟩ := List.mem_map.mp ha
  exact ⟨_, h.fb p hp⟩
theorem SRel.sub (e : Sub c H c' H') {s : Ev} {σ : L2.St} (h : SRel K c H s σ) : SRel K c' H' s σ :=
  ⟨h.1, fun i w q => let ⟨v, e1, r⟩ := h.2 i w q; ⟨v, e1, r.sub e⟩⟩
theorem SRel.mono (e : Ext c H c' H') {s : Ev} {σ : L2.St} (h : SRel K c H s σ) : SRel K c' H' s σ := h.sub e.sub
theorem SRel.set {s : Ev} {σ : L2.St} (h : SRel K c H s σ) {i : Nat} {w : W} {v : V} (r : RpW K c H v w) : SRel K c H (s.set i (some w)) (σ.set i (some v)) := by
  refine ⟨by simp [h.1], fun j w' q => ?_⟩
  by_cases e : i = j
  · subst e
    by_cases hi : i < s.length
    · rw [List.getElem?_set_self hi] at q
      cases q
      exact ⟨v, by rw [List.getElem?_set_self (by rw [← h.1]; exact hi)], r⟩
    · rw [List.getElem?_eq_none (by simpa using hi)] at q; cases q
  · rw [List.getElem?_set_ne e] at q
    obtain ⟨v', e1, r'⟩ := h.2 j w' q
    exact ⟨v', by rw [List.getElem?_set_ne e]; exact e1, r'⟩
theorem SRel.forget {s s' : Ev} {σ : L2.St} (h : SRel K c H s σ) (hl : s'.length = s.length) (hf : ∀ (i : Nat) (w : W), s'[i]? = some (some w) → s[i]? = some (some w)) : SRel K c H s' σ :=
  ⟨hl.trans h.1, fun i w q => h.2 i w (hf i w q)⟩
/-- a new object that is out of the cells -/
theorem Ext.new {p : Addr} {o : HO} (hp : H p = none) : Ext c H c (upd H p o) := by
  refine ⟨⟨[], by simp, fun _ h => nomatch h⟩, ⟨[], by simp, fun _ h => nomatch h⟩, fun a u h _ _ => ?_, fun a h => ?_⟩
  · rw [upd_ne (ne_of_none h hp)]; exact h
  · by_cases e : a = p
    · subst e; exact hp
    · rw [upd_ne e] at h; exact h
theorem CellOk.sub (e : Sub c H c' H') {a : Addr} {x : Cell} (h : CellOk K c H a x) (ha : H' a = H a) : CellOk K c' H' a x := by
  cases x with
  | lst ws => obtain ⟨xs, e1, z, r⟩ := h; exact ⟨xs, ha.trans e1, z, r.sub e⟩
  | dct => exact h.elim
  | ins => exact h.elim
/-- the cells stay, the rest may grow -/
theorem HRel.sub (h : HRel K c m H) (e : Sub c H c' H') (er : c'.rho = c.rho) (same : ∀ a ∈ c.rho, H' a = H a) (fb : ∀ p ∈ c'.fb, H' p.1 = some p.2) (dj : ∀ a ∈ c'.fa, a ∉ c.rho) : HRel K c' m H' := by
  refine ⟨by rw [er]; exact h.len, by rw [er]; exact h.nd, fb, by rw [er]; exact dj, fun n x hx => ?_⟩
  obtain ⟨a, ha, ok⟩ := h.at_ n x hx
  exact ⟨a, by rw [er]; exact ha, ok.sub e (same a (List.mem_of_getElem? ha))⟩
theorem HRel.new (h : HRel K c m H) {p : Addr} {o : HO} (hp : H p = none) : HRel K c m (upd H p o) :=
  h.sub (Ext.new hp).sub rfl (fun a ha => upd_ne fun e => by subst e; exact h.live ha hp) (fun q hq => by
    rw [upd_ne fun e => by have := h.fb q hq; rw [e, hp] at this; cases this]
    exact h.fb q hq) h.dj
theorem HRel.free (h : HRel K c m H) {p : Addr} (hp : H p = none) : p ∉ c.fa ∧ p ∉ c.rho := by
  refine ⟨fun q => ?_, fun q => h.live q hp⟩
  obtain ⟨o, e⟩ := h.fas q
  rw [hp] at e
  cases e
/-- a new cell -/
theorem Ext.cell {p : Addr} {o : HO} (hp : H p = none) : Ext c H ⟨c.fb, c.rho ++ [p]⟩ (upd H p o) := by
  refine ⟨⟨[], by simp, fun _ h => nomatch h⟩, ⟨[p], rfl, fun a ha => by simp at ha; subst ha; exact hp⟩, fun a u h _ _ => ?_, fun a h => ?_⟩
  · rw [upd_ne (ne_of_none h hp)]; exact h
  · by_cases e : a = p
    · subst e; exact hp
    · rw [upd_ne e] at h; exact h
theorem HRel.cell (h : HRel K c m H) {p : Addr} {o : HO} {x : Cell} (hp : H p = none) (ok : CellOk K ⟨c.fb, c.rho ++ [p]⟩ (upd H p o) p x) : HRel K ⟨c.fb, c.rho ++ [p]⟩ (m ++ [x]) (upd H p o) := by
  have e : Ext c H ⟨c.fb, c.rho ++ [p]⟩ (upd H p o) := Ext.cell hp
  have fr := h.free hp
  refine ⟨by simp [h.len], ?_, fun q hq => ?_, fun a ha q => ?_, fun n y hy => ?_⟩
  · rw [List.nodup_append]
    exact ⟨h.nd, by simp, fun a ha b hb => by simp at hb; subst hb; intro q; subst q; exact fr.2 ha⟩
  · rw [upd_ne fun e => by have := h.fb q hq; rw [e, hp] at this; cases this]
    exact h.fb q hq
  · rcases List.mem_append.mp q with q | q
    · exact h.dj a ha q
    · simp at q; subst q; exact fr.1 ha
  · by_cases hn : n < m.length
    · rw [List.getElem?_append_left hn] at hy
      obtain ⟨a, ha, ok'⟩ := h.at_ n y hy
      exact ⟨a, e.at ha, ok'.sub e.sub (upd_ne fun q => by subst q; exact ok'.live hp)⟩
    · rw [List.getElem?_append_right (by omega)] at hy
      have hl : n - m.length = 0 := by
        cases q : n - m.length with
        | zero => rfl
        | succ k => rw [q] at hy; simp at hy
      rw [hl] at hy
      simp at hy
      subst hy
      have hn' : n = c.rho.length := by have := h.len; omega
      exact ⟨p, by subst hn'; simp, ok⟩
/-- a cell is written -/
theorem Ext.write {a : Addr} {o : HO} {n : Nat} (ha : c.rho[n]? = some a) : Ext c H c (upd H a o) := by
  refine ⟨⟨[], by simp, fun _ h => nomatch h⟩, ⟨[], by simp, fun _ h => nomatch h⟩, fun b u h _ nb => ?_, fun b h => ?_⟩
  · rw [upd_ne fun e => by subst e; exact nb (List.mem_of_getElem? ha)]; exact h
  · by_cases e : b = a
    · subst e; rw [upd_same] at h; cases h
    · rw [upd_ne e] at h; exact h
theorem HRel.write (h : HRel K c m H) {a : Addr} {o : HO} {n : Nat} {x : Cell} (ha : c.rho[n]? = some a) (ok : CellOk K c (upd H a o) a x) : HRel K c (m.set n x) (upd H a o) := by
  have e : Ext c H c (upd H a o) := Ext.write ha
  refine ⟨by simp [h.len], h.nd, fun p hp => ?_, h.dj, fun k y hy => ?_⟩
  · rw [upd_ne fun e => h.dj p.1 (List.mem_map.mpr ⟨p, hp, rfl⟩) (by rw [e]; exact List.mem_of_getElem? ha)]
    exact h.fb p hp
  · by_cases hk : n = k
    · subst hk
      have hn : n < m.length := by rw [← h.len]; exact (List.getElem?_eq_some_iff.mp ha).1
      rw [List.getElem?_set_self hn] at hy
      cases hy
      exact ⟨a, ha, ok⟩
    · rw [List.getElem?_set_ne hk] at hy
      obtain ⟨b, hb, ok'⟩ := h.at_ k y hy
      refine ⟨b, hb, ok'.sub e.sub (upd_ne fun q => ?_)⟩
      subst q
      exact hk ((List.getElem?_inj (List.getElem?_eq_some_iff.mp ha).1 h.nd).mp (ha.trans hb.symm))
end

/-! ### readings -/
/-- what stands of an exception -/
def XRel (K : PySem.W.Frag) (c : Cfg) (H : Hp) (x : Exn) (cls : Value) (dx : Option Addr) : Prop :=
  cls = .ref (He.ga K x.cls) ∧ ∃ (d : Addr) (fs : List (Str × V)), dx = some d ∧ H d = some (.xd fs) ∧ fs.map (·.1) = x.fs.map (·.1) ∧ RpWs K c H (fs.map (·.2)) (x.fs.map (·.2))
def Post (K : PySem.W.Frag) (U : WX) (σ : L2.St) (c : Cfg) (H : Hp) {α : Type} (R : Cfg → Hp → α → Hm → Prop) : Res α → Prop
  | .stuck => False
  | .ok a m' => ∀ c' H', Ext c H c' H' → HRel K c' m' H' → R c' H' a m'
  | .exc x m' => ∀ c' H' cls dx, Ext c H c' H' → HRel K c' m' H' → XRel K c' H' x cls dx → U cls dx σ H'
/-- the wish of a value -/
abbrev RQ (K : PySem.W.Frag) (Q : VK) : Cfg → Hp → W → Hm → Prop := fun c' H' w _ => ∀ v, RpW K c' H' v w → Q v H'
def T (K : PySem.W.Frag) (U : WX) (f : EX W) : TE := fun σ H Q => ∃ c s m, SRel K c H s σ ∧ HRel K c m H ∧ Post K U σ c H (RQ K Q) (f s m)
def TB (K : PySem.W.Frag) (U : WX) (f : EX Bool) : TT := fun σ H Q => ∃ c s m, SRel K c H s σ ∧ HRel K c m H ∧ Post K U σ c H (fun _ H' b _ => Q b H') (f s m)
def TL (K : PySem.W.Frag) (U : WX) (f : EX (List W)) : TA := fun σ H Q => ∃ c s m, SRel K c H s σ ∧ HRel K c m H ∧ Post K U σ c H (fun c' H' ws _ => ∀ vs, RpWs K c' H' vs ws → Q vs H') (f s m)
section
variable {K : PySem.W.Frag} {U : WX} {σ : L2.St} {c c1 : Cfg} {H H1 : Hp} {m : Hm} {s : Ev} {α : Type}
theorem Post.ext {R : Cfg → Hp → α → Hm → Prop} {r : Res α} (e : Ext c H c1 H1) (h : Post K U σ c H R r) : Post K U σ c1 H1 R r := by
  cases r with
  | stuck => exact h
  | ok a m' => exact fun c' H' e' hm => h c' H' (e.trans e') hm
  | exc x m' => exact fun c' H' cls dx e' hm xr => h c' H' cls dx (e.trans e') hm xr
theorem Post.ok {R : Cfg → Hp → α → Hm → Prop} {a : α} (h : Post K U σ c H R (.ok a m)) (hm : HRel K c m H) : R c H a m := h c H Ext.refl hm
theorem T.run {f : EX W} {k : W → Hm → Res α} {R : Cfg → Hp → α → Hm → Prop} {Z : VK} (hs : SRel K c H s σ) (hm : HRel K c m H) (hp : Post K U σ c H R ((f s m).bind k))
    (h : ∀ c1 H1 w m1 v, Ext c H c1 H1 → SRel K c1 H1 s σ → HRel K c1 m1 H1 → RpW K c1 H1 v w → Post K U σ c1 H1 R (k w m1) → Z v H1) : T K U f σ H Z := by
  refine ⟨c, s, m, hs, hm, ?_⟩
  cases e : f s m with
  | stuck => rw [e] at hp; exact hp
  | ok a m' =>
    rw [e] at hp
    exact fun c' H' e' hm' v rv => h c' H' a m' v e' (hs.mono e') hm' rv (hp.ext e')
  | exc x m' => rw [e] at hp; exact hp
theorem TB.run {f : EX Bool} {k : Bool → Hm → Res α} {R : Cfg → Hp → α → Hm → Prop} {Z : Bool → Hp → Prop} (hs : SRel K c H s σ) (hm : HRel K c m H) (hp : Post K U σ c H R ((f s m).bind k))
    (h : ∀ c1 H1 b m1, Ext c H c1 H1 → SRel K c1 H1 s σ → HRel K c1 m1 H1 → Post K U σ c1 H1 R (k b m1) → Z b H1) : TB K U f σ H Z := by
  refine ⟨c, s, m, hs, hm, ?_⟩
  cases e : f s m with
  | stuck => rw [e] at hp; exact hp
  | ok a m' =>
    rw [e] at hp
    exact fun c' H' e' hm' => h c' H' a m' e' (hs.mono e') hm' (hp.ext e')
  | exc x m' => rw [e] at hp; exact hp
theorem TL.run {f : EX (List W)} {k : List W → Hm → Res α} {R : Cfg → Hp → α → Hm → Prop} {Z : List V → Hp → Prop} (hs : SRel K c H s σ) (hm : HRel K c m H) (hp : Post K U σ c H R ((f s m).bind k))
    (h : ∀ c1 H1 ws m1 vs, Ext c H c1 H1 → SRel K c1 H1 s σ → HRel K c1 m1 H1 → RpWs K c1 H1 vs ws → Post K U σ c1 H1 R (k ws m1) → Z vs H1) : TL K U f σ H Z := by
  refine ⟨c, s, m, hs, hm, ?_⟩
  cases e : f s m with
  | stuck => rw [e] at hp; exact hp
  | ok a m' =>
    rw [e] at hp
    exact fun c' H' e' hm' vs rv => h c' H' a m' vs e' (hs.mono e') hm' rv (hp.ext e')
  | exc x m' => rw [e] at hp; exact hp
end
section
variable {X : Cx} {e : Expr}
theorem imp {t t' : TE} (h : PE X e t) (i : ∀ σ H Q, t' σ H Q → t σ H Q) : PE X e t' := ⟨fun pins s σ H Q I hw => h.run pins s σ H Q I (i σ H Q hw)⟩
theorem impT {t t' : TT} (h : PT X e t) (i : ∀ σ H Q, t' σ H Q → t σ H Q) : PT X e t' := ⟨fun pins s σ H Q I hw => h.run pins s σ H Q I (i σ H Q hw)⟩
theorem impA {es : List Expr} {t t' : TA} (h : PA X es t) (i : ∀ σ H Q, t' σ H Q → t σ H Q) : PA X es t' := ⟨fun pos pins s σ H Q I hw => h.run pos pins s σ H Q I (i σ H Q hw)⟩
theorem impS {st : Stmt} {t t' : TS} (h : PS X st t) (i : ∀ D σ H, t' D σ H → t D σ H) : PS X st t' := ⟨fun pins s σ H D I hw => h.run pins s σ H D I (i D σ H hw)⟩
theorem impSs {st : List Stmt} {t t' : TS} (h : PSs X st t) (i : ∀ D σ H, t' D σ H → t D σ H) : PSs X st t' := ⟨fun pins s σ H D I hw => h.run pins s σ H D I (i D σ H hw)⟩
end
end Mir

namespace Mir
open PySem PySem.Spec PyProof.Rows L2

/-! ### equality of data, decided -/
mutual
def beqP : PyData → PyData → Bool
  | .none, .none => true
  | .bool a, .bool b => a == b
  | .int i, .int j => i == j
  | .str x, .str y => x == y
  | .list xs, .list ys => beqPs xs ys
  | .tuple xs, .tuple ys => beqPs xs ys
  | .dict xs, .dict ys => beqKs xs ys
  | _, _ => false
def beqPs : List PyData → List PyData → Bool
  | [], [] => true
  | x :: xs, y :: ys => beqP x y && beqPs xs ys
  | _, _ => false
def beqKs : List (PyData × PyData) → List (PyData × PyData) → Bool
  | [], [] => true
  | (k, x) :: xs, (l, y) :: ys => beqP k l && (beqP x y && beqKs xs ys)
  | _, _ => false
end
mutual
theorem beqP_eq : ∀ (a b : PyData), beqP a b = true → a = b
  | .none, b, h => by cases b <;> simp_all [beqP]
  | .bool a, b, h => by cases b <;> simp_all [beqP]
  | .int i, b, h => by cases b <;> simp_all [beqP]
  | .str x, b, h => by cases b <;> simp_all [beqP]
  | .list xs, b, h => by
    cases b with
    | list ys => rw [beqPs_eq xs ys (by simpa [beqP] using h)]
    | _ => simp [beqP] at h
  | .tuple xs, b, h => by
    cases b with
    | tuple ys => rw [beqPs_eq xs ys (by simpa [beqP] using h)]
    | _ => simp [beqP] at h
  | .dict xs, b, h => by
    cases b with
    | dict ys => rw [beqKs_eq xs ys (by simpa [beqP] using h)]
    | _ => simp [beqP] at h
theorem beqPs_eq : ∀ (a b : List PyData), beqPs a b = true → a = b
  | [], b, h => by cases b <;> simp_all [beqPs]
  | x :: xs, b, h => by
    cases b with
    | nil => simp [beqPs] at h
    | cons y ys =>
      simp only [beqPs, Bool.and_eq_true] at h
      rw [beqP_eq x y h.1, beqPs_eq xs ys h.2]
theorem beqKs_eq : ∀ (a b : List (PyData × PyData)), beqKs a b = true → a = b
  | [], b, h => by cases b <;> simp_all [beqKs]
  | (k, x) :: xs, b, h => by
    cases b with
    | nil => simp [beqKs] at h
    | cons y ys =>
      obtain ⟨l, y⟩ := y
      simp only [beqKs, Bool.and_eq_true] at h
      rw [beqP_eq k l h.1, beqP_eq x y h.2.1, beqKs_eq xs ys h.2.2]
end
mutual
@[simp] theorem beqP_refl : ∀ (a : PyData), beqP a a = true
  | .none => rfl
  | .bool a => by simp [beqP]
  | .int i => by simp [beqP]
  | .str x => by simp [beqP]
  | .list xs => by simp only [beqP]; exact beqPs_refl xs
  | .tuple xs => by simp only [beqP]; exact beqPs_refl xs
  | .dict xs => by simp only [beqP]; exact beqKs_refl xs
@[simp] theorem beqPs_refl : ∀ (a : List PyData), beqPs a a = true
  | [] => rfl
  | x :: xs => by simp only [beqPs, beqP_refl x, beqPs_refl xs, Bool.and_self]
@[simp] theorem beqKs_refl : ∀ (a : List (PyData × PyData)), beqKs a a = true
  | [] => rfl
  | (k, x) :: xs => by simp only [beqKs, beqP_refl k, beqP_refl x, beqKs_refl xs, Bool.and_self]
end
mutual
def beqW : W → W → Bool
  | .p a, .p b => beqP a b
  | .ro a, .ro b => beqPs a b
  | .loc n, .loc k => n == k
  | .tw a, .tw b => beqWs a b
  | _, _ => false
def beqWs : List W → List W → Bool
  | [], [] => true
  | x :: xs, y :: ys => beqW x y && beqWs xs ys
  | _, _ => false
end
mutual
theorem beqW_eq : ∀ (a b : W), beqW a b = true → a = b
  | .p d, b, h => by
    cases b with
    | p e => rw [beqP_eq d e (by simpa [beqW] using h)]
    | _ => simp [beqW] at h
  | .ro d, b, h => by
    cases b with
    | ro e => rw [beqPs_eq d e (by simpa [beqW] using h)]
    | _ => simp [beqW] at h
  | .loc n, b, h => by cases b <;> simp_all [beqW]
  | .tw d, b, h => by
    cases b with
    | tw e => rw [beqWs_eq d e (by simpa [beqW] using h)]
    | _ => simp [beqW] at h
theorem beqWs_eq : ∀ (a b : List W), beqWs a b = true → a = b
  | [], b, h => by cases b <;> simp_all [beqWs]
  | x :: xs, b, h => by
    cases b with
    | nil => simp [beqWs] at h
    | cons y ys =>
      simp only [beqWs, Bool.and_eq_true] at h
      rw [beqW_eq x y h.1, beqWs_eq xs ys h.2]
end
mutual
@[simp] theorem beqW_refl : ∀ (a : W), beqW a a = true
  | .p d => by simp [beqW]
  | .ro d => by simp [beqW]
  | .loc n => by simp [beqW]
  | .tw d => by simp only [beqW]; exact beqWs_refl d
@[simp] theorem beqWs_refl : ∀ (a : List W), beqWs a a = true
  | [] => rfl
  | x :: xs => by simp only [beqWs, beqW_refl x, beqWs_refl xs, Bool.and_self]
end

/-! ### what may be read -/
def rd (m : Hm) : W → Option PyData
  | .p d => some d
  | .ro ds => some (.list ds)
  | .loc n => match m[n]? with
    | some (.lst ws) => (allP ws).map .list
    | _ => none
  | .tw ws => (allP ws).map .tuple
@[simp] theorem rd_p {m : Hm} {d : PyData} : rd m (.p d) = some d := rfl
section
variable {K : PySem.W.Frag} {c : Cfg} {H : Hp} {m : Hm}
mutual
theorem Rp.dp : ∀ {v : V} {d : PyData}, Rp K c H v d → Dp K H v d
  | _, _, .non => .non
  | _, _, .bl b => .bl b
  | _, _, .int i => .int i
  | _, _, .str x => .str x
  | _, _, .lst h _ _ _ r => .lst (SqL.of h) (RpAll.dp r)
  | _, _, .tup h _ r => .tup h.sq (RpAll.dp r)
theorem RpAll.dp : ∀ {vs : List V} {ds : List PyData}, RpAll K c H vs ds → DpAll K H vs ds
  | _, _, .nil => .nil
  | _, _, .cons r t => .cons (Rp.dp r) (RpAll.dp t)
end
/-- a list that is read, with its items -/
theorem rd_list {v : V} {w : W} {ds : List PyData} (hm : HRel K c m H) (r : RpW K c H v w) (e : rd m w = some (.list ds)) : ∃ a xs, v = .ref a ∧ SqL K H a xs ∧ RpAll K c H xs ds ∧ xs.length ≤ sizeLine := by
  cases r with
  | p r =>
    cases e
    cases r with
    | lst h n n2 z r => exact ⟨_, _, rfl, SqL.of h, r, z⟩
  | ro h z r => cases e; exact ⟨_, _, rfl, h.sq, r, z⟩
  | @loc a n h =>
    simp only [rd] at e
    cases q : m[n]? with
    | none => rw [q] at e; cases e
    | some x =>
      rw [q] at e
      cases x with
      | lst ws =>
        obtain ⟨ds', e', q'⟩ := Option.map_eq_some_iff.mp e
        cases q'
        obtain ⟨b, hb, xs, hx, z, rr⟩ := hm.at_ n _ q
        rw [h] at hb; cases hb
        exact ⟨_, _, rfl, SqL.of hx, allP_rp rr e', z⟩
      | dct => cases e
      | ins => cases e
  | tw h z r =>
    simp only [rd] at e
    obtain ⟨ds', e', q'⟩ := Option.map_eq_some_iff.mp e
    cases q'
theorem rd_tuple {v : V} {w : W} {ds : List PyData} (hm : HRel K c m H) (r : RpW K c H v w) (e : rd m w = some (.tuple ds)) : ∃ a xs, v = .ref a ∧ TupAt K c H a xs ∧ RpAll K c H xs ds ∧ xs.length ≤ sizeLine := by
  cases r with
  | p r =>
    cases e
    cases r with
    | tup h z r => exact ⟨_, _, rfl, h, r, z⟩
  | ro h z r => cases e
  | @loc a n h =>
    simp only [rd] at e
    cases q : m[n]? with
    | none => rw [q] at e; cases e
    | some x =>
      rw [q] at e
      cases x with
      | lst ws =>
        obtain ⟨ds', e', q'⟩ := Option.map_eq_some_iff.mp e
        cases q'
      | dct => cases e
      | ins => cases e
  | tw h z r =>
    simp only [rd] at e
    obtain ⟨ds', e', q'⟩ := Option.map_eq_some_iff.mp e
    cases q'
    exact ⟨_, _, rfl, h, allP_rp r e', z⟩
theorem rd_dp {v : V} {w : W} {d : PyData} (hm : HRel K c m H) (r : RpW K c H v w) (e : rd m w = some d) : Dp K H v d := by
  cases r with
  | p r => cases e; exact r.dp
  | ro h z r => cases e; exact .lst h.sq r.dp
  | @loc a n h =>
    have e0 := e
    simp only [rd] at e
    cases q : m[n]? with
    | none => rw [q] at e; cases e
    | some x =>
      rw [q] at e
      cases x with
      | lst ws =>
        obtain ⟨ds', e', q'⟩ := Option.map_eq_some_iff.mp e
        subst q'
        obtain ⟨a', xs, e1, h1, r1, _⟩ := rd_list hm (.loc h) e0
        cases e1
        exact .lst h1 r1.dp
      | dct => cases e
      | ins => cases e
  | tw h z r =>
    have e0 := e
    simp only [rd] at e
    obtain ⟨ds', e', q'⟩ := Option.map_eq_some_iff.mp e
    subst q'
    exact .tup h.sq (allP_rp r e').dp
end

/-! ### names, constants -/
def eVar (i : Nat) : EX W := fun s m => match s[i]? with
  | some (some w) => .ok w m
  | _ => .stuck
def eC (d : PyData) : EX W := fun _ m => .ok (.p d) m
section
variable {X : Cx} {U : WX} {pos : Pos}
theorem x_var (i : Nat) {x : Str} (hN : X.N[i]? = some x := by rfl) (hv : Vis X.env.scope x := by first | exact Or.inl rfl | exact Or.inr (Or.inl rfl) | exact Or.inr (Or.inr rfl)) (hd : (x == ("__debug__" : Str)) = false := by decide)
    (hcd : (x == ("__classdict__" : Str)) = false := by decide) : PE X (.Name x pos) (T X.K U (eVar i)) := by
  refine imp (pv i hN hv hd hcd) ?_
  rintro σ H Q ⟨c, s, m, hs, hm, hp⟩
  unfold eVar at hp
  split at hp
  · rename_i w e
    obtain ⟨v, hv, r⟩ := hs.2 i w e
    exact ⟨v, hv, hp.ok hm v r⟩
  · exact hp.elim
theorem x_const {d : PyData} {v : V} {e : Expr} (h : PE X e (tC v)) (r : ∀ c H, Rp X.K c H v d) : PE X e (T X.K U (eC d)) := by
  refine imp h ?_
  rintro σ H Q ⟨c, s, m, hs, hm, hp⟩
  exact hp.ok hm v (.p (r c H))
theorem x_int {i : Int} {j : Nat} : PE X (.Constant (.int i) j pos) (T X.K U (eC (.int i))) := x_const pe_int fun _ _ => .int i
theorem x_bl {b : Bool} {j : Nat} : PE X (.Constant (.bool b) j pos) (T X.K U (eC (.bool b))) := x_const pe_bl fun _ _ => .bl b
theorem x_non {j : Nat} : PE X (.Constant .none j pos) (T X.K U (eC .none)) := x_const pe_non fun _ _ => .non
theorem x_str {x : Str} {j : Nat} : PE X (.Constant (.str x) j pos) (T X.K U (eC (.str x))) := x_const pe_str fun _ _ => .str x
theorem x_gint {x : Str} {i : Int} (hm : ∃ t, X.mg x = some (.int i t)) (hg : Gl X x := by rfl) (hd : (x == ("__debug__" : Str)) = false := by decide) : PE X (.Name x pos) (T X.K U (eC (.int i))) := by
  obtain ⟨t, hm⟩ := hm
  exact x_const (pe_glob (v := .int i) hg hm ⟨t, rfl⟩ hd) fun _ _ => .int i
theorem x_gstr {x z : Str} (hm : ∃ t, X.mg x = some (.str z t)) (hg : Gl X x := by rfl) (hd : (x == ("__debug__" : Str)) = false := by decide) : PE X (.Name x pos) (T X.K U (eC (.str z))) := by
  obtain ⟨t, hm⟩ := hm
  exact x_const (pe_glob (v := .str z) hg hm ⟨t, rfl⟩ hd) fun _ _ => .str z
end

/-! ### two-place operations -/
def eOp2 (g : W → W → Hm → Res W) (f1 f2 : EX W) : EX W := fun s m => (f1 s m).bind fun a m1 => (f2 s m1).bind fun b m2 => g a b m2
def OpM (K : PySem.W.Frag) (r : R2) (g : W → W → Hm → Res W) : Prop := ∀ (U : WX) (σ : L2.St) (c : Cfg) (H : Hp) (m : Hm) (v1 v2 : V) (w1 w2 : W) (Q : VK),
  HRel K c m H → RpW K c H v1 w1 → RpW K c H v2 w2 → Post K U σ c H (RQ K Q) (g w1 w2 m) → r v1 v2 H Q
section
variable {X : Cx} {U : WX} {pos : Pos} {a b : Expr} {f1 f2 : EX W}
theorem t_op2 {K : PySem.W.Frag} {r : R2} {g : W → W → Hm → Res W} (hg : OpM K r g) {σ : L2.St} {H : Hp} {Q : VK} (h : T K U (eOp2 g f1 f2) σ H Q) : tOp r (T K U f1) (T K U f2) σ H Q := by
  obtain ⟨c, s, m, hs, hm, hp⟩ := h
  exact T.run hs hm hp fun c1 H1 w1 m1 v1 e1 hs1 hm1 r1 hp1 => T.run hs1 hm1 hp1 fun c2 H2 w2 m2 v2 e2 hs2 hm2 r2 hp2 => hg U σ c2 H2 m2 v1 v2 w1 w2 Q hm2 (r1.mono e2) r2 hp2
theorem x_op {op : Operator} {r : R2} {g : W → W → Hm → Res W} (ho : OpR X (binaryOp op) r) (hg : OpM X.K r g) (ha : PE X a (T X.K U f1)) (hb : PE X b (T X.K U f2)) : PE X (.BinOp a op b pos) (T X.K U (eOp2 g f1 f2)) :=
  imp (pe_op ho ha hb) fun _ _ _ h => t_op2 hg h
theorem x_cmp {op : CmpOp} {r : R2} {g : W → W → Hm → Res W} (ho : OpR X (compareOp op) r) (hg : OpM X.K r g) (ha : PE X a (T X.K U f1)) (hb : PE X b (T X.K U f2)) (hm : behindInMarks op b = false := by first | exact nomark _ | rfl | with_unfolding_all rfl) :
    PE X (.Compare a [op] [b] pos) (T X.K U (eOp2 g f1 f2)) := imp (pe_cmpR ho ha hb hm) fun _ _ _ h => t_op2 hg h
/-- by cases of the values: two rules for one operation -/
theorem OpM.or {K : PySem.W.Frag} {r r' : R2} {g : W → W → Hm → Res W} (h : ∀ (U : WX) (σ : L2.St) (c : Cfg) (H : Hp) (m : Hm) (v1 v2 : V) (w1 w2 : W) (Q : VK), HRel K c m H → RpW K c H v1 w1 → RpW K c H v2 w2 → Post K U σ c H (RQ K Q) (g w1 w2 m) → r v1 v2 H Q ∨ r' v1 v2 H Q) :
    OpM K (fun x y H Q => r x y H Q ∨ r' x y H Q) g := h
end
/-- ints in, an int out -/
def intM (C : Int → Int → Bool) (g : Int → Int → PyData) : W → W → Hm → Res W
  | .p (.int i), .p (.int j), m => if C i j = true then .ok (.p (g i j)) m else .stuck
  | _, _, _ => .stuck
@[simp] theorem intM_ii {C : Int → Int → Bool} {g : Int → Int → PyData} {i j : Int} {m : Hm} : intM C g (.p (.int i)) (.p (.int j)) m = if C i j = true then .ok (.p (g i j)) m else .stuck := rfl
theorem intM_ok {K : PySem.W.Frag} {C : Int → Int → Bool} {CP : Int → Int → Prop} {g : Int → Int → PyData} {gv : Int → Int → V} (hC : ∀ i j, C i j = true → CP i j) (hr : ∀ c H i j, Rp K c H (gv i j) (g i j)) : OpM K (rI CP gv) (intM C g) := by
  intro U σ c H m v1 v2 w1 w2 Q hm r1 r2 hp
  unfold intM at hp
  split at hp
  · rename_i i j
    cases r1 with | p r1 => cases r2 with | p r2 =>
    cases r1; cases r2
    split at hp
    · rename_i hc
      exact ⟨i, j, rfl, rfl, hC i j hc, hp.ok hm _ (.p (hr c H i j))⟩
    · exact hp.elim
  · exact hp.elim
theorem intM0_ok {K : PySem.W.Frag} {g : Int → Int → PyData} {gv : Int → Int → V} (hr : ∀ c H i j, Rp K c H (gv i j) (g i j)) : OpM K (rI0 gv) (intM (fun _ _ => true) g) := by
  intro U σ c H m v1 v2 w1 w2 Q hm r1 r2 hp
  obtain ⟨i, j, e1, e2, _, q⟩ := intM_ok (CP := fun _ _ => True) (fun _ _ _ => trivial) hr U σ c H m v1 v2 w1 w2 Q hm r1 r2 hp
  exact ⟨i, j, e1, e2, q⟩
def subM := intM (fun _ _ => true) fun i j => .int (i - j)
def smallI (i : Int) : Bool := decide (-(2 ^ 64) < i) && decide (i < 2 ^ 64)
def mulI := intM (fun i j => smallI i || smallI j) fun i j => .int (i * j)
def modM := intM (fun _ j => decide (0 < j)) fun i j => .int (i % j)
def divM := intM (fun _ j => decide (0 < j) && decide (j < 1073741824)) fun i j => .int (i / j)
def powM := intM (fun i j => decide (0 ≤ j) && (decide (j ≤ 1000000) && decide (i.natAbs < 2 ^ 64))) fun i j => .int (i ^ j.toNat)
theorem subM_ok {K : PySem.W.Frag} : OpM K (rI0 fun i j => .int (i - j)) subM := intM0_ok fun _ _ _ _ => .int _
theorem mulI_ok {K : PySem.W.Frag} : OpM K (rI CMul fun i j => .int (i * j)) mulI := intM_ok (fun i j h => by
  simp only [smallI, Bool.or_eq_true, Bool.and_eq_true, decide_eq_true_eq] at h
  exact h) fun _ _ _ _ => .int _
theorem modM_ok {K : PySem.W.Frag} : OpM K (rI (fun _ j => 0 < j) fun i j => .int (i % j)) modM := intM_ok (fun i j h => by simpa using h) fun _ _ _ _ => .int _
theorem divM_ok {K : PySem.W.Frag} : OpM K (rI CDiv fun i j => .int (i / j)) divM := intM_ok (fun i j h => by
  simp only [Bool.and_eq_true, decide_eq_true_eq] at h
  exact h) fun _ _ _ _ => .int _
theorem powM_ok {K : PySem.W.Frag} : OpM K (rI CPow fun i j => .int (i ^ j.toNat)) powM := intM_ok (fun i j h => by
  simp only [Bool.and_eq_true, decide_eq_true_eq] at h
  exact h) fun _ _ _ _ => .int _
def negM : W → Hm → Res W
  | .p (.int i), m => .ok (.p (.int (-i))) m
  | _, _ => .stuck
def eOp1 (g : W → Hm → Res W) (f : EX W) : EX W := fun s m => (f s m).bind g
theorem x_neg {X : Cx} {U : WX} {pos : Pos} {a : Expr} {f : EX W} (ha : PE X a (T X.K U f)) : PE X (.UnaryOp .USub a pos) (T X.K U (eOp1 negM f)) := by
  refine imp (pe_un un_neg ha) ?_
  rintro σ H Q ⟨c, s, m, hs, hm, hp⟩
  refine T.run hs hm hp fun c1 H1 w1 m1 v1 e1 hs1 hm1 r1 hp1 => ?_
  unfold negM at hp1
  split at hp1
  · rename_i i
    cases r1 with | p r1 =>
    cases r1
    exact ⟨i, rfl, hp1.ok hm1 _ (.p (.int _))⟩
  · exact hp1.elim

/-! ### + : ints, texts, tuples, lists -/
def seqT : W → Option (List W)
  | .p (.tuple ds) => some (ds.map .p)
  | .tw ws => some ws
  | _ => none
/-- a tuple of values -/
def mkTup (ws : List W) : W := match allP ws with
  | some ds => .p (.tuple ds)
  | none => .tw ws
@[simp] theorem mkTup_map (ds : List PyData) : mkTup (ds.map .p) = .p (.tuple ds) := by simp [mkTup]
def addM : W → W → Hm → Res W
  | .p (.int i), .p (.int j), m => .ok (.p (.int (i + j))) m
  | .p (.str x), .p (.str y), m => if x.length + y.length ≤ sizeLine then .ok (.p (.str (x ++ y))) m else .stuck
  | .p (.tuple xs), .p (.tuple ys), m => if xs.length + ys.length ≤ sizeLine then .ok (.p (.tuple (xs ++ ys))) m else .stuck
  | .p (.list xs), .p (.list ys), m => if xs.length + ys.length ≤ sizeLine then .ok (.p (.list (xs ++ ys))) m else .stuck
  | _, _, _ => .stuck
section
variable {K : PySem.W.Frag} {c : Cfg} {H : Hp} {m : Hm}
theorem Rp.tupI {v : V} {ds : List PyData} (r : Rp K c H v (.tuple ds)) : ∃ a xs, v = .ref a ∧ TupAt K c H a xs ∧ xs.length ≤ sizeLine ∧ RpAll K c H xs ds := by
  cases r with | tup h z r => exact ⟨_, _, rfl, h, z, r⟩
theorem Rp.lstI {v : V} {ds : List PyData} (r : Rp K c H v (.list ds)) : ∃ a xs, v = .ref a ∧ H a = some (.lst xs) ∧ a ∉ c.fa ∧ a ∉ c.rho ∧ xs.length ≤ sizeLine ∧ RpAll K c H xs ds := by
  cases r with | lst h n n2 z r => exact ⟨_, _, rfl, h, n, n2, z, r⟩
theorem RpAll.nil_iff {xs : List V} {ds : List PyData} (r : RpAll K c H xs ds) : xs = [] ↔ ds = [] := by cases r <;> simp
/-- a new tuple, a new list -/
theorem Rp.newT {p : Addr} {xs : List V} {ds : List PyData} (hm : HRel K c m H) (hp : H p = none) (z : xs.length ≤ sizeLine) (r : RpAll K c H xs ds) : Rp K c (upd H p (.tup xs)) (.ref p) (.tuple ds) :=
  .tup (.inl ⟨.inl upd_same, (hm.free hp).1, (hm.free hp).2⟩) z (r.mono (Ext.new hp))
theorem Rp.newL {p : Addr} {xs : List V} {ds : List PyData} (hm : HRel K c m H) (hp : H p = none) (z : xs.length ≤ sizeLine) (r : RpAll K c H xs ds) : Rp K c (upd H p (.lst xs)) (.ref p) (.list ds) :=
  .lst upd_same (hm.free hp).1 (hm.free hp).2 z (r.mono (Ext.new hp))
end
abbrev rAddAll (K : PySem.W.Frag) : R2 := fun x y H Q => (rI0 (fun i j => .int (i + j))) x y H Q ∨ ((fun x y H Q => ∃ i j, x = V.str i ∧ y = V.str j ∧ i.length + j.length ≤ sizeLine ∧ Q (V.str (i ++ j)) H) x y H Q ∨ (rCatA K x y H Q ∨ rCat x y H Q))
theorem op_addAll {X : Cx} : OpR X (binaryOp .Add) (rAddAll X.K) := op_add.or (op_add_str.or (op_catA.or op_cat))
theorem addM_ok {K : PySem.W.Frag} : OpM K (rAddAll K) addM := by
  intro U σ c H m v1 v2 w1 w2 Q hm r1 r2 hp
  unfold addM at hp
  split at hp
  · cases r1 with | p r1 => cases r2 with | p r2 =>
    cases r1; cases r2
    exact .inl ⟨_, _, rfl, rfl, hp.ok hm _ (.p (.int _))⟩
  · cases r1 with | p r1 => cases r2 with | p r2 =>
    cases r1; cases r2
    split at hp
    · rename_i hz
      exact .inr (.inl ⟨_, _, rfl, rfl, hz, hp.ok hm _ (.p (.str _))⟩)
    · exact hp.elim
  · cases r1 with | p r1 => cases r2 with | p r2 =>
    split at hp
    · rename_i hz
      obtain ⟨a, xs, rfl, h1, z1, q1⟩ := r1.tupI
      obtain ⟨b, ys, rfl, h2, z2, q2⟩ := r2.tupI
      have l1 := q1.length
      have l2 := q2.length
      refine .inr (.inr (.inl ⟨a, b, xs, ys, rfl, rfl, h1.sq, h2.sq, by omega, fun e => ?_, fun _ e => ?_, fun _ _ p hpn => ?_⟩))
      · have e' := q1.nil_iff.mp e
        subst e'
        exact hp.ok hm _ (.p (by simpa using r2))
      · have e' := q2.nil_iff.mp e
        subst e'
        exact hp.ok hm _ (.p (by simpa using r1))
      · exact hp c (upd H p _) (Ext.new hpn) (hm.new hpn) _ (.p (Rp.newT hm hpn (by simp only [List.length_append]; omega) (RpAll.append q1 q2)))
    · exact hp.elim
  · cases r1 with | p r1 => cases r2 with | p r2 =>
    split at hp
    · rename_i hz
      obtain ⟨a, xs, rfl, h1, _, _, z1, q1⟩ := r1.lstI
      obtain ⟨b, ys, rfl, h2, _, _, z2, q2⟩ := r2.lstI
      have l1 := q1.length
      have l2 := q2.length
      refine .inr (.inr (.inr ⟨a, b, xs, ys, rfl, rfl, h1, h2, by omega, fun p hpn => ?_⟩))
      exact hp c (upd H p _) (Ext.new hpn) (hm.new hpn) _ (.p (Rp.newL hm hpn (by simp only [List.length_append]; omega) (RpAll.append q1 q2)))
    · exact hp.elim
  · exact hp.elim

/-! ### == and its kin -/
def eqM (neg : Bool) (a b : W) (m : Hm) : Res W := match rd m a, rd m b with
  | some d, some e => if (SeqAt.shaped d && SeqAt.shaped e) = true then .ok (.p (.bool (if neg = true then !PyData.eqv d e else PyData.eqv d e))) m else .stuck
  | _, _ => .stuck
theorem eqM_ok {K : PySem.W.Frag} : OpM K (rEqD K) (eqM false) := by
  intro U σ c H m v1 v2 w1 w2 Q hm r1 r2 hp
  unfold eqM at hp
  split at hp
  · rename_i d e e1 e2
    split at hp
    · rename_i hz
      rw [Bool.and_eq_true] at hz
      exact ⟨d, e, rd_dp hm r1 e1, rd_dp hm r2 e2, hz.1, hz.2, hp.ok hm _ (.p (.bl _))⟩
    · exact hp.elim
  · exact hp.elim
theorem neM_ok {K : PySem.W.Frag} : OpM K (rNeD K) (eqM true) := by
  intro U σ c H m v1 v2 w1 w2 Q hm r1 r2 hp
  unfold eqM at hp
  split at hp
  · rename_i d e e1 e2
    split at hp
    · rename_i hz
      rw [Bool.and_eq_true] at hz
      exact ⟨d, e, rd_dp hm r1 e1, rd_dp hm r2 e2, hz.1, hz.2, hp.ok hm _ (.p (.bl _))⟩
    · exact hp.elim
  · exact hp.elim
/-- ints of data -/
def intsOf : List PyData → Option (List Int)
  | [] => some []
  | .int i :: r => (intsOf r).map (i :: ·)
  | _ :: _ => none
theorem intsOf_eq : ∀ {ds : List PyData} {ns : List Int}, intsOf ds = some ns → ds = ns.map PyData.int
  | [], _, h => by cases h; rfl
  | d :: r, ns, h => by
    cases d with
    | int i =>
      obtain ⟨ns', e, rfl⟩ := Option.map_eq_some_iff.mp (show (intsOf r).map (i :: ·) = some ns from h)
      rw [intsOf_eq e]
      rfl
    | _ => cases h
@[simp] theorem intsOf_map (ns : List Int) : intsOf (ns.map PyData.int) = some ns := by
  induction ns with
  | nil => rfl
  | cons n r ih => simp [intsOf, ih]
@[simp] theorem intsOf_nil : intsOf [] = some [] := rfl
@[simp] theorem intsOf_cons (i : Int) (r : List PyData) : intsOf (.int i :: r) = (intsOf r).map (i :: ·) := rfl
theorem RpAll.ints {K : PySem.W.Frag} {c : Cfg} {H : Hp} : ∀ {xs : List V} {ns : List Int}, RpAll K c H xs (ns.map PyData.int) → xs = ns.map V.int
  | _, [], h => by cases h; rfl
  | _, n :: ns, h => by
    cases h with
    | cons r t =>
      cases r
      rw [RpAll.ints t]
      rfl
def ltM : W → W → Hm → Res W
  | .p (.int i), .p (.int j), m => .ok (.p (.bool (decide (i < j)))) m
  | .p (.tuple xs), .p (.tuple ys), m => match intsOf xs, intsOf ys with
    | some ns, some ms => .ok (.p (.bool (HT.lexLt ns ms))) m
    | _, _ => .stuck
  | _, _, _ => .stuck
abbrev rLtAll (K : PySem.W.Frag) : R2 := fun x y H Q => (rI0 (fun i j => .bl (decide (i < j)))) x y H Q ∨ rLtT K x y H Q
theorem op_ltAll {X : Cx} (hu : X.A.units < cLine) : OpR X (compareOp .Lt) (rLtAll X.K) := op_lt.or (op_ltT hu)
theorem ltM_ok {K : PySem.W.Frag} : OpM K (rLtAll K) ltM := by
  intro U σ c H m v1 v2 w1 w2 Q hm r1 r2 hp
  unfold ltM at hp
  split at hp
  · cases r1 with | p r1 => cases r2 with | p r2 =>
    cases r1; cases r2
    exact .inl ⟨_, _, rfl, rfl, hp.ok hm _ (.p (.bl _))⟩
  · cases r1 with | p r1 => cases r2 with | p r2 =>
    split at hp
    · rename_i ns ms e1 e2
      obtain ⟨a, xs, rfl, h1, z1, q1⟩ := r1.tupI
      obtain ⟨b, ys, rfl, h2, z2, q2⟩ := r2.tupI
      rw [intsOf_eq e1] at q1
      rw [intsOf_eq e2] at q2
      have l1 := q1.ints
      have l2 := q2.ints
      subst l1 l2
      exact .inr ⟨a, b, ns, ms, rfl, rfl, h1.sq, h2.sq, hp.ok hm _ (.p (.bl _))⟩
    · exact hp.elim
  · exact hp.elim
def leM := intM (fun _ _ => true) fun i j => .bool (decide (i ≤ j))
def gtM := intM (fun _ _ => true) fun i j => .bool (decide (j < i))
def geM := intM (fun _ _ => true) fun i j => .bool (decide (j ≤ i))
theorem leM_ok {K : PySem.W.Frag} : OpM K (rI0 fun i j => .bl (decide (i ≤ j))) leM := intM0_ok fun _ _ _ _ => .bl _
theorem gtM_ok {K : PySem.W.Frag} : OpM K (rI0 fun i j => .bl (decide (j < i))) gtM := intM0_ok fun _ _ _ _ => .bl _
theorem geM_ok {K : PySem.W.Frag} : OpM K (rI0 fun i j => .bl (decide (j ≤ i))) geM := intM0_ok fun _ _ _ _ => .bl _
/-- is None, is not None -/
def isNone : W → Bool
  | .p .none => true
  | _ => false
def isNoneM (neg : Bool) (a b : W) (m : Hm) : Res W := match b with
  | .p .none => .ok (.p (.bool (if neg = true then !isNone a else isNone a))) m
  | _ => .stuck
theorem RpW.isNone {K : PySem.W.Frag} {c : Cfg} {H : Hp} {v : V} {w : W} (r : RpW K c H v w) : decide (v = .non) = Mir.isNone w := by
  cases r with
  | p r => cases r <;> simp [Mir.isNone]
  | ro => simp [Mir.isNone]
  | loc => simp [Mir.isNone]
  | tw => simp [Mir.isNone]
theorem isNoneM_ok {K : PySem.W.Frag} : OpM K (fun x y H Q => y = .non ∧ Q (.bl (decide (x = .non))) H) (isNoneM false) := by
  intro U σ c H m v1 v2 w1 w2 Q hm r1 r2 hp
  unfold isNoneM at hp
  split at hp
  · cases r2 with | p r2 =>
    cases r2
    exact ⟨rfl, by rw [r1.isNone]; exact hp.ok hm _ (.p (.bl _))⟩
  · exact hp.elim
theorem notNoneM_ok {K : PySem.W.Frag} : OpM K (fun x y H Q => y = .non ∧ Q (.bl (!decide (x = .non))) H) (isNoneM true) := by
  intro U σ c H m v1 v2 w1 w2 Q hm r1 r2 hp
  unfold isNoneM at hp
  split at hp
  · cases r2 with | p r2 =>
    cases r2
    exact ⟨rfl, by rw [r1.isNone]; exact hp.ok hm _ (.p (.bl _))⟩
  · exact hp.elim
/-- is, is not of bools -/
def isBlM (neg : Bool) : W → W → Hm → Res W
  | .p (.bool a), .p (.bool b), m => .ok (.p (.bool (if neg = true then !decide (a = b) else decide (a = b)))) m
  | _, _, _ => .stuck
theorem isBlM_ok {K : PySem.W.Frag} : OpM K (fun x y H Q => ∃ a b, x = .bl a ∧ y = .bl b ∧ Q (.bl (decide (a = b))) H) (isBlM false) := by
  intro U σ c H m v1 v2 w1 w2 Q hm r1 r2 hp
  unfold isBlM at hp
  split at hp
  · cases r1 with | p r1 => cases r2 with | p r2 =>
    cases r1; cases r2
    exact ⟨_, _, rfl, rfl, hp.ok hm _ (.p (.bl _))⟩
  · exact hp.elim
theorem isntBlM_ok {K : PySem.W.Frag} : OpM K (fun x y H Q => ∃ a b, x = .bl a ∧ y = .bl b ∧ Q (.bl (!decide (a = b))) H) (isBlM true) := by
  intro U σ c H m v1 v2 w1 w2 Q hm r1 r2 hp
  unfold isBlM at hp
  split at hp
  · cases r1 with | p r1 => cases r2 with | p r2 =>
    cases r1; cases r2
    exact ⟨_, _, rfl, rfl, hp.ok hm _ (.p (.bl _))⟩
  · exact hp.elim
/-- in, not in: a list of data; a tuple of flat data -/
def flatP : PyData → Bool
  | .none => true
  | .bool _ => true
  | .int _ => true
  | .str _ => true
  | _ => false
def inM (neg : Bool) (a b : W) (m : Hm) : Res W := match rd m a, rd m b with
  | some d, some (.list ds) => if (SeqAt.shaped d && SeqAt.shaped (.list ds)) = true then .ok (.p (.bool (if neg = true then !(ds.any fun z => PyData.eqv z d) else ds.any fun z => PyData.eqv z d))) m else .stuck
  | some d, some (.tuple ds) => if (flatP d && ds.all flatP) = true then .ok (.p (.bool (if neg = true then !(ds.any fun z => PyData.eqv z d) else ds.any fun z => PyData.eqv z d))) m else .stuck
  | _, _ => .stuck
theorem flat_of {K : PySem.W.Frag} {H : Hp} {v : V} {d : PyData} (h : Dp K H v d) (f : flatP d = true) : flatV v = true := by
  cases h with
  | lst => cases f
  | tup => cases f
  | _ => rfl
theorem flats_of {K : PySem.W.Frag} {H : Hp} : ∀ {vs : List V} {ds : List PyData}, DpAll K H vs ds → ds.all flatP = true → vs.all flatV = true
  | _, _, .nil, _ => rfl
  | _, _, .cons r t, f => by
    rw [List.all_cons, Bool.and_eq_true] at f
    rw [List.all_cons, flat_of r f.1, flats_of t f.2]
    rfl
theorem eqV_of {K : PySem.W.Frag} {H : Hp} {v u : V} {d e : PyData} (h : Dp K H v d) (h' : Dp K H u e) (f : flatP d = true) (f' : flatP e = true) : eqV v u = PyData.eqv d e := by
  cases h with
  | lst => cases f
  | tup => cases f
  | non => cases h' with
    | lst => cases f'
    | tup => cases f'
    | _ => rfl
  | bl b => cases h' with
    | lst => cases f'
    | tup => cases f'
    | _ => rfl
  | int i => cases h' with
    | lst => cases f'
    | tup => cases f'
    | _ => rfl
  | str x => cases h' with
    | lst => cases f'
    | tup => cases f'
    | _ => rfl
theorem inV_of {K : PySem.W.Frag} {H : Hp} {v : V} {d : PyData} (h : Dp K H v d) (f : flatP d = true) : ∀ {vs : List V} {ds : List PyData}, DpAll K H vs ds → ds.all flatP = true → inV v vs = ds.any fun z => PyData.eqv z d
  | _, _, .nil, _ => rfl
  | _, _, .cons r t, g => by
    rw [List.all_cons, Bool.and_eq_true] at g
    show (eqV _ v || inV v _) = _
    rw [eqV_of r h g.1 f, inV_of h f t g.2, List.any_cons]
theorem DpAll.inv {K : PySem.W.Frag} {H : Hp} {v : V} {ds : List PyData} (h : Dp K H v (.tuple ds)) : ∃ a xs, v = .ref a ∧ SqT K H a xs ∧ DpAll K H xs ds := by
  cases h with | tup h r => exact ⟨_, _, rfl, h, r⟩
theorem op_inAll {X : Cx} (hu : X.A.units + 65 < cLine) : OpR X (compareOp .In) (fun x y H Q => rInD X.K x y H Q ∨ rIn X.K false x y H Q) := (op_inD hu).or op_in_seq
theorem op_notInAll {X : Cx} (hu : X.A.units + 65 < cLine) : OpR X (compareOp .NotIn) (fun x y H Q => rNotInD X.K x y H Q ∨ rIn X.K true x y H Q) := (op_notInD hu).or op_notIn_seq
theorem inM_ok {K : PySem.W.Frag} : OpM K (fun x y H Q => rInD K x y H Q ∨ rIn K false x y H Q) (inM false) := by
  intro U σ c H m v1 v2 w1 w2 Q hm r1 r2 hp
  unfold inM at hp
  split at hp
  · rename_i d ds e1 e2
    split at hp
    · rename_i hz
      rw [Bool.and_eq_true] at hz
      exact .inl ⟨d, ds, rd_dp hm r1 e1, rd_dp hm r2 e2, hz.1, hz.2, hp.ok hm _ (.p (.bl _))⟩
    · exact hp.elim
  · rename_i d ds e1 e2
    split at hp
    · rename_i hz
      rw [Bool.and_eq_true] at hz
      have h1 := rd_dp hm r1 e1
      obtain ⟨a, xs, rfl, h2, q⟩ := DpAll.inv (rd_dp hm r2 e2)
      refine .inr ⟨a, xs, rfl, .inr h2, flat_of h1 hz.1, flats_of q hz.2, ?_⟩
      rw [inV_of h1 hz.1 q hz.2]
      exact hp.ok hm _ (.p (.bl _))
    · exact hp.elim
  · exact hp.elim
theorem notInM_ok {K : PySem.W.Frag} : OpM K (fun x y H Q => rNotInD K x y H Q ∨ rIn K true x y H Q) (inM true) := by
  intro U σ c H m v1 v2 w1 w2 Q hm r1 r2 hp
  unfold inM at hp
  split at hp
  · rename_i d ds e1 e2
    split at hp
    · rename_i hz
      rw [Bool.and_eq_true] at hz
      exact .inl ⟨d, ds, rd_dp hm r1 e1, rd_dp hm r2 e2, hz.1, hz.2, hp.ok hm _ (.p (.bl _))⟩
    · exact hp.elim
  · rename_i d ds e1 e2
    split at hp
    · rename_i hz
      rw [Bool.and_eq_true] at hz
      have h1 := rd_dp hm r1 e1
      obtain ⟨a, xs, rfl, h2, q⟩ := DpAll.inv (rd_dp hm r2 e2)
      refine .inr ⟨a, xs, rfl, .inr h2, flat_of h1 hz.1, flats_of q hz.2, ?_⟩
      rw [inV_of h1 hz.1 q hz.2]
      exact hp.ok hm _ (.p (.bl _))
    · exact hp.elim
  · exact hp.elim

/-! ### a chain of two comparisons -/
def eChain (g g' : W → W → Hm → Res W) (f1 f2 f3 : EX W) : EX W := fun s m => (f1 s m).bind fun a m1 => (f2 s m1).bind fun b m2 => (g a b m2).bind fun r m3 => match r with
  | .p (.bool true) => (f3 s m3).bind fun d m4 => g' b d m4
  | .p (.bool false) => .ok (.p (.bool false)) m3
  | _ => .stuck
/-- the operation leaves the state as it is and answers a bool (as the comparisons of ints do) -/
def Quiet (g : W → W → Hm → Res W) : Prop := ∀ a b m, g a b m = .stuck ∨ ∃ k, g a b m = .ok (.p (.bool k)) m
theorem intM_quiet {C : Int → Int → Bool} {g : Int → Int → Bool} : Quiet (intM C fun i j => .bool (g i j)) := fun a b m => by
  unfold intM
  split
  · split
    · exact .inr ⟨_, rfl⟩
    · exact .inl rfl
  · exact .inl rfl
theorem ltM_quiet : Quiet ltM := fun a b m => by
  unfold ltM
  split
  · exact .inr ⟨_, rfl⟩
  · split
    · exact .inr ⟨_, rfl⟩
    · exact .inl rfl
  · exact .inl rfl
theorem x_chain {X : Cx} {U : WX} {pos : Pos} {a b c : Expr} {f1 f2 f3 : EX W} {op op' : CmpOp} {r r' : R2} {g g' : W → W → Hm → Res W} (ho : OpR X (compareOp op) r) (hg : OpM X.K r g) (hq : Quiet g) (ho' : OpR X (compareOp op') r') (hg' : OpM X.K r' g')
    (ha : PE X a (T X.K U f1)) (hb : PE X b (T X.K U f2)) (hc : PE X c (T X.K U f3)) (hm : lastMarks [op, op'] [b, c] = false := by with_unfolding_all rfl) : PE X (.Compare a [op, op'] [b, c] pos) (T X.K U (eChain g g' f1 f2 f3)) := by
  refine imp (pe_chain ho ho' ha hb hc hm) ?_
  rintro σ H Q ⟨c, s, m, hs, hm, hp⟩
  refine T.run hs hm hp fun c1 H1 w1 m1 v1 e1 hs1 hm1 r1 hp1 => T.run hs1 hm1 hp1 fun c2 H2 w2 m2 v2 e2 hs2 hm2 r2 hp2 => ?_
  rcases hq w1 w2 m2 with z | ⟨k, z⟩
  · rw [z] at hp2; exact hp2.elim
  · rw [z] at hp2
    refine hg U σ c2 H2 m2 v1 v2 w1 w2 _ hm2 (r1.mono e2) r2 ?_
    rw [z]
    intro c3 H3 e3 hm3 v rv
    cases rv with | p rv =>
    cases rv
    refine ⟨k, rfl, ?_⟩
    have hp3 := hp2.ext e3
    cases k with
    | true =>
      rw [if_pos rfl]
      exact T.run (hs2.mono e3) hm3 hp3 fun c4 H4 w4 m4 v4 e4 hs4 hm4 r4 hp4 => hg' U σ c4 H4 m4 v2 v4 w2 w4 Q hm4 ((r2.mono e3).mono e4) r4 hp4
    | false =>
      rw [if_neg Bool.false_ne_true]
      exact hp3.ok hm3 _ (.p (.bl _))
end Mir

namespace Mir
open PySem PySem.Spec PyProof.Rows L2

/-! ### truth -/
def truth (m : Hm) : W → Option Bool
  | .p .none => some false
  | .p (.bool b) => some b
  | .p (.int i) => some (i != 0)
  | .p (.str x) => if x.length ≤ sizeLine then some ((x.length : Int) != 0) else none
  | .p (.list ds) => some (!ds.isEmpty)
  | .p (.tuple ds) => some (!ds.isEmpty)
  | .tw ws => some (!ws.isEmpty)
  | .loc n => match m[n]? with
    | some (.lst ws) => some (!ws.isEmpty)
    | _ => none
  | _ => none
section
variable {K : PySem.W.Frag} {c : Cfg} {H : Hp} {m : Hm}
theorem isEmptyA : ∀ {xs : List V} {ds : List PyData}, RpAll K c H xs ds → xs.isEmpty = ds.isEmpty
  | _, _, .nil => rfl
  | _, _, .cons _ _ => rfl
theorem isEmptyW : ∀ {xs : List V} {ds : List W}, RpWs K c H xs ds → xs.isEmpty = ds.isEmpty
  | _, _, .nil => rfl
  | _, _, .cons _ _ => rfl
theorem truth_ok {v : V} {w : W} {b : Bool} (hm : HRel K c m H) (r : RpW K c H v w) (e : truth m w = some b) : TruV K v H b := by
  cases r with
  | p r =>
    cases r with
    | non => cases e; rfl
    | bl => cases e; rfl
    | int => cases e; rfl
    | str x =>
      simp only [truth] at e
      split at e
      · cases e; rename_i h; exact ⟨h, rfl⟩
      · cases e
    | lst h n n2 z r => cases e; exact .inl ⟨_, SqL.of h, by rw [isEmptyA r]⟩
    | tup h z r => cases e; exact .inr (.inl ⟨_, h.sq, by rw [isEmptyA r]⟩)
  | ro h z r => cases e
  | @loc a n h =>
    simp only [truth] at e
    cases q : m[n]? with
    | none => rw [q] at e; cases e
    | some x =>
      rw [q] at e
      cases x with
      | lst ws =>
        cases e
        obtain ⟨b, hb, xs, hx, z, rr⟩ := hm.at_ n _ q
        rw [h] at hb; cases hb
        exact .inl ⟨_, SqL.of hx, by rw [isEmptyW rr]⟩
      | dct => cases e
      | ins => cases e
  | tw h z r => cases e; exact .inr (.inl ⟨_, h.sq, by rw [isEmptyW r]⟩)
end
def tru (w : W) (m : Hm) : Res Bool := match truth m w with
  | some b => .ok b m
  | none => .stuck
def bTru (f : EX W) : EX Bool := fun s m => (f s m).bind tru
def boolOf (w : W) (m : Hm) : Res Bool := match w with
  | .p (.bool b) => .ok b m
  | _ => .stuck
@[simp] theorem boolOf_b {b : Bool} {m : Hm} : boolOf (.p (.bool b)) m = .ok b m := rfl
def bVal (f : EX W) : EX Bool := fun s m => (f s m).bind boolOf
section
variable {X : Cx} {U : WX} {pos : Pos} {a b : Expr} {f f1 f2 : EX W} {g g1 g2 : EX Bool} {rest : List Expr}
/-- any expression as a test -/
theorem b_tru (ha : PE X a (T X.K U f)) (he : ∀ whole, isTrue a X.env whole = (do let v ← whole; standAt a.pos; holding [v] (truthy v)) := by intro _; rfl) : PT X a (TB X.K U (bTru f)) := by
  refine impT (pt_truth ha he) ?_
  rintro σ H Q ⟨c, s, m, hs, hm, hp⟩
  refine T.run hs hm hp fun c1 H1 w1 m1 v1 e1 hs1 hm1 r1 hp1 => ?_
  unfold tru at hp1
  split at hp1
  · rename_i b e
    exact ⟨b, truth_ok hm1 r1 e, hp1.ok hm1⟩
  · exact hp1.elim
/-- a comparison as a test -/
theorem b_cmp {op : CmpOp} {r : R2} {h : W → W → Hm → Res W} (ho : OpR X (compareOp op) r) (hg : OpM X.K r h) (ha : PE X a (T X.K U f1)) (hb : PE X b (T X.K U f2)) (hm : behindInMarks op b = false := by first | exact nomark _ | rfl | with_unfolding_all rfl) :
    PT X (.Compare a [op] [b] pos) (TB X.K U (bVal (eOp2 h f1 f2))) := by
  refine impT (pt_cmpR ho ha hb hm) ?_
  rintro σ H Q ⟨c, s, m, hs, hm, hp⟩
  show T X.K U f1 σ H _
  have hp' : Post X.K U σ c H (fun c' H' b _ => Q b H') ((f1 s m).bind fun a m1 => (f2 s m1).bind fun b m2 => (h a b m2).bind boolOf) := by
    have e : (f1 s m).bind (fun a m1 => (f2 s m1).bind fun b m2 => (h a b m2).bind boolOf) = bVal (eOp2 h f1 f2) s m := by
      unfold bVal eOp2
      cases f1 s m with
      | ok a m1 =>
        show (f2 s m1).bind _ = ((f2 s m1).bind _).bind boolOf
        cases f2 s m1 <;> rfl
      | _ => rfl
    rw [e]
    exact hp
  refine T.run hs hm hp' fun c1 H1 w1 m1 v1 e1 hs1 hm1 r1 hp1 => T.run hs1 hm1 hp1 fun c2 H2 w2 m2 v2 e2 hs2 hm2 r2 hp2 => ?_
  refine hg U σ c2 H2 m2 v1 v2 w1 w2 _ hm2 (r1.mono e2) r2 ?_
  cases e : h w1 w2 m2 with
  | stuck => rw [e] at hp2; exact hp2
  | exc x m' => rw [e] at hp2; exact hp2
  | ok y m3 =>
    rw [e] at hp2
    intro c3 H3 e3 hm3 v rv
    simp only [bind_ok, boolOf] at hp2
    split at hp2
    · cases rv with | p rv =>
      cases rv
      exact ⟨_, rfl, (hp2.ext e3).ok hm3⟩
    · exact hp2.elim
theorem b_chain {c : Expr} {f3 : EX W} {op op' : CmpOp} {r r' : R2} {h h' : W → W → Hm → Res W} (ho : OpR X (compareOp op) r) (hg : OpM X.K r h) (hq : Quiet h) (ho' : OpR X (compareOp op') r') (hg' : OpM X.K r' h')
    (ha : PE X a (T X.K U f1)) (hb : PE X b (T X.K U f2)) (hc : PE X c (T X.K U f3)) (hm : lastMarks [op, op'] [b, c] = false := by with_unfolding_all rfl) : PT X (.Compare a [op, op'] [b, c] pos) (TB X.K U (bVal (eChain h h' f1 f2 f3))) := by
  refine impT (pt_chain ho ho' ha hb hc hm) ?_
  rintro σ H Q ⟨c, s, m, hs, hm, hp⟩
  show tChain _ _ _ _ _ σ H _
  have hp' : Post X.K U σ c H (fun c' H' b _ => Q b H') ((f1 s m).bind fun a m1 => (f2 s m1).bind fun b m2 => (h a b m2).bind fun r m3 => (match r with
      | .p (.bool true) => (f3 s m3).bind fun d m4 => h' b d m4
      | .p (.bool false) => .ok (.p (.bool false)) m3
      | _ => .stuck : Res W).bind boolOf) := by
    have e : ((f1 s m).bind fun a m1 => (f2 s m1).bind fun b m2 => (h a b m2).bind fun r m3 => (match r with
      | .p (.bool true) => (f3 s m3).bind fun d m4 => h' b d m4
      | .p (.bool false) => .ok (.p (.bool false)) m3
      | _ => .stuck : Res W).bind boolOf) = bVal (eChain h h' f1 f2 f3) s m := by
      unfold bVal eChain
      cases f1 s m with
      | ok a m1 =>
        simp only [bind_ok]
        cases f2 s m1 with
        | ok b m2 =>
          simp only [bind_ok]
          cases h a b m2 <;> rfl
        | _ => rfl
      | _ => rfl
    rw [e]
    exact hp
  refine T.run hs hm hp' fun c1 H1 w1 m1 v1 e1 hs1 hm1 r1 hp1 => T.run hs1 hm1 hp1 fun c2 H2 w2 m2 v2 e2 hs2 hm2 r2 hp2 => ?_
  rcases hq w1 w2 m2 with z | ⟨k, z⟩
  · rw [z] at hp2; exact hp2.elim
  · rw [z] at hp2
    refine hg U σ c2 H2 m2 v1 v2 w1 w2 _ hm2 (r1.mono e2) r2 ?_
    rw [z]
    intro c3 H3 e3 hm3 v rv
    cases rv with | p rv =>
    cases rv
    refine ⟨k, rfl, ?_⟩
    have hp3 := hp2.ext e3
    cases k with
    | true =>
      rw [if_pos rfl]
      have hp4 : Post X.K U σ c3 H3 (fun c' H' b _ => Q b H') ((f3 s m2).bind fun d m4 => (h' w2 d m4).bind boolOf) := by
        have e : ((f3 s m2).bind fun d m4 => (h' w2 d m4).bind boolOf) = ((f3 s m2).bind fun d m4 => h' w2 d m4).bind boolOf := by cases f3 s m2 <;> rfl
        rw [e]
        exact hp3
      refine T.run (hs2.mono e3) hm3 hp4 fun c4 H4 w4 m4 v4 e4 hs4 hm4 r4 hp5 => hg' U σ c4 H4 m4 v2 v4 w2 w4 _ hm4 ((r2.mono e3).mono e4) r4 ?_
      cases e : h' w2 w4 m4 with
      | stuck => rw [e] at hp5; exact hp5
      | exc x m' => rw [e] at hp5; exact hp5
      | ok y m5 =>
        rw [e] at hp5
        intro c5 H5 e5 hm5 v rv
        simp only [bind_ok, boolOf] at hp5
        split at hp5
        · cases rv with | p rv =>
          cases rv
          exact ⟨_, rfl, (hp5.ext e5).ok hm5⟩
        · exact hp5.elim
    | false =>
      rw [if_neg Bool.false_ne_true]
      exact ⟨false, rfl, hp3.ok hm3⟩
/-! ### not, and, or -/
def bNot (g : EX Bool) : EX Bool := fun s m => (g s m).bind fun b m1 => .ok (!b) m1
def bAnd (g1 g2 : EX Bool) : EX Bool := fun s m => (g1 s m).bind fun b m1 => if b = true then g2 s m1 else .ok false m1
def bOr (g1 g2 : EX Bool) : EX Bool := fun s m => (g1 s m).bind fun b m1 => if b = true then .ok true m1 else g2 s m1
theorem b_not (ha : PT X a (TB X.K U g)) : PT X (.UnaryOp .Not a pos) (TB X.K U (bNot g)) := by
  refine impT (pt_not ha) ?_
  rintro σ H Q ⟨c, s, m, hs, hm, hp⟩
  exact TB.run hs hm hp fun c1 H1 b m1 e1 hs1 hm1 hp1 => hp1.ok hm1
theorem impW {e : Expr} {t t' : TT} (h : PW X e t) (i : ∀ σ H Q, t' σ H Q → t σ H Q) : PW X e t' := ⟨fun wh pins s σ H Q I hw => h.run wh pins s σ H Q I (i σ H Q hw)⟩
theorem b_and1 (ha : PT X a (TB X.K U g)) : PW X (.BoolOp .And [a] pos) (TB X.K U g) := pw_and1 ha
theorem b_or1 (ha : PT X a (TB X.K U g)) : PW X (.BoolOp .Or [a] pos) (TB X.K U g) := pw_or1 ha
theorem b_and (ha : PT X a (TB X.K U g1)) (hb : PW X (.BoolOp .And (b :: rest) pos) (TB X.K U g2)) : PW X (.BoolOp .And (a :: b :: rest) pos) (TB X.K U (bAnd g1 g2)) := by
  refine impW (pw_and ha hb) ?_
  rintro σ H Q ⟨c, s, m, hs, hm, hp⟩
  refine TB.run hs hm hp fun c1 H1 b m1 e1 hs1 hm1 hp1 => ?_
  cases b with
  | true => exact ⟨c1, s, m1, hs1, hm1, hp1⟩
  | false => exact hp1.ok hm1
theorem b_or (ha : PT X a (TB X.K U g1)) (hb : PW X (.BoolOp .Or (b :: rest) pos) (TB X.K U g2)) : PW X (.BoolOp .Or (a :: b :: rest) pos) (TB X.K U (bOr g1 g2)) := by
  refine impW (pw_or ha hb) ?_
  rintro σ H Q ⟨c, s, m, hs, hm, hp⟩
  refine TB.run hs hm hp fun c1 H1 b m1 e1 hs1 hm1 hp1 => ?_
  cases b with
  | true => exact hp1.ok hm1
  | false => exact ⟨c1, s, m1, hs1, hm1, hp1⟩
/-! the same as values; all but the last give bools -/
def eNot (f : EX W) : EX W := fun s m => (f s m).bind fun w m1 => match w with
  | .p (.bool b) => .ok (.p (.bool (!b))) m1
  | _ => .stuck
def eAnd (f1 f2 : EX W) : EX W := fun s m => (f1 s m).bind fun w m1 => match w with
  | .p (.bool true) => f2 s m1
  | .p (.bool false) => .ok (.p (.bool false)) m1
  | _ => .stuck
def eOr (f1 f2 : EX W) : EX W := fun s m => (f1 s m).bind fun w m1 => match w with
  | .p (.bool true) => .ok (.p (.bool true)) m1
  | .p (.bool false) => f2 s m1
  | _ => .stuck
theorem x_one {op : BoolOp} (ha : PE X a (T X.K U f)) : PE X (.BoolOp op [a] pos) (T X.K U f) := pe_one ha
theorem x_not (ha : PE X a (T X.K U f)) : PE X (.UnaryOp .Not a pos) (T X.K U (eNot f)) := by
  refine imp (pe_not ha) ?_
  rintro σ H Q ⟨c, s, m, hs, hm, hp⟩
  refine T.run hs hm hp fun c1 H1 w1 m1 v1 e1 hs1 hm1 r1 hp1 => ?_
  split at hp1
  · cases r1 with | p r1 =>
    cases r1
    exact ⟨_, rfl, hp1.ok hm1 _ (.p (.bl _))⟩
  · exact hp1.elim
theorem x_and (ha : PE X a (T X.K U f1)) (hb : PE X (.BoolOp .And (b :: rest) pos) (T X.K U f2)) : PE X (.BoolOp .And (a :: b :: rest) pos) (T X.K U (eAnd f1 f2)) := by
  refine imp (pe_and ha hb) ?_
  rintro σ H Q ⟨c, s, m, hs, hm, hp⟩
  refine T.run hs hm hp fun c1 H1 w1 m1 v1 e1 hs1 hm1 r1 hp1 => ?_
  split at hp1
  · cases r1 with | p r1 =>
    cases r1
    exact ⟨true, rfl, by rw [if_pos rfl]; exact ⟨c1, s, m1, hs1, hm1, hp1⟩⟩
  · cases r1 with | p r1 =>
    cases r1
    exact ⟨false, rfl, by rw [if_neg Bool.false_ne_true]; exact hp1.ok hm1 _ (.p (.bl _))⟩
  · exact hp1.elim
theorem x_or (ha : PE X a (T X.K U f1)) (hb : PE X (.BoolOp .Or (b :: rest) pos) (T X.K U f2)) : PE X (.BoolOp .Or (a :: b :: rest) pos) (T X.K U (eOr f1 f2)) := by
  refine imp (pe_or ha hb) ?_
  rintro σ H Q ⟨c, s, m, hs, hm, hp⟩
  refine T.run hs hm hp fun c1 H1 w1 m1 v1 e1 hs1 hm1 r1 hp1 => ?_
  split at hp1
  · cases r1 with | p r1 =>
    cases r1
    exact ⟨true, rfl, by rw [if_pos rfl]; exact hp1.ok hm1 _ (.p (.bl _))⟩
  · cases r1 with | p r1 =>
    cases r1
    exact ⟨false, rfl, by rw [if_neg Bool.false_ne_true]; exact ⟨c1, s, m1, hs1, hm1, hp1⟩⟩
  · exact hp1.elim
def eIf (g : EX Bool) (f1 f2 : EX W) : EX W := fun s m => (g s m).bind fun b m1 => if b = true then f1 s m1 else f2 s m1
theorem x_if {t : Expr} (ht : PT X t (TB X.K U g)) (ha : PE X a (T X.K U f1)) (hb : PE X b (T X.K U f2)) : PE X (.IfExp t a b pos) (T X.K U (eIf g f1 f2)) := by
  refine imp (pe_ifExp ht ha hb) ?_
  rintro σ H Q ⟨c, s, m, hs, hm, hp⟩
  refine TB.run hs hm hp fun c1 H1 b m1 e1 hs1 hm1 hp1 => ?_
  cases b with
  | true => exact ⟨c1, s, m1, hs1, hm1, hp1⟩
  | false => exact ⟨c1, s, m1, hs1, hm1, hp1⟩
end

/-! ### argument lists, displays -/
def aNil : EX (List W) := fun _ m => .ok [] m
def aCons (f : EX W) (r : EX (List W)) : EX (List W) := fun s m => (f s m).bind fun w m1 => (r s m1).bind fun ws m2 => .ok (w :: ws) m2
section
variable {X : Cx} {U : WX} {pos : Pos} {e : Expr} {es : List Expr} {f : EX W} {fs : EX (List W)}
theorem a_nil : PA X [] (TL X.K U aNil) := by
  refine impA pa_nil ?_
  rintro σ H Q ⟨c, s, m, hs, hm, hp⟩
  exact hp.ok hm [] .nil
theorem a_cons (ha : PE X e (T X.K U f)) (hr : PA X es (TL X.K U fs)) (hs : starEach (e :: es) X.env = (false, eval e X.env) :: starEach es X.env := by rfl) : PA X (e :: es) (TL X.K U (aCons f fs)) := by
  refine impA (pa_cons ha hr hs) ?_
  rintro σ H Q ⟨c, s, m, hs, hm, hp⟩
  exact T.run hs hm hp fun c1 H1 w1 m1 v1 e1 hs1 hm1 r1 hp1 => TL.run hs1 hm1 hp1 fun c2 H2 ws m2 vs e2 hs2 hm2 r2 hp2 => hp2.ok hm2 _ (.cons (r1.mono e2) r2)
def eTup (fs : EX (List W)) : EX W := fun s m => (fs s m).bind fun ws m1 => if ws.length ≤ sizeLine then .ok (mkTup ws) m1 else .stuck
/-- a written list that nobody changes -/
def eLst (fs : EX (List W)) : EX W := fun s m => (fs s m).bind fun ws m1 => if ws.length ≤ sizeLine then (match allP ws with
  | some ds => .ok (.p (.list ds)) m1
  | none => .stuck) else .stuck
/-- a written list, a cell -/
def eLstL (fs : EX (List W)) : EX W := fun s m => (fs s m).bind fun ws m1 => if ws.length ≤ sizeLine then .ok (.loc m1.length) (m1 ++ [.lst ws]) else .stuck
end
section
variable {K : PySem.W.Frag} {c : Cfg} {H : Hp} {m : Hm}
theorem RpW.newT {p : Addr} {xs : List V} {ws : List W} (hm : HRel K c m H) (hp : H p = none) (z : xs.length ≤ sizeLine) (r : RpWs K c H xs ws) : RpW K c (upd H p (.tup xs)) (.ref p) (mkTup ws) := by
  unfold mkTup
  split
  · rename_i ds e
    exact .p (Rp.newT hm hp z (allP_rp r e))
  · exact .tw (.inl ⟨.inl upd_same, (hm.free hp).1, (hm.free hp).2⟩) z (r.mono (Ext.new hp))
theorem RpW.newC {p : Addr} {xs : List V} {ws : List W} (hm : HRel K c m H) (hp : H p = none) (z : xs.length ≤ sizeLine) (r : RpWs K c H xs ws) :
    HRel K ⟨c.fb, c.rho ++ [p]⟩ (m ++ [.lst ws]) (upd H p (.lst xs)) ∧ RpW K ⟨c.fb, c.rho ++ [p]⟩ (upd H p (.lst xs)) (.ref p) (.loc m.length) :=
  ⟨hm.cell hp ⟨xs, upd_same, z, r.mono (Ext.cell hp)⟩, .loc (by rw [← hm.len]; simp)⟩
end
section
variable {X : Cx} {U : WX} {pos : Pos} {e : Expr} {es : List Expr} {f : EX W} {fs : EX (List W)}
theorem x_tup {k : Nat} (h : PA X es (TL X.K U fs)) : PE X (.Tuple es k pos) (T X.K U (eTup fs)) := by
  refine imp (pe_tup h) ?_
  rintro σ H Q ⟨c, s, m, hs, hm, hp⟩
  refine TL.run hs hm hp fun c1 H1 ws m1 vs e1 hs1 hm1 r1 hp1 => ?_
  have l := r1.length
  split at hp1
  · rename_i hz
    refine ⟨by omega, fun p hpn => ?_⟩
    exact hp1 c1 _ (Ext.new hpn) (hm1.new hpn) _ (RpW.newT hm1 hpn (by omega) r1)
  · exact hp1.elim
theorem x_lst (h : PA X es (TL X.K U fs)) : PE X (.List es pos) (T X.K U (eLst fs)) := by
  refine imp (pe_lst h) ?_
  rintro σ H Q ⟨c, s, m, hs, hm, hp⟩
  refine TL.run hs hm hp fun c1 H1 ws m1 vs e1 hs1 hm1 r1 hp1 => ?_
  have l := r1.length
  split at hp1
  · rename_i hz
    refine ⟨by omega, fun p hpn => ?_⟩
    split at hp1
    · rename_i ds e
      exact hp1 c1 _ (Ext.new hpn) (hm1.new hpn) _ (.p (Rp.newL hm1 hpn (by omega) (allP_rp r1 e)))
    · exact hp1.elim
  · exact hp1.elim
theorem x_lstL (h : PA X es (TL X.K U fs)) : PE X (.List es pos) (T X.K U (eLstL fs)) := by
  refine imp (pe_lst h) ?_
  rintro σ H Q ⟨c, s, m, hs, hm, hp⟩
  refine TL.run hs hm hp fun c1 H1 ws m1 vs e1 hs1 hm1 r1 hp1 => ?_
  have l := r1.length
  split at hp1
  · rename_i hz
    refine ⟨by omega, fun p hpn => ?_⟩
    obtain ⟨q1, q2⟩ := RpW.newC hm1 hpn (by omega) r1
    exact hp1 _ _ (Ext.cell hpn) q1 _ q2
  · exact hp1.elim
end

/-! ### built-in functions by their values -/
def CallM (K : PySem.W.Frag) (r : List V → Hp → VK → Prop) (g : List W → Hm → Res W) : Prop := ∀ (U : WX) (σ : L2.St) (c : Cfg) (H : Hp) (m : Hm) (vs : List V) (ws : List W) (Q : VK),
  HRel K c m H → RpWs K c H vs ws → Post K U σ c H (RQ K Q) (g ws m) → r vs H Q
def eCB (g : List W → Hm → Res W) (fs : EX (List W)) : EX W := fun s m => (fs s m).bind g
section
variable {X : Cx} {U : WX} {x : Str} {p pos : Pos} {e : Expr} {es : List Expr} {fs : EX (List W)} {id T' : String} {r : List V → Hp → VK → Prop} {g : List W → Hm → Res W}
theorem t_cb (hg : CallM X.K r g) {σ : L2.St} {H : Hp} {Q : VK} (h : T X.K U (eCB g fs) σ H Q) : tCB r (TL X.K U fs) σ H Q := by
  obtain ⟨c, s, m, hs, hm, hp⟩ := h
  exact TL.run hs hm hp fun c1 H1 ws m1 vs e1 hs1 hm1 r1 hp1 => hg U σ c1 H1 m1 vs ws Q hm1 r1 hp1
theorem x_callB (hc : CallR X (.builtin id) r) (hg : CallM X.K r g) (hmg : X.mg x = none) (hv : bootBuiltins x = some (.builtin id)) (ha : PA X (e :: es) (TL X.K U fs)) (hgl : Gl X x := by rfl) (hn : x ≠ "__name__" := by decide) (hdb : (x == ("__debug__" : Str)) = false := by decide)
    (he : starEach (e :: es) X.env = (false, eval e X.env) :: starEach es X.env := by rfl) (hpl : (backTo pos (starEach es X.env)).any (·.1) = false := by rfl) : PE X (.Call (.Name x p) (e :: es) [] pos) (T X.K U (eCB g fs)) :=
  imp (pe_callB hc hgl hmg hv ha hn hdb he hpl) fun _ _ _ h => t_cb hg h
theorem x_callTy (hc : CallR X (.type T') r) (hg : CallM X.K r g) (hmg : X.mg x = none) (hv : bootBuiltins x = some (.type T')) (ha : PA X (e :: es) (TL X.K U fs)) (hgl : Gl X x := by rfl) (hn : x ≠ "__name__" := by decide) (hdb : (x == ("__debug__" : Str)) = false := by decide)
    (he : starEach (e :: es) X.env = (false, eval e X.env) :: starEach es X.env := by rfl) (hpl : (backTo pos (starEach es X.env)).any (·.1) = false := by rfl) : PE X (.Call (.Name x p) (e :: es) [] pos) (T X.K U (eCB g fs)) :=
  imp (pe_callTy hc hgl hmg hv ha hn hdb he hpl) fun _ _ _ h => t_cb hg h
end
section
variable {K : PySem.W.Frag} {c : Cfg} {H : Hp} {m : Hm}
theorem RpWs.oneI {vs : List V} {w : W} (r : RpWs K c H vs [w]) : ∃ v, vs = [v] ∧ RpW K c H v w := by
  cases r with | cons r t => cases t; exact ⟨_, rfl, r⟩
theorem RpWs.twoI {vs : List V} {w w' : W} (r : RpWs K c H vs [w, w']) : ∃ v v', vs = [v, v'] ∧ RpW K c H v w ∧ RpW K c H v' w' := by
  cases r with | cons r t => cases t with | cons r' t => cases t; exact ⟨_, _, rfl, r, r'⟩
/-- the items of a list or tuple, read -/
def seqW (m : Hm) : W → Option (List W)
  | .p (.list ds) => some (ds.map .p)
  | .p (.tuple ds) => some (ds.map .p)
  | .ro ds => some (ds.map .p)
  | .tw ws => some ws
  | .loc n => match m[n]? with
    | some (.lst ws) => some ws
    | _ => none
  | _ => none
theorem seqW_ok {v : V} {w : W} {ws : List W} (hm : HRel K c m H) (r : RpW K c H v w) (e : seqW m w = some ws) : ∃ a xs, v = .ref a ∧ (SqL K H a xs ∨ SqT K H a xs) ∧ xs.length ≤ sizeLine ∧ RpWs K c H xs ws := by
  cases r with
  | p r =>
    cases r with
    | lst h n n2 z r => cases e; exact ⟨_, _, rfl, .inl (SqL.of h), z, r.toWs⟩
    | tup h z r => cases e; exact ⟨_, _, rfl, .inr h.sq, z, r.toWs⟩
    | _ => cases e
  | ro h z r => cases e; exact ⟨_, _, rfl, .inl h.sq, z, r.toWs⟩
  | @loc a n h =>
    simp only [seqW] at e
    cases q : m[n]? with
    | none => rw [q] at e; cases e
    | some x =>
      rw [q] at e
      cases x with
      | lst ws =>
        cases e
        obtain ⟨b, hb, xs, hx, z, rr⟩ := hm.at_ n _ q
        rw [h] at hb; cases hb
        exact ⟨_, _, rfl, .inl (SqL.of hx), z, rr⟩
      | dct => cases e
      | ins => cases e
  | tw h z r => cases e; exact ⟨_, _, rfl, .inr h.sq, z, r⟩
end
def lenM : List W → Hm → Res W
  | [.p (.str x)], m => if x.length ≤ sizeLine then .ok (.p (.int x.length)) m else .stuck
  | [w], m => match seqW m w with
    | some ws => .ok (.p (.int ws.length)) m
    | none => .stuck
  | _, _ => .stuck
theorem lenM_ok {K : PySem.W.Frag} : CallM K (fun xs H Q => ∃ x n, xs = [x] ∧ LenV K x H n ∧ Q (.int n) H) lenM := by
  intro U σ c H m vs ws Q hm r hp
  unfold lenM at hp
  split at hp
  · obtain ⟨v, rfl, r1⟩ := r.oneI
    have r := r1
    cases r with | p r =>
    cases r
    split at hp
    · rename_i hz
      exact ⟨_, _, rfl, ⟨hz, rfl⟩, hp.ok hm _ (.p (.int _))⟩
    · exact hp.elim
  · obtain ⟨v, rfl, r1⟩ := r.oneI
    have r := r1
    split at hp
    · rename_i ws' e
      obtain ⟨a, xs, rfl, h, z, q⟩ := seqW_ok hm r e
      have l := q.length
      refine ⟨_, xs.length, rfl, ?_, by rw [l]; exact hp.ok hm _ (.p (.int _))⟩
      rcases h with h | h
      · exact .inl ⟨xs, h, rfl⟩
      · exact .inr ⟨xs, h, rfl⟩
    · exact hp.elim
  · exact hp.elim
/-- bools of data -/
def boolsOf : List W → Option (List Bool)
  | [] => some []
  | .p (.bool b) :: r => (boolsOf r).map (b :: ·)
  | _ :: _ => none
@[simp] theorem boolsOf_nil : boolsOf [] = some [] := rfl
@[simp] theorem boolsOf_cons (b : Bool) (r : List W) : boolsOf (.p (.bool b) :: r) = (boolsOf r).map (b :: ·) := rfl
@[simp] theorem boolsOf_map (bs : List Bool) : boolsOf ((bs.map PyData.bool).map W.p) = some bs := by
  induction bs with
  | nil => rfl
  | cons n r ih => rw [List.map_cons, List.map_cons, boolsOf_cons, ih]; rfl
theorem RpWs.bools {K : PySem.W.Frag} {c : Cfg} {H : Hp} : ∀ {xs : List V} {ws : List W} {bs : List Bool}, RpWs K c H xs ws → boolsOf ws = some bs → xs = bs.map V.bl
  | _, [], _, h, e => by cases h; cases e; rfl
  | _, w :: ws, bs, h, e => by
    cases h with
    | cons r t =>
      cases w with
      | p d =>
        cases d with
        | bool b =>
          obtain ⟨bs', e', rfl⟩ := Option.map_eq_some_iff.mp (show (boolsOf ws).map (b :: ·) = some bs from e)
          cases r with | p r =>
          cases r
          rw [RpWs.bools t e']
          rfl
        | _ => cases e
      | _ => cases e
def isL (w : W) : Bool := match w with
  | .p (.list _) => true
  | .loc _ => true
  | .ro _ => true
  | _ => false
theorem seqW_list {K : PySem.W.Frag} {c : Cfg} {H : Hp} {m : Hm} {v : V} {w : W} {ws : List W} (hm : HRel K c m H) (r : RpW K c H v w) (e : seqW m w = some ws) (hl : isL w = true) : ∃ a xs, v = .ref a ∧ SqL K H a xs ∧ xs.length ≤ sizeLine ∧ RpWs K c H xs ws := by
  cases r with
  | p r =>
    cases r with
    | lst h n n2 z r => cases e; exact ⟨_, _, rfl, SqL.of h, z, r.toWs⟩
    | tup h z r => cases hl
    | _ => cases e
  | ro h z r => cases e; exact ⟨_, _, rfl, h.sq, z, r.toWs⟩
  | @loc a n h =>
    simp only [seqW] at e
    cases q : m[n]? with
    | none => rw [q] at e; cases e
    | some x =>
      rw [q] at e
      cases x with
      | lst ws =>
        cases e
        obtain ⟨b, hb, xs, hx, z, rr⟩ := hm.at_ n _ q
        rw [h] at hb; cases hb
        exact ⟨_, _, rfl, SqL.of hx, z, rr⟩
      | dct => cases e
      | ins => cases e
  | tw h z r => cases hl
/-- all, any of a list of bools -/
def allM (k : Bool) : List W → Hm → Res W
  | [w], m => if isL w = true then (match (seqW m w).bind boolsOf with
    | some bs => .ok (.p (.bool (if k = true then bs.all id else bs.any id))) m
    | none => .stuck) else .stuck
  | _, _ => .stuck
theorem allM_ok {K : PySem.W.Frag} : CallM K (rAll K) (allM true) := by
  intro U σ c H m vs ws Q hm r hp
  unfold allM at hp
  split at hp
  · obtain ⟨v, rfl, r1⟩ := r.oneI
    have r := r1
    split at hp
    · rename_i hl
      split at hp
      · rename_i bs e
        obtain ⟨ws', e1, e2⟩ := Option.bind_eq_some_iff.mp e
        obtain ⟨a, xs, rfl, h, z, q⟩ := seqW_list hm r e1 hl
        have := q.bools e2
        subst this
        exact ⟨a, bs, rfl, h, hp.ok hm _ (.p (.bl _))⟩
      · exact hp.elim
    · exact hp.elim
  · exact hp.elim
theorem anyM_ok {K : PySem.W.Frag} : CallM K (rAny K) (allM false) := by
  intro U σ c H m vs ws Q hm r hp
  unfold allM at hp
  split at hp
  · obtain ⟨v, rfl, r1⟩ := r.oneI
    have r := r1
    split at hp
    · rename_i hl
      split at hp
      · rename_i bs e
        obtain ⟨ws', e1, e2⟩ := Option.bind_eq_some_iff.mp e
        obtain ⟨a, xs, rfl, h, z, q⟩ := seqW_list hm r e1 hl
        have := q.bools e2
        subst this
        exact ⟨a, bs, rfl, h, hp.ok hm _ (.p (.bl _))⟩
      · exact hp.elim
    · exact hp.elim
  · exact hp.elim
/-- abs, int -/
def absM : List W → Hm → Res W
  | [.p (.int i)], m => .ok (.p (.int (if i < 0 then -i else i))) m
  | _, _ => .stuck
theorem absM_ok {K : PySem.W.Frag} : CallM K (fun xs H Q => ∃ i, xs = [.int i] ∧ Q (.int (if i < 0 then -i else i)) H) absM := by
  intro U σ c H m vs ws Q hm r hp
  unfold absM at hp
  split at hp
  · obtain ⟨v, rfl, r1⟩ := r.oneI
    have r := r1
    cases r with | p r =>
    cases r
    exact ⟨_, rfl, hp.ok hm _ (.p (.int _))⟩
  · exact hp.elim
def intM1 : List W → Hm → Res W
  | [.p (.int i)], m => .ok (.p (.int i)) m
  | [.p (.bool k)], m => .ok (.p (.int (if k = true then 1 else 0))) m
  | _, _ => .stuck
theorem intM1_ok {K : PySem.W.Frag} : CallM K (fun xs H Q => (∃ i, xs = [.int i] ∧ Q (.int i) H) ∨ ∃ k, xs = [.bl k] ∧ Q (.int (if k = true then 1 else 0)) H) intM1 := by
  intro U σ c H m vs ws Q hm r hp
  unfold intM1 at hp
  split at hp
  · obtain ⟨v, rfl, r1⟩ := r.oneI
    have r := r1
    cases r with | p r =>
    cases r
    exact .inl ⟨_, rfl, hp.ok hm _ (.p (.int _))⟩
  · obtain ⟨v, rfl, r1⟩ := r.oneI
    have r := r1
    cases r with | p r =>
    cases r
    exact .inr ⟨_, rfl, hp.ok hm _ (.p (.int _))⟩
  · exact hp.elim
/-- list(x): a list that nobody changes; a cell -/
def listM : List W → Hm → Res W
  | [w], m => match (seqW m w).bind allP with
    | some ds => .ok (.p (.list ds)) m
    | none => .stuck
  | _, _ => .stuck
def listML : List W → Hm → Res W
  | [w], m => match seqW m w with
    | some ws => .ok (.loc m.length) (m ++ [.lst ws])
    | none => .stuck
  | _, _ => .stuck
abbrev rListOf (K : PySem.W.Frag) : List V → Hp → VK → Prop := fun xs H Q => ∃ p ys, xs = [.ref p] ∧ (SqL K H p ys ∨ SqT K H p ys) ∧ ∀ l, H l = none → Q (.ref l) (upd H l (.lst ys))
theorem listM_ok {K : PySem.W.Frag} : CallM K (rListOf K) listM := by
  intro U σ c H m vs ws Q hm r hp
  unfold listM at hp
  split at hp
  · obtain ⟨v, rfl, r1⟩ := r.oneI
    have r := r1
    split at hp
    · rename_i ds e
      obtain ⟨ws', e1, e2⟩ := Option.bind_eq_some_iff.mp e
      obtain ⟨a, xs, rfl, h, z, q⟩ := seqW_ok hm r e1
      exact ⟨a, xs, rfl, h, fun l hl => hp c _ (Ext.new hl) (hm.new hl) _ (.p (Rp.newL hm hl z (allP_rp q e2)))⟩
    · exact hp.elim
  · exact hp.elim
theorem listML_ok {K : PySem.W.Frag} : CallM K (rListOf K) listML := by
  intro U σ c H m vs ws Q hm r hp
  unfold listML at hp
  split at hp
  · obtain ⟨v, rfl, r1⟩ := r.oneI
    have r := r1
    split at hp
    · rename_i ws' e1
      obtain ⟨a, xs, rfl, h, z, q⟩ := seqW_ok hm r e1
      refine ⟨a, xs, rfl, h, fun l hl => ?_⟩
      obtain ⟨q1, q2⟩ := RpW.newC hm hl z q
      exact hp _ _ (Ext.cell hl) q1 _ q2
    · exact hp.elim
  · exact hp.elim
/-- tuple(x) -/
def tupleM : List W → Hm → Res W
  | [w], m => match seqW m w with
    | some ws => .ok (mkTup ws) m
    | none => .stuck
  | _, _ => .stuck
abbrev rTupleOf (K : PySem.W.Frag) : List V → Hp → VK → Prop := fun xs H Q => ∃ p ys, xs = [.ref p] ∧ ((SqL K H p ys ∧ ∀ l, H l = none → Q (.ref l) (upd H l (.tup ys))) ∨ (SqT K H p ys ∧ Q (.ref p) H))
theorem RpW.tupE {K : PySem.W.Frag} {c : Cfg} {H : Hp} {m : Hm} {v : V} {w : W} {ws : List W} (r : RpW K c H v w) (e : seqW m w = some ws) (hl : isL w = false) : ∃ a xs, v = .ref a ∧ SqT K H a xs ∧ RpW K c H v (mkTup ws) := by
  cases r with
  | p r =>
    cases r with
    | lst h n n2 z r => cases hl
    | tup h z r => cases e; exact ⟨_, _, rfl, h.sq, by rw [mkTup_map]; exact .p (.tup h z r)⟩
    | _ => cases e
  | ro h z r => cases hl
  | loc h => cases hl
  | tw h z r =>
    cases e
    refine ⟨_, _, rfl, h.sq, ?_⟩
    unfold mkTup
    split
    · rename_i ds e
      exact .p (.tup h z (allP_rp r e))
    · exact .tw h z r
theorem tupleM_ok {K : PySem.W.Frag} : CallM K (rTupleOf K) tupleM := by
  intro U σ c H m vs ws Q hm r hp
  unfold tupleM at hp
  split at hp
  · obtain ⟨v, rfl, r1⟩ := r.oneI
    have r := r1
    split at hp
    · rename_i ws' e1
      cases hl : isL _ with
      | true =>
        obtain ⟨a, xs, rfl, h, z, q⟩ := seqW_list hm r e1 hl
        exact ⟨a, xs, rfl, .inl ⟨h, fun l hl => hp c _ (Ext.new hl) (hm.new hl) _ (RpW.newT hm hl z q)⟩⟩
      | false =>
        obtain ⟨a, xs, rfl, h, q⟩ := r.tupE e1 hl
        exact ⟨a, xs, rfl, .inr ⟨h, hp.ok hm _ q⟩⟩
    · exact hp.elim
  · exact hp.elim

/-! ### isinstance -/
def tyN (m : Hm) : W → Option String
  | .p .none => some "NoneType"
  | .p (.bool _) => some "bool"
  | .p (.int _) => some "int"
  | .p (.str _) => some "str"
  | .p (.list _) => some "list"
  | .p (.tuple _) => some "tuple"
  | .tw _ => some "tuple"
  | .loc n => match m[n]? with
    | some (.lst _) => some "list"
    | _ => none
  | _ => none
theorem tyN_ok {K : PySem.W.Frag} {c : Cfg} {H : Hp} {m : Hm} {v : V} {w : W} {t : String} (hm : HRel K c m H) (r : RpW K c H v w) (e : tyN m w = some t) : TyX K H v (.type t) := by
  have tup : ∀ {a : Addr} {xs : List V}, TupAt K c H a xs → TyX K H (.ref a) (.type "tuple") := fun {a xs} h => by
    rcases h with ⟨h | ⟨o, h⟩, _⟩ | ⟨o, its, n, h, hc, _⟩
    · exact .base (.tup h)
    · exact .fTuple h
    · exact .kTuple h hc
  cases r with
  | p r =>
    cases r with
    | non => cases e; exact .base .non
    | bl b => cases e; exact .base (.bl b)
    | int i => cases e; exact .base (.int i)
    | str x => cases e; exact .base (.str x)
    | lst h => cases e; exact .base (.lst h)
    | tup h => cases e; exact tup h
  | ro => cases e
  | @loc a n h =>
    simp only [tyN] at e
    cases q : m[n]? with
    | none => rw [q] at e; cases e
    | some x =>
      rw [q] at e
      cases x with
      | lst ws =>
        cases e
        obtain ⟨b, hb, xs, hx, z, rr⟩ := hm.at_ n _ q
        rw [h] at hb; cases hb
        exact .base (.lst hx)
      | dct => cases e
      | ins => cases e
  | tw h => cases e; exact tup h
/-- isinstance(x, C), C one of int, bool, str, tuple, list -/
def isiA (t C : String) : Bool := (t == C) || ((t == "bool") && (C == "int"))
def isiM (C : String) : W → Hm → Res W := fun w m => match tyN m w with
  | some t => .ok (.p (.bool (isiA t C))) m
  | none => .stuck
theorem kit_isi {K : PySem.W.Frag} {t C : String} (ht : t ∈ ["NoneType", "bool", "int", "str", "list", "tuple"]) (hC : C ∈ ["bool", "int", "str", "list", "tuple"]) : PySem.W.kitOne K (.type t) (.type C) = some (isiA t C) := by
  simp only [List.mem_cons, List.not_mem_nil, or_false] at ht hC
  rcases ht with rfl | rfl | rfl | rfl | rfl | rfl <;> rcases hC with rfl | rfl | rfl | rfl | rfl <;> exact kit_ty (by decide +kernel)
theorem tyN_mem {m : Hm} {w : W} {t : String} (e : tyN m w = some t) : t ∈ ["NoneType", "bool", "int", "str", "list", "tuple"] := by
  unfold tyN at e
  split at e <;> first | (cases e; simp; done) | skip
  · split at e
    · cases e; simp
    · cases e
  · cases e
theorem x_isi {X : Cx} {U : WX} {p p2 pos : Pos} {e : Expr} {f : EX W} {C : Str} {C' : String} (hC : C' ∈ ["bool", "int", "str", "list", "tuple"]) (hmi : X.mg "isinstance" = none) (hmC : X.mg C = none) (hv : bootBuiltins C = some (.type C')) (he : PE X e (T X.K U f))
    (hgi : Gl X "isinstance" := by rfl) (hgC : Gl X C := by rfl) (hn : C ≠ "__name__" := by decide) (hdb : (C == ("__debug__" : Str)) = false := by decide)
    (h1 : starEach (e :: [.Name C p2]) X.env = (false, eval e X.env) :: starEach [.Name C p2] X.env := by rfl) (h2 : starEach [.Name C p2] X.env = (false, eval (.Name C p2) X.env) :: starEach [] X.env := by rfl) (hpl : (backTo pos (starEach [.Name C p2] X.env)).any (·.1) = false := by rfl) :
    PE X (.Call (.Name "isinstance" p) [e, .Name C p2] [] pos) (T X.K U (eOp1 (isiM C') f)) := by
  refine imp (pe_callB call_isi hgi hmi (by decide +kernel) (pa_cons he (pa_cons (pe_bltn (v := .ty C') hgC hmC hv rfl hn hdb) pa_nil h2) h1) (by decide) (by decide) h1 hpl) ?_
  rintro σ H Q ⟨c, s, m, hs, hm, hp⟩
  refine T.run hs hm hp fun c1 H1 w1 m1 v1 e1 hs1 hm1 r1 hp1 => ?_
  unfold isiM at hp1
  split at hp1
  · rename_i t e
    exact ⟨v1, .ty C', .type t, .type C', _, rfl, .ty C', tyN_ok hm1 r1 e, kit_isi (tyN_mem e) hC, hp1.ok hm1 _ (.p (.bl _))⟩
  · exact hp1.elim
end Mir

namespace Mir
open PySem PySem.Spec PyProof.Rows L2

/-! ### list(range(..)), tuple(range(..)) -/
def rgP (a b : Int) : List PyData := (List.range (b - a).toNat).map fun i => PyData.int (a + (i : Nat))
theorem rgP_rp {K : PySem.W.Frag} {c : Cfg} {H : Hp} (a b : Int) : RpAll K c H (rgV a b) (rgP a b) := by
  unfold rgV rgP
  generalize List.range (b - a).toNat = l
  induction l with
  | nil => exact .nil
  | cons i r ih => exact .cons (.int _) ih
def rgOk (a b : Int) : Bool := decide (0 ≤ a) && (decide (a ≤ 1000000) && (decide (0 ≤ b) && decide (b ≤ 1000000)))
theorem rgOk_of {a b : Int} (h : rgOk a b = true) : RgOk a b := by
  simp only [rgOk, Bool.and_eq_true, decide_eq_true_eq] at h
  exact RgOk.of_le (by omega) (by omega) (by omega) (by omega)
theorem rgV_len {a b : Int} (h : rgOk a b = true) : (rgV a b).length ≤ sizeLine := by
  have := (rgOk_of h).2.2.2.2
  rw [rgV_length]
  exact this
inductive RK where | l | c | t
def RK.o : RK → List V → HO
  | .t, xs => .tup xs
  | _, xs => .lst xs
def rgMk (k : RK) (a b : Int) (m : Hm) : Res W := if rgOk a b = true then (match k with
  | .l => .ok (.p (.list (rgP a b))) m
  | .c => .ok (.loc m.length) (m ++ [.lst ((rgP a b).map .p)])
  | .t => .ok (.p (.tuple (rgP a b))) m) else .stuck
def eRg1 (k : RK) (f : EX W) : EX W := fun s m => (f s m).bind fun w m1 => match w with
  | .p (.int n) => rgMk k 0 n m1
  | _ => .stuck
def eRg2 (k : RK) (f g : EX W) : EX W := fun s m => (f s m).bind fun w m1 => (g s m1).bind fun w' m2 => match w, w' with
  | .p (.int a), .p (.int b) => rgMk k a b m2
  | _, _ => .stuck
section
variable {X : Cx} {U : WX} {p p2 pos pos2 : Pos} {a b : Expr} {f g : EX W}
theorem rg_fin {K : PySem.W.Frag} {σ : L2.St} {c : Cfg} {H : Hp} {m : Hm} {Q : VK} {k : RK} {a b : Int} (hm : HRel K c m H) (hp : Post K U σ c H (RQ K Q) (rgMk k a b m)) :
    RgOk a b ∧ ∀ q, H q = none → Q (.ref q) (upd H q (k.o (rgV a b))) := by
  unfold rgMk at hp
  split at hp
  · rename_i h
    refine ⟨rgOk_of h, fun q hq => ?_⟩
    cases k with
    | l => exact hp c _ (Ext.new hq) (hm.new hq) _ (.p (Rp.newL hm hq (rgV_len h) (rgP_rp a b)))
    | t => exact hp c _ (Ext.new hq) (hm.new hq) _ (.p (Rp.newT hm hq (rgV_len h) (rgP_rp a b)))
    | c =>
      obtain ⟨q1, q2⟩ := RpW.newC hm hq (rgV_len h) (rgP_rp a b).toWs
      exact hp _ _ (Ext.cell hq) q1 _ q2
  · exact hp.elim
theorem x_rg1 (hc : X.calm = true) (hr : X.mg "range" = none) {k : RK} (ha : PE X a (T X.K U f)) (hgr : Gl X "range" := by rfl) (na : starEach [a] X.env = (false, eval a X.env) :: starEach [] X.env := by rfl) :
    ∀ {σ : L2.St} {H : Hp} {Q : VK}, T X.K U (eRg1 k f) σ H Q → tRg1 (T X.K U f) σ H fun a b H1 => RgOk a b ∧ ∀ q, H1 q = none → Q (.ref q) (upd H1 q (k.o (rgV a b))) := by
  rintro σ H Q ⟨c, s, m, hs, hm, hp⟩
  refine T.run hs hm hp fun c1 H1 w1 m1 v1 e1 hs1 hm1 r1 hp1 => ?_
  split at hp1
  · cases r1 with | p r1 =>
    cases r1
    exact ⟨_, rfl, rg_fin hm1 hp1⟩
  · exact hp1.elim
theorem x_listRg1 (hc : X.calm = true) (hl : X.mg "list" = none) (hr : X.mg "range" = none) (ha : PE X a (T X.K U f)) (hgl : Gl X "list" := by rfl) (hgr : Gl X "range" := by rfl) (na : starEach [a] X.env = (false, eval a X.env) :: starEach [] X.env := by rfl)
    (nb : starEach [.Call (.Name "range" p) [a] [] pos] X.env = (false, eval (.Call (.Name "range" p) [a] [] pos) X.env) :: starEach [] X.env := by rfl) :
    PE X (.Call (.Name "list" p2) [.Call (.Name "range" p) [a] [] pos] [] pos2) (T X.K U (eRg1 .l f)) :=
  imp (pe_listRg hc hgl hl (prg_1 hgr hr ha na) nb) fun _ _ _ h => x_rg1 hc hr (k := .l) ha hgr na h
theorem x_listRg1L (hc : X.calm = true) (hl : X.mg "list" = none) (hr : X.mg "range" = none) (ha : PE X a (T X.K U f)) (hgl : Gl X "list" := by rfl) (hgr : Gl X "range" := by rfl) (na : starEach [a] X.env = (false, eval a X.env) :: starEach [] X.env := by rfl)
    (nb : starEach [.Call (.Name "range" p) [a] [] pos] X.env = (false, eval (.Call (.Name "range" p) [a] [] pos) X.env) :: starEach [] X.env := by rfl) :
    PE X (.Call (.Name "list" p2) [.Call (.Name "range" p) [a] [] pos] [] pos2) (T X.K U (eRg1 .c f)) :=
  imp (pe_listRg hc hgl hl (prg_1 hgr hr ha na) nb) fun _ _ _ h => x_rg1 hc hr (k := .c) ha hgr na h
theorem x_tupRg1 (hc : X.calm = true) (hl : X.mg "tuple" = none) (hr : X.mg "range" = none) (ha : PE X a (T X.K U f)) (hgl : Gl X "tuple" := by rfl) (hgr : Gl X "range" := by rfl) (na : starEach [a] X.env = (false, eval a X.env) :: starEach [] X.env := by rfl)
    (nb : starEach [.Call (.Name "range" p) [a] [] pos] X.env = (false, eval (.Call (.Name "range" p) [a] [] pos) X.env) :: starEach [] X.env := by rfl) :
    PE X (.Call (.Name "tuple" p2) [.Call (.Name "range" p) [a] [] pos] [] pos2) (T X.K U (eRg1 .t f)) :=
  imp (pe_tupRg hc hgl hl (prg_1 hgr hr ha na) nb) fun _ _ _ h => x_rg1 hc hr (k := .t) ha hgr na h
end

/-! ### subscripts -/
def idxM : W → W → Hm → Res W
  | .p (.tuple ds), .p (.int i), m => match atI ds i with
    | some d => .ok (.p d) m
    | none => .stuck
  | .p (.list ds), .p (.int i), m => match atI ds i with
    | some d => .ok (.p d) m
    | none => .stuck
  | .tw ws, .p (.int i), m => match atI ws i with
    | some w => .ok w m
    | none => .stuck
  | .loc n, .p (.int i), m => match m[n]? with
    | some (.lst ws) => (match atI ws i with
      | some w => .ok w m
      | none => .stuck)
    | _ => .stuck
  | .p (.str z), .p (.int i), m => if z.length ≤ sizeLine then (match atI z.cps.toList i with
    | some c => .ok (.p (.str ⟨#[c]⟩)) m
    | none => .stuck) else .stuck
  | _, _, _ => .stuck
section
variable {K : PySem.W.Frag} {c : Cfg} {H : Hp} {m : Hm}
theorem atI_rpA {xs : List V} {ds : List PyData} {i : Int} {d : PyData} (r : RpAll K c H xs ds) (e : atI ds i = some d) : ∃ v, atI xs i = some v ∧ Rp K c H v d := by
  unfold atI at e ⊢
  rw [r.length]
  obtain ⟨j, e1, e2⟩ := Option.bind_eq_some_iff.mp e
  rw [e1]
  exact r.get e2
theorem atI_rpW {xs : List V} {ds : List W} {i : Int} {d : W} (r : RpWs K c H xs ds) (e : atI ds i = some d) : ∃ v, atI xs i = some v ∧ RpW K c H v d := by
  unfold atI at e ⊢
  rw [r.length]
  obtain ⟨j, e1, e2⟩ := Option.bind_eq_some_iff.mp e
  rw [e1]
  exact r.get e2
end
theorem idxM_ok {K : PySem.W.Frag} : OpM K (rIx K) idxM := by
  intro U σ c H m v1 v2 w1 w2 Q hm r1 r2 hp
  unfold idxM at hp
  split at hp
  · cases r1 with | p r1 => cases r2 with | p r2 =>
    cases r2
    obtain ⟨a, xs, rfl, h, z, q⟩ := r1.tupI
    split at hp
    · rename_i d e
      obtain ⟨v, e', r⟩ := atI_rpA q e
      exact .inr (.inl ⟨a, xs, _, v, rfl, rfl, h.sq, e', hp.ok hm v (.p r)⟩)
    · exact hp.elim
  · cases r1 with | p r1 => cases r2 with | p r2 =>
    cases r2
    obtain ⟨a, xs, rfl, h, _, _, z, q⟩ := r1.lstI
    split at hp
    · rename_i d e
      obtain ⟨v, e', r⟩ := atI_rpA q e
      exact .inl ⟨a, xs, _, v, rfl, rfl, SqL.of h, e', hp.ok hm v (.p r)⟩
    · exact hp.elim
  · cases r2 with | p r2 =>
    cases r2
    cases r1 with
    | tw h z q =>
      split at hp
      · rename_i d e
        obtain ⟨v, e', r⟩ := atI_rpW q e
        exact .inr (.inl ⟨_, _, _, v, rfl, rfl, h.sq, e', hp.ok hm v r⟩)
      · exact hp.elim
  · cases r2 with | p r2 =>
    cases r2
    split at hp
    · rename_i ws q
      cases r1 with
      | loc h =>
        obtain ⟨b, hb, xs, hx, z, rr⟩ := hm.at_ _ _ q
        rw [h] at hb; cases hb
        split at hp
        · rename_i d e
          obtain ⟨v, e', r⟩ := atI_rpW rr e
          exact .inl ⟨_, _, _, v, rfl, rfl, SqL.of hx, e', hp.ok hm v r⟩
        · exact hp.elim
    · exact hp.elim
  · cases r1 with | p r1 => cases r2 with | p r2 =>
    cases r1; cases r2
    split at hp
    · rename_i hz
      split at hp
      · rename_i c e
        exact .inr (.inr ⟨_, _, _, rfl, rfl, hz, e, hp.ok hm _ (.p (.str _))⟩)
      · exact hp.elim
    · exact hp.elim
  · exact hp.elim
section
variable {X : Cx} {U : WX} {pos : Pos} {a b : Expr} {f1 f2 : EX W}
theorem x_ix (ha : PE X a (T X.K U f1)) (hb : PE X b (T X.K U f2)) (hs : PlainIx b := by intro _ _; rfl) : PE X (.Subscript a b pos) (T X.K U (eOp2 idxM f1 f2)) := imp (pe_ix ix_seq ha hb hs) fun _ _ _ h => t_op2 idxM_ok h
end

/-! ### slices -/
/-- the items of xs[lo:hi] -/
def cutA {α : Type} (xs : List α) (lo hi : Option Int) : List α := (xs.drop (HT.sIx xs.length 0 lo)).take (HT.sIx xs.length xs.length hi - HT.sIx xs.length 0 lo)
theorem cut_rpA {K : PySem.W.Frag} {c : Cfg} {H : Hp} {xs : List V} {ds : List PyData} (r : RpAll K c H xs ds) (lo hi : Option Int) : RpAll K c H (cutV xs lo hi) (cutA ds lo hi) := by
  unfold cutV cutA
  rw [r.length]
  exact RpAll.take _ (RpAll.drop _ r)
theorem cutA_all {α : Type} {ds : List α} {lo hi : Option Int} (h1 : HT.sIx ds.length 0 lo = 0) (h2 : HT.sIx ds.length ds.length hi = ds.length) : cutA ds lo hi = ds := by
  unfold cutA
  rw [h1, h2, List.drop_zero, Nat.sub_zero]
  exact List.take_length
abbrev PX := Ev → Hm → Res (Option Int)
def oNone : PX := fun _ m => .ok none m
def oSome (f : EX W) : PX := fun s m => (f s m).bind fun w m1 => match w with
  | .p (.int i) => .ok (some i) m1
  | _ => .stuck
def TO' (K : PySem.W.Frag) (U : WX) (f : PX) : TO := fun σ H Q => ∃ c s m, SRel K c H s σ ∧ HRel K c m H ∧ Post K U σ c H (fun _ H' o _ => Q o H') (f s m)
theorem TO'.run {K : PySem.W.Frag} {U : WX} {σ : L2.St} {c : Cfg} {H : Hp} {m : Hm} {s : Ev} {α : Type} {f : PX} {k : Option Int → Hm → Res α} {R : Cfg → Hp → α → Hm → Prop} {Z : Option Int → Hp → Prop} (hs : SRel K c H s σ) (hm : HRel K c m H) (hp : Post K U σ c H R ((f s m).bind k))
    (h : ∀ c1 H1 b m1, Ext c H c1 H1 → SRel K c1 H1 s σ → HRel K c1 m1 H1 → Post K U σ c1 H1 R (k b m1) → Z b H1) : TO' K U f σ H Z := by
  refine ⟨c, s, m, hs, hm, ?_⟩
  cases e : f s m with
  | stuck => rw [e] at hp; exact hp
  | ok a m' =>
    rw [e] at hp
    exact fun c' H' e' hm' => h c' H' a m' e' (hs.mono e') hm' (hp.ext e')
  | exc x m' => rw [e] at hp; exact hp
theorem impO {X : Cx} {e : Option Expr} {t t' : TO} (h : PO X e t) (i : ∀ σ H Q, t' σ H Q → t σ H Q) : PO X e t' := ⟨fun pins s σ H Q I hw => h.run pins s σ H Q I (i σ H Q hw)⟩
section
variable {X : Cx} {U : WX} {pos p2 : Pos} {a : Expr} {f : EX W} {fl fh : PX} {lo hi : Option Expr}
theorem o_none : PO X none (TO' X.K U oNone) := impO po_none fun σ H Q ⟨c, s, m, hs, hm, hp⟩ => hp.ok hm
theorem o_some (ha : PE X a (T X.K U f)) : PO X (some a) (TO' X.K U (oSome f)) := by
  refine impO (po_some ha) ?_
  rintro σ H Q ⟨c, s, m, hs, hm, hp⟩
  refine T.run hs hm hp fun c1 H1 w1 m1 v1 e1 hs1 hm1 r1 hp1 => ?_
  split at hp1
  · cases r1 with | p r1 =>
    cases r1
    exact ⟨_, rfl, hp1.ok hm1⟩
  · exact hp1.elim
def cutM (w : W) (lo hi : Option Int) (m : Hm) : Res W := match w with
  | .p (.tuple ds) => .ok (.p (.tuple (cutA ds lo hi))) m
  | .p (.list ds) => .ok (.p (.list (cutA ds lo hi))) m
  | .p (.str z) => if z.length ≤ sizeLine then .ok (.p (.str (cutS z lo hi))) m else .stuck
  | .loc n => match m[n]? with
    | some (.lst ws) => (match allP (cutA ws lo hi) with
      | some ds => .ok (.p (.list ds)) m
      | none => .stuck)
    | _ => .stuck
  | _ => .stuck
def eCut (f : EX W) (fl fh : PX) : EX W := fun s m => (f s m).bind fun w m1 => (fl s m1).bind fun lo m2 => (fh s m2).bind fun hi m3 => cutM w lo hi m3
abbrev rCutAll (K : PySem.W.Frag) : V → Option Int → Option Int → Hp → VK → Prop := fun x lo hi H Q => rSlA K x lo hi H Q ∨ (rSlL K x lo hi H Q ∨ rSlS x lo hi H Q)
theorem x_cut (ha : PE X a (T X.K U f)) (hl : PO X lo (TO' X.K U fl)) (hh : PO X hi (TO' X.K U fh)) : PE X (.Subscript a (.Slice lo hi none p2) pos) (T X.K U (eCut f fl fh)) := by
  refine imp (pe_slice (r := rCutAll X.K) (sl_tupA.or (sl_list.or sl_str)) ha hl hh) ?_
  rintro σ H Q ⟨c, s, m, hs, hm, hp⟩
  refine T.run hs hm hp fun c1 H1 w1 m1 v1 e1 hs1 hm1 r1 hp1 => TO'.run hs1 hm1 hp1 fun c2 H2 l m2 e2 hs2 hm2 hp2 => TO'.run hs2 hm2 hp2 fun c3 H3 h m3 e3 hs3 hm3 hp3 => ?_
  have r := (r1.mono e2).mono e3
  unfold cutM at hp3
  split at hp3
  · cases r with | p r =>
    obtain ⟨a, xs, rfl, hT, z, q⟩ := r.tupI
    refine .inl ⟨a, xs, rfl, hT.sq, fun hw => ?_, fun _ p hpn => ?_⟩
    · refine hp3.ok hm3 _ (.p ?_)
      have l := q.length
      rw [l] at hw
      rw [cutA_all hw.1 hw.2]
      exact .tup hT z q
    · have z' := cutV_length xs l h
      exact hp3 c3 _ (Ext.new hpn) (hm3.new hpn) _ (.p (Rp.newT hm3 hpn (by omega) (cut_rpA q l h)))
  · cases r with | p r =>
    obtain ⟨a, xs, rfl, hT, _, _, z, q⟩ := r.lstI
    refine .inr (.inl ⟨a, xs, rfl, SqL.of hT, fun p hpn => ?_⟩)
    have z' := cutV_length xs l h
    exact hp3 c3 _ (Ext.new hpn) (hm3.new hpn) _ (.p (Rp.newL hm3 hpn (by omega) (cut_rpA q l h)))
  · cases r with | p r =>
    cases r
    split at hp3
    · rename_i hz
      exact .inr (.inr ⟨_, rfl, hz, hp3.ok hm3 _ (.p (.str _))⟩)
    · exact hp3.elim
  · split at hp3
    · rename_i ws q
      cases r with
      | loc h' =>
        obtain ⟨b, hb, xs, hx, z, rr⟩ := hm3.at_ _ _ q
        rw [h'] at hb; cases hb
        split at hp3
        · rename_i ds e
          refine .inr (.inl ⟨_, xs, rfl, SqL.of hx, fun p hpn => ?_⟩)
          have z' := cutV_length xs l h
          have rr' : RpWs X.K c3 H3 (cutV xs l h) (cutA ws l h) := by
            unfold cutV cutA
            rw [rr.length]
            exact RpWs.take _ (RpWs.drop _ rr)
          exact hp3 c3 _ (Ext.new hpn) (hm3.new hpn) _ (.p (Rp.newL hm3 hpn (by omega) (allP_rp rr' e)))
        · exact hp3.elim
    · exact hp3.elim
  · exact hp3.elim
end
end Mir

namespace Mir
open PySem PySem.Spec PyProof.Rows L2 HT

/-! ### t[::-1], t[:0:-1] -/
section
variable {prog : Program} {w : World} {A : Around} {E : Value → Shared → Prop} {s : Shared}
theorem pick_back (xs : Array Value) (k : Nat) (hk : k ≤ xs.size) : ((List.range k).filterMap fun (m : Nat) => xs[(((xs.size : Int) - 1) + (m : Int) * (-1)).toNat]?).toArray = (xs.toList.reverse.take k).toArray := by
  congr 1
  induction k with
  | zero => simp
  | succ k ih =>
    rw [List.range_succ, List.filterMap_append, ih (by omega)]
    have e : (((xs.size : Int) - 1) + (k : Int) * (-1)).toNat = xs.size - 1 - k := by omega
    have hlt : xs.size - 1 - k < xs.size := by omega
    have h1 : xs[xs.size - 1 - k]? = some xs[xs.size - 1 - k] := Array.getElem?_eq_getElem hlt
    simp only [List.filterMap_cons, List.filterMap_nil, e, h1]
    rw [List.take_succ]
    have h2 : xs.toList.reverse[k]? = some xs[xs.size - 1 - k] := by
      rw [List.getElem?_reverse (by simpa using (by omega : k < xs.size))]
      simp [h1]
    rw [h2]
    rfl
/-- the number of places -/
def backN (n : Nat) : Option Int → Nat
  | none => n
  | some _ => n - 1
def backS (n : Nat) : Option Int → Int
  | none => -1
  | some _ => min 0 ((n : Int) - 1)
theorem sliceApplied_back {sl : Addr} {vl vu vs : Value} {hi : Option Int} {n : Nat} {Q : Int × Int × Nat → Shared → Prop} (hs : s.heap.IsSliceOf sl vl vu vs) (pl : IsPart vl none) (pu : IsPart vu hi) (ps : IsPart vs (some (-1))) (hh : hi = none ∨ hi = some 0)
    (h : Q ((n : Int) - 1, -1, backN n hi) s) : wpAny (model prog w) A (Builtin.Slice.sliceApplied (.ref sl) (pure (n : Int))) Q E s := by
  obtain ⟨os, hos, hcs, hds⟩ := id hs
  unfold Builtin.Slice.sliceApplied Builtin.Slice.sliceFields
  refine wpAny_bind (wpAny_bind (wpAny_field hos hds (x := vl) rfl (wpAny_bind (wpAny_field hos hds (x := vu) rfl (wpAny_bind (wpAny_field hos hds (x := vs) rfl (wpAny_pure ?_)))))))
  refine wpAny_bind (slicePart_ ps ?_)
  show wpAny _ _ (if ((-1 : Int) == 0) = true then _ else _) _ _ s
  rw [if_neg (by decide)]
  refine wpAny_bind (slicePart_ pl (wpAny_bind (slicePart_ pu (wpAny_bind (wpAny_pure ?_)))))
  show wpAny _ _ (match Builtin.Slice.sliceAdjust none hi (-1) (n : Int) with | (lo, hi) => pure (lo, (-1 : Int), Builtin.Slice.slicePlaces lo hi (-1))) _ _ s
  have e : Builtin.Slice.sliceAdjust none hi (-1) (n : Int) = ((n : Int) - 1, backS n hi) := by
    rcases hh with rfl | rfl
    · rfl
    · show ((n : Int) - 1, (if (0 : Int) < 0 then max ((0 : Int) + n) (-1) else min 0 ((n : Int) - 1))) = _
      rw [if_neg (by omega)]
      rfl
  rw [e]
  show wpAny _ _ (pure ((n : Int) - 1, (-1 : Int), Builtin.Slice.slicePlaces ((n : Int) - 1) (backS n hi) (-1))) _ _ s
  have e2 : Builtin.Slice.slicePlaces ((n : Int) - 1) (backS n hi) (-1) = backN n hi := by
    unfold Builtin.Slice.slicePlaces
    rw [if_neg (by decide)]
    rcases hh with rfl | rfl
    · show (if (n : Int) - 1 > -1 then ((n : Int) - 1 - -1 - 1) / (- -1) + 1 else 0).toNat = n
      rw [show (- -1 : Int) = 1 by decide]
      split <;> omega
    · show (if (n : Int) - 1 > min 0 ((n : Int) - 1) then ((n : Int) - 1 - min 0 ((n : Int) - 1) - 1) / (- -1) + 1 else 0).toNat = n - 1
      rw [show (- -1 : Int) = 1 by decide]
      split <;> omega
  rw [e2]
  exact wpAny_pure h
theorem getItem_tuple_back {t sl : Addr} {items : Array Value} {vl vu vs : Value} {hi : Option Int} {Q : Value → Shared → Prop} (ht : IsTup s.heap t items) (hs : s.heap.IsSliceOf sl vl vu vs) (pl : IsPart vl none) (pu : IsPart vu hi) (ps : IsPart vs (some (-1))) (hh : hi = none ∨ hi = some 0)
    (h : Q (.ref s.heap.objs.size) { s with heap := s.heap.push { cls := .type "tuple", data := .seq ((items.toList.reverse.take (backN items.size hi))).toArray } })
    (hsz : items.size ≤ sizeLine) : wpAny (model prog w) A (getItem (.ref t) (.ref sl)) Q E s := by
  have hk : backN items.size hi ≤ items.size := by cases hi <;> simp [backN]
  have htake : sizeOk (.seq (items.toList.reverse.take (backN items.size hi)).toArray) := by
    show (items.toList.reverse.take (backN items.size hi)).toArray.size ≤ sizeLine
    rw [List.size_toArray, List.length_take, List.length_reverse, Array.length_toList]
    omega
  obtain ⟨os, hos, hcs, hds⟩ := id hs
  have hTs : s.TypeIs (.ref sl) "slice" := ⟨os, hos, hcs⟩
  unfold getItem
  try with_reducible refine wpAny_holding ?_
  first | refine wpAny_bind (wpAny_pure ?_) | skip
  refine wpAny_bind (wpAny_sequenceKey ht.typeIs (by decide) ?_)
  refine wpAny_bind (wpAny_callSpecial?_slot (name := Str.ofString "__getitem__") ht.typeIs PyProof.Rows.slot_tuple_getitem
    (wpAny_call_entry PyProof.Rows.slot_tuple_getitem ht.typeIs entry_tuple_getitem ?_ (args_tuple_getitem _ _)))
  show wpAny _ _ (Builtin.Tuple.tupleItemsOf (.ref t) >>= _) _ _ s
  refine wpAny_bind (tupleItemsOf_ ht ?_)
  refine wpAny_bind (wpAny_typeOf hTs ?_)
  rw [if_pos (by decide)]
  refine wpAny_bind (sliceApplied_back hs pl pu ps hh ?_)
  have hno : ¬ ((((items.size : Int) - 1) == 0 && (-1 : Int) == 1 && (backN items.size hi) == items.size) = true) := by
    intro q
    rw [Bool.and_eq_true, Bool.and_eq_true] at q
    exact absurd q.1.2 (by decide)
  show wpAny _ _ (if (((items.size : Int) - 1) == 0 && (-1 : Int) == 1 && (backN items.size hi) == items.size) = true then _ else _) _ _ s
  rw [if_neg hno, pick_back _ _ hk]
  first
    | exact wpAny_bind (m := Builtin.Tuple.tupleExact _) (wpAny_newObj_type (wpAny_pure ⟨_, rfl, wpAny_pure h⟩) htake)
    | exact wpAny_bind (m := Builtin.Tuple.tupleExact _) (wpAny_newObj_type (wpAny_bind (wpAny_pure (wpAny_pure ⟨_, rfl, wpAny_pure h⟩))) htake)
    | exact wpAny_bind (wpAny_bind (m := Builtin.Tuple.tupleExact _) (wpAny_newObj_type (wpAny_pure (wpAny_pure ⟨_, rfl, wpAny_pure h⟩)) htake))
    | exact wpAny_bind (wpAny_bind (m := Builtin.Tuple.tupleExact _) (wpAny_newObj_type (wpAny_pure ⟨_, rfl, wpAny_pure h⟩) htake))
end
section
variable {X : Cx} {U : WX} {e : Expr} {te : TE} {f : EX W} {k k2 : Nat} {p1 p2 p3 p4 pos : Pos}
def tRevT (K : PySem.W.Frag) (hi : Option Int) (te : TE) : TE := fun σ H Q => te σ H fun x H1 => ∃ a xs, x = .ref a ∧ SqT K H1 a xs ∧ ∀ p, H1 p = none → Q (.ref p) (upd H1 p (.tup (xs.reverse.take (backN xs.length hi))))
theorem Vals.takeN {xs : List V} {us : List Value} (n : Nat) (r : Vals xs us) : Vals (xs.take n) (us.take n) := Vals.take n r
theorem pe_revT {hiE : Option Expr} {hi : Option Int} {th : TO} (hth : PO X hiE th) (hx : ∀ σ H Q, Q hi H → th σ H Q) (hh : hi = none ∨ hi = some 0) (he : PE X e te) : PE X (.Subscript e (.Slice none hiE (some (.UnaryOp .USub (.Constant (.int 1) k p1) p2)) p3) pos) (tRevT X.K hi te) := by
  refine ⟨fun pins s σ H Q I h => ?_⟩
  refine Subscript_ (thn (he.run pins s σ H _ I h) fun v s1 ⟨x, H1, I1, r1, q1⟩ => ?_)
  obtain ⟨a, xs, ex, hx', q⟩ := q1
  subst ex
  cases r1
  have hst : PO X (some (.UnaryOp .USub (.Constant (.int 1) k p1) p2)) (tPart (tUn (rU fun i => .int (-i)) (tC (.int 1)))) := po_some (pe_un un_neg pe_int)
  refine wpAny_Slice (thn (po_none.run pins s1 σ H1 (fun o H2 => o = none ∧ H2 = H1) I1 ⟨rfl, rfl⟩) fun vl s2 ⟨l, H2, I2, pl, el, e2⟩ => ?_)
  subst el e2
  refine thn (hth.run pins s2 σ H2 (fun o H3 => o = hi ∧ H3 = H2) I2 (hx _ _ _ ⟨rfl, rfl⟩)) fun vu s3 ⟨u, H3, I3, pu, eu, e3⟩ => ?_
  subst eu e3
  refine thn (hst.run pins s3 σ H3 (fun o H4 => o = some (-1) ∧ H4 = H3) I3 ⟨1, rfl, -1, rfl, rfl, rfl⟩) fun vs s4 ⟨o, H4, I4, ps, eo, e4⟩ => ?_
  subst eo e4
  have I5 : Inv X pins σ H4 { s4 with heap := s4.heap.push { cls := .type "slice", data := .fields #[vl, vu, vs] } } := I4.kept (t' := s4.toks) fun b ob q => Heap.get?_push_of_some _ q
  obtain ⟨its, r, ht, hz⟩ := I5.tuple hx'
  have hlen := r.length
  show wpAny (model X.prog X.w) X.A (subscriptTail e (.Slice none hiE (some (.UnaryOp .USub (.Constant (.int 1) k p1) p2)) p3) (.ref a) (.ref s4.heap.objs.size)) (EP X pins σ Q) X.xe { s4 with heap := s4.heap.push { cls := .type "slice", data := .fields #[vl, vu, vs] } }
  refine tail_any (ops := [.ref a, .ref s4.heap.objs.size]) ht.typeIs PyProof.Rows.slot_tuple_getitem.lookup ?_ (by with_unfolding_all rfl)
  have hsz : its.toArray.size = xs.length := by rw [List.size_toArray]; exact hlen.symm
  refine getItem_tuple_back ht (Heap.IsSliceOf.new _ vl vu vs) pl pu ps hh ?_ (by rw [hsz]; exact hz)
  rw [hsz]
  refine ⟨.ref _, _, I5.laid (t' := s4.toks) (o := .tup (xs.reverse.take (backN xs.length u))) (fun b ob q => Heap.get?_push_of_some _ q) (Nat.le_refl _) ?_, rfl, q _ (I5.hok.fresh (Nat.le_refl _))⟩
  refine ⟨by rw [List.length_take, List.length_reverse]; omega, _, Vals.take (backN xs.length u) r.reverse, ⟨_, Heap.get?_push_size _ rfl, rfl, 0, rfl⟩⟩
def revM (hi : Option Int) (w : W) (m : Hm) : Res W := match w with
  | .p (.tuple ds) => .ok (.p (.tuple (ds.reverse.take (backN ds.length hi)))) m
  | _ => .stuck
theorem x_rev_of {hiE : Option Expr} {hi : Option Int} {th : TO} (hth : PO X hiE th) (hx : ∀ σ H Q, Q hi H → th σ H Q) (hh : hi = none ∨ hi = some 0) (he : PE X e (T X.K U f)) : PE X (.Subscript e (.Slice none hiE (some (.UnaryOp .USub (.Constant (.int 1) k p1) p2)) p3) pos) (T X.K U (eOp1 (revM hi) f)) := by
  refine imp (pe_revT hth hx hh he) ?_
  rintro σ H Q ⟨c, s, m, hs, hm, hp⟩
  refine T.run hs hm hp fun c1 H1 w1 m1 v1 e1 hs1 hm1 r1 hp1 => ?_
  unfold revM at hp1
  split at hp1
  · cases r1 with | p r1 =>
    obtain ⟨a, xs, rfl, hT, z, q⟩ := r1.tupI
    refine ⟨a, xs, rfl, hT.sq, fun p hpn => ?_⟩
    rw [q.length]
    exact hp1 c1 _ (Ext.new hpn) (hm1.new hpn) _ (.p (Rp.newT hm1 hpn (by rw [List.length_take, List.length_reverse]; omega) (RpAll.take _ q.reverse)))
  · exact hp1.elim
theorem x_rev (he : PE X e (T X.K U f)) : PE X (.Subscript e (.Slice none none (some (.UnaryOp .USub (.Constant (.int 1) k p1) p2)) p3) pos) (T X.K U (eOp1 (revM none) f)) := x_rev_of po_none (fun _ _ _ h => h) (.inl rfl) he
theorem x_rev0 (he : PE X e (T X.K U f)) : PE X (.Subscript e (.Slice none (some (.Constant (.int 0) k2 p4)) (some (.UnaryOp .USub (.Constant (.int 1) k p1) p2)) p3) pos) (T X.K U (eOp1 (revM (some 0)) f)) := x_rev_of (po_some pe_int) (fun _ _ _ h => ⟨0, rfl, h⟩) (.inr rfl) he
/-- the same of a list -/
def revLM (w : W) (m : Hm) : Res W := match (seqW m w).bind allP with
  | some ds => if isL w = true then .ok (.p (.list ds.reverse)) m else .stuck
  | none => .stuck
theorem x_revL (he : PE X e (T X.K U f)) : PE X (.Subscript e (.Slice none none (some (.UnaryOp .USub (.Constant (.int 1) k p1) p2)) p3) pos) (T X.K U (eOp1 revLM f)) := by
  refine imp (pe_revL he) ?_
  rintro σ H Q ⟨c, s, m, hs, hm, hp⟩
  refine T.run hs hm hp fun c1 H1 w1 m1 v1 e1 hs1 hm1 r1 hp1 => ?_
  unfold revLM at hp1
  split at hp1
  · rename_i ds e
    split at hp1
    · rename_i hl
      obtain ⟨ws', e1, e2⟩ := Option.bind_eq_some_iff.mp e
      obtain ⟨a, xs, rfl, h, z, q⟩ := seqW_list hm1 r1 e1 hl
      refine ⟨a, xs, rfl, h, fun p hpn => ?_⟩
      exact hp1 c1 _ (Ext.new hpn) (hm1.new hpn) _ (.p (Rp.newL hm1 hpn (by rw [List.length_reverse]; exact z) (allP_rp q e2).reverse))
    · exact hp1.elim
  · exact hp1.elim
end
end Mir

namespace Mir
open PySem PySem.Spec PyProof.Rows L2

/-! ### methods of lists -/
def MethM (K : PySem.W.Frag) (r : V → List V → Hp → VK → Prop) (g : W → List W → Hm → Res W) : Prop := ∀ (U : WX) (σ : L2.St) (c : Cfg) (H : Hp) (m : Hm) (v : V) (w : W) (vs : List V) (ws : List W) (Q : VK),
  HRel K c m H → RpW K c H v w → RpWs K c H vs ws → Post K U σ c H (RQ K Q) (g w ws m) → r v vs H Q
/-- the receiver is a list -/
def lstAt (w : W) (m : Hm) : Bool := isL w && (seqW m w).isSome
def eLM (g : W → List W → Hm → Res W) (f : EX W) (fs : EX (List W)) : EX W := fun s m => (f s m).bind fun w m1 => if lstAt w m1 = true then (fs s m1).bind fun ws m2 => g w ws m2 else .stuck
section
variable {K : PySem.W.Frag} {c : Cfg} {H : Hp} {m : Hm}
theorem lstAt_ty {v : V} {w : W} (hm : HRel K c m H) (r : RpW K c H v w) (h : lstAt w m = true) : tyV K "list" v H := by
  unfold lstAt at h
  rw [Bool.and_eq_true] at h
  obtain ⟨ws, e⟩ := Option.isSome_iff_exists.mp h.2
  obtain ⟨a, xs, rfl, hl, _, _⟩ := seqW_list hm r e h.1
  exact .inl ⟨rfl, xs, hl⟩
end
section
variable {X : Cx} {U : WX} {o e : Expr} {es : List Expr} {f : EX W} {fs : EX (List W)} {name : Str} {apos cpos : Pos} {id : String} {r : V → List V → Hp → VK → Prop} {g : W → List W → Hm → Res W}
theorem x_lm (slot : Slot "list" name id) (hty : typeOf (.builtin id) = pure (.type "method_descriptor")) (hm : MtR X id r) (hg : MethM X.K r g) (ho : PE X o (T X.K U f)) (ha : PA X (e :: es) (TL X.K U fs))
    (hbase : attributeBase o name X.env (eval o X.env) = eval o X.env := by rfl)
    (hfew : ((backTo cpos (starEach (e :: es) X.env)).all (fun x => !x.1) && (backToKw cpos (keywordEach [] X.env)).all (fun x => x.1.isSome)
      && decide ((e :: es).length + ([] : List Keyword).length + (if ([] : List Keyword).isEmpty then 0 else 1) < 30)) = true := by rfl)
    (hline : (apos.endLine == cpos.line) = true := by rfl) (hs : starEach (e :: es) X.env = (false, eval e X.env) :: starEach es X.env := by rfl) (hplain : (backTo cpos (starEach es X.env)).any (·.1) = false := by rfl) :
    PE X (.Call (.Attribute o name apos) (e :: es) [] cpos) (T X.K U (eLM g f fs)) := by
  refine imp (pe_bm PySem.F.plainAttrs_list slot hty hm ho ha hbase hfew hline hs hplain) ?_
  rintro σ H Q ⟨c, s, m, hs, hm, hp⟩
  refine T.run hs hm hp fun c1 H1 w1 m1 v1 e1 hs1 hm1 r1 hp1 => ?_
  split at hp1
  · rename_i hl
    exact ⟨lstAt_ty hm1 r1 hl, TL.run hs1 hm1 hp1 fun c2 H2 ws m2 vs e2 hs2 hm2 r2 hp2 => hg U σ c2 H2 m2 v1 w1 vs ws Q hm2 (r1.mono e2) r2 hp2⟩
  · exact hp1.elim
theorem x_lm0 (slot : Slot "list" name id) (hty : typeOf (.builtin id) = pure (.type "method_descriptor")) (hm : MtR X id r) (hg : MethM X.K r g) (ho : PE X o (T X.K U f))
    (hbase : attributeBase o name X.env (eval o X.env) = eval o X.env := by rfl) (hline : (apos.endLine == cpos.line) = true := by rfl) : PE X (.Call (.Attribute o name apos) [] [] cpos) (T X.K U (eLM g f aNil)) := by
  refine imp (pe_bm0 PySem.F.plainAttrs_list slot hty hm ho hbase hline) ?_
  rintro σ H Q ⟨c, s, m, hs, hm, hp⟩
  refine T.run hs hm hp fun c1 H1 w1 m1 v1 e1 hs1 hm1 r1 hp1 => ?_
  split at hp1
  · rename_i hl
    exact ⟨lstAt_ty hm1 r1 hl, hg U σ c1 H1 m1 v1 w1 [] [] Q hm1 r1 .nil hp1⟩
  · exact hp1.elim
end
section
variable {K : PySem.W.Frag} {c : Cfg} {H : Hp} {m : Hm}
theorem HRel.lst (hm : HRel K c m H) {n : Nat} {a : Addr} {ws : List W} (h : c.rho[n]? = some a) (q : m[n]? = some (.lst ws)) : ∃ xs, H a = some (.lst xs) ∧ xs.length ≤ sizeLine ∧ RpWs K c H xs ws := by
  obtain ⟨b, hb, xs, hx, z, rr⟩ := hm.at_ _ _ q
  rw [h] at hb; cases hb
  exact ⟨xs, hx, z, rr⟩
/-- a list cell is written -/
theorem Post.setL {U : WX} {σ : L2.St} {α : Type} {R : Cfg → Hp → α → Hm → Prop} {a' : α} {n : Nat} {a : Addr} {ws : List W} {ys : List V} (hm : HRel K c m H) (h : c.rho[n]? = some a) (z : ys.length ≤ sizeLine) (r : RpWs K c H ys ws)
    (hp : Post K U σ c H R (.ok a' (m.set n (.lst ws)))) : R c (upd H a (.lst ys)) a' (m.set n (.lst ws)) :=
  hp c _ (Ext.write h) (hm.write h ⟨ys, upd_same, z, r.mono (Ext.write h)⟩)
end
def appendM : W → List W → Hm → Res W
  | .loc n, [y], m => match m[n]? with
    | some (.lst ws) => if ws.length < sizeLine then .ok (.p .none) (m.set n (.lst (ws ++ [y]))) else .stuck
    | _ => .stuck
  | _, _, _ => .stuck
theorem appendM_ok {K : PySem.W.Frag} : MethM K rAppend appendM := by
  intro U σ c H m v w vs ws Q hm r rs hp
  unfold appendM at hp
  split at hp
  · obtain ⟨y, rfl, ry⟩ := rs.oneI
    cases r with | loc h =>
    split at hp
    · rename_i ws q
      obtain ⟨xs, hx, z, rr⟩ := hm.lst h q
      have l := rr.length
      split at hp
      · rename_i hz
        exact ⟨_, xs, y, rfl, rfl, hx, by omega, Post.setL hm h (by simp; omega) (rr.append (.cons ry .nil)) hp _ (.p .non)⟩
      · exact hp.elim
    · exact hp.elim
  · exact hp.elim
def isLst : W → Bool
  | .p (.list _) => true
  | .loc _ => true
  | _ => false
theorem seqW_lst {K : PySem.W.Frag} {c : Cfg} {H : Hp} {m : Hm} {v : V} {w : W} {ws : List W} (hm : HRel K c m H) (r : RpW K c H v w) (e : seqW m w = some ws) (hl : isLst w = true) : ∃ a xs, v = .ref a ∧ H a = some (.lst xs) ∧ xs.length ≤ sizeLine ∧ RpWs K c H xs ws := by
  cases r with
  | p r =>
    cases r with
    | lst h n n2 z r => cases e; exact ⟨_, _, rfl, h, z, r.toWs⟩
    | tup h z r => cases hl
    | _ => cases e
  | ro h z r => cases hl
  | @loc a n h =>
    simp only [seqW] at e
    cases q : m[n]? with
    | none => rw [q] at e; cases e
    | some x =>
      rw [q] at e
      cases x with
      | lst ws =>
        cases e
        obtain ⟨xs, hx, z, rr⟩ := hm.lst h q
        exact ⟨_, _, rfl, hx, z, rr⟩
      | dct => cases e
      | ins => cases e
  | tw h z r => cases hl
def extendM : W → List W → Hm → Res W
  | .loc n, [y], m => match m[n]?, seqW m y with
    | some (.lst ws), some zs => if (decide (ws.length + zs.length ≤ sizeLine) && isLst y) = true then .ok (.p .none) (m.set n (.lst (ws ++ zs))) else .stuck
    | _, _ => .stuck
  | _, _, _ => .stuck
theorem extendM_ok {K : PySem.W.Frag} : MethM K rExtend extendM := by
  intro U σ c H m v w vs ws Q hm r rs hp
  unfold extendM at hp
  split at hp
  · obtain ⟨y, rfl, ry⟩ := rs.oneI
    cases r with | loc h =>
    split at hp
    · rename_i ws zs q e
      obtain ⟨xs, hx, z, rr⟩ := hm.lst h q
      split at hp
      · rename_i hz
        rw [Bool.and_eq_true, decide_eq_true_eq] at hz
        obtain ⟨b, ys, rfl, hy, z2, r2⟩ := seqW_lst hm ry e hz.2
        have l := rr.length
        have l2 := r2.length
        exact ⟨_, b, xs, ys, rfl, rfl, hx, hy, by omega, Post.setL hm h (by simp; omega) (rr.append r2) hp _ (.p .non)⟩
      · exact hp.elim
    · exact hp.elim
  · exact hp.elim
/-- xs.remove(k), ints, k is there -/
def removeM : W → List W → Hm → Res W
  | .loc n, [.p (.int k)], m => match m[n]? with
    | some (.lst ws) => (match (allP ws).bind intsOf with
      | some ns => if k ∈ ns then .ok (.p .none) (m.set n (.lst (((ns.erase k).map PyData.int).map .p))) else .stuck
      | none => .stuck)
    | _ => .stuck
  | _, _, _ => .stuck
theorem eraseIdx_first : ∀ (ns : List Int) (k : Int), k ∈ ns → ∃ j, ns[j]? = some k ∧ (∀ m : Nat, m < j → ns[m]? ≠ some k) ∧ ns.eraseIdx j = ns.erase k
  | [], k, h => by simp at h
  | n :: ns, k, h => by
    by_cases e : n = k
    · subst e
      exact ⟨0, rfl, fun m hm => absurd hm (Nat.not_lt_zero _), by simp⟩
    · have hk : k ∈ ns := by
        rcases List.mem_cons.mp h with q | q
        · exact absurd q.symm e
        · exact q
      obtain ⟨j, h1, h2, h3⟩ := eraseIdx_first ns k hk
      refine ⟨j + 1, by simpa using h1, fun m hm => ?_, ?_⟩
      · cases m with
        | zero => simp [e]
        | succ m => simpa using h2 m (by omega)
      · rw [List.eraseIdx_cons_succ, h3, List.erase_cons_tail (by simpa using e)]
theorem rpI {K : PySem.W.Frag} {c : Cfg} {H : Hp} : ∀ (ns : List Int), RpAll K c H (ns.map V.int) (ns.map PyData.int)
  | [] => .nil
  | n :: ns => .cons (.int n) (rpI ns)
theorem removeM_ok {K : PySem.W.Frag} : MethM K rRemI removeM := by
  intro U σ c H m v w vs ws Q hm r rs hp
  unfold removeM at hp
  split at hp
  · obtain ⟨y, rfl, ry⟩ := rs.oneI
    cases ry with | p ry =>
    cases ry
    cases r with | loc h =>
    split at hp
    · rename_i ws q
      obtain ⟨xs, hx, z, rr⟩ := hm.lst h q
      split at hp
      · rename_i ns e
        obtain ⟨ds, e1, e2⟩ := Option.bind_eq_some_iff.mp e
        have rr' := allP_rp rr e1
        rw [intsOf_eq e2] at rr'
        have := rr'.ints
        subst this
        split at hp
        · rename_i hk
          obtain ⟨j, h1, h2, h3⟩ := eraseIdx_first ns _ hk
          refine ⟨_, ns, _, j, rfl, rfl, hx, h1, h2, ?_⟩
          rw [h3]
          exact Post.setL hm h (by
            rw [List.length_map] at z ⊢
            exact Nat.le_trans List.length_erase_le z) (rpI _).toWs hp _ (.p .non)
        · exact hp.elim
      · exact hp.elim
    · exact hp.elim
  · exact hp.elim
/-- xs.pop(), xs.pop(i) -/
def popM : W → List W → Hm → Res W
  | .loc n, [], m => match m[n]? with
    | some (.lst ws) => (match ws[ws.length - 1]? with
      | some y => .ok y (m.set n (.lst ws.dropLast))
      | none => .stuck)
    | _ => .stuck
  | _, _, _ => .stuck
def popAtM : W → List W → Hm → Res W
  | .loc n, [.p (.int i)], m => match m[n]? with
    | some (.lst ws) => if (decide (-(2 ^ 63) ≤ i) && decide (i < 2 ^ 63)) = true then (match seqIndex? i ws.length with
      | some k => (match ws[k]? with
        | some y => .ok y (m.set n (.lst (ws.eraseIdx k)))
        | none => .stuck)
      | none => .stuck) else .stuck
    | _ => .stuck
  | _, _, _ => .stuck
theorem RpWs.dropLast {K : PySem.W.Frag} {c : Cfg} {H : Hp} {xs : List V} {ws : List W} (r : RpWs K c H xs ws) : RpWs K c H xs.dropLast ws.dropLast := by
  rw [List.dropLast_eq_take, List.dropLast_eq_take, r.length]
  exact r.take _
theorem popM_ok {K : PySem.W.Frag} : MethM K rPop popM := by
  intro U σ c H m v w vs ws Q hm r rs hp
  unfold popM at hp
  split at hp
  · cases rs
    cases r with | loc h =>
    split at hp
    · rename_i ws q
      obtain ⟨xs, hx, z, rr⟩ := hm.lst h q
      have l := rr.length
      split at hp
      · rename_i y e
        obtain ⟨y', e', ry⟩ := rr.get e
        refine ⟨_, xs, y', rfl, rfl, hx, by rw [l]; exact e', ?_⟩
        exact Post.setL hm h (by simp; omega) rr.dropLast hp _ (ry.mono (Ext.write h))
      · exact hp.elim
    · exact hp.elim
  · exact hp.elim
theorem popAtM_ok {K : PySem.W.Frag} : MethM K rPopAt popAtM := by
  intro U σ c H m v w vs ws Q hm r rs hp
  unfold popAtM at hp
  split at hp
  · obtain ⟨y, rfl, ry⟩ := rs.oneI
    cases ry with | p ry =>
    cases ry
    cases r with | loc h =>
    split at hp
    · rename_i ws q
      obtain ⟨xs, hx, z, rr⟩ := hm.lst h q
      have l := rr.length
      split at hp
      · rename_i hb
        rw [Bool.and_eq_true, decide_eq_true_eq, decide_eq_true_eq] at hb
        split at hp
        · rename_i k ek
          split at hp
          · rename_i y e
            obtain ⟨y', e', ry⟩ := rr.get e
            refine ⟨_, xs, _, k, y', rfl, rfl, hx, hb.1, hb.2, by rw [l]; exact ek, e', ?_⟩
            exact Post.setL hm h (by have := len_erase xs k; omega) (rr.eraseIdx k) hp _ (ry.mono (Ext.write h))
          · exact hp.elim
        · exact hp.elim
      · exact hp.elim
    · exact hp.elim
  · exact hp.elim
/-- xs.index(x) of data that is there -/
def idxOf (d : PyData) (ds : List PyData) : Nat := ds.findIdx fun z => PyData.eqv z d
def indexM : W → List W → Hm → Res W
  | w, [y], m => match rd m w, rd m y with
    | some (.list ds), some d => if (SeqAt.shaped (.list ds) && (SeqAt.shaped d && ds.any fun z => PyData.eqv z d)) = true then .ok (.p (.int (idxOf d ds : Nat))) m else .stuck
    | _, _ => .stuck
  | _, _, _ => .stuck
theorem indexM_ok {K : PySem.W.Frag} : MethM K (rIndexD K) indexM := by
  intro U σ c H m v w vs ws Q hm r rs hp
  unfold indexM at hp
  split at hp
  · obtain ⟨y, rfl, ry⟩ := rs.oneI
    split at hp
    · rename_i ds d e1 e2
      split at hp
      · rename_i hz
        rw [Bool.and_eq_true, Bool.and_eq_true] at hz
        obtain ⟨h1, h2, h3⟩ := hz
        have hd := rd_dp hm r e1
        obtain ⟨a, xs, rfl, hl, _, _⟩ := rd_list hm r e1
        have hlt : idxOf d ds < ds.length := List.findIdx_lt_length_of_exists (by simpa using h3)
        refine ⟨a, y, d, ds, idxOf d ds, ds[idxOf d ds], rfl, rfl, hd, rd_dp hm ry e2, h1, h2, List.getElem?_eq_getElem hlt, ?_, fun k z hk hz => ?_, hp.ok hm _ (.p (.int _))⟩
        · exact List.findIdx_getElem (w := hlt)
        · have hk' := List.not_of_lt_findIdx (p := fun z => PyData.eqv z d) (xs := ds) hk
          obtain ⟨hk2, e⟩ := List.getElem?_eq_some_iff.mp hz
          rw [e] at hk'
          simpa using hk'
      · exact hp.elim
    · exact hp.elim
  · exact hp.elim

/-! ### targets -/
inductive Tg where
  | n (i : Nat)
  | t (ts : List Tg)
mutual
def Tg.put : Tg → W → Ev → Option Ev
  | .n i, w, s => some (s.set i (some w))
  | .t gs, w, s => match seqT w with
    | some ws => Tg.puts gs ws s
    | none => none
def Tg.puts : List Tg → List W → Ev → Option Ev
  | [], [], s => some s
  | g :: gs, w :: ws, s => match Tg.put g w s with
    | some s' => Tg.puts gs ws s'
    | none => none
  | _, _, _ => none
end
mutual
def Tg.inn (vs : List Nat) : Tg → Bool
  | .n i => decide (i ∈ vs)
  | .t gs => Tg.inns vs gs
def Tg.inns (vs : List Nat) : List Tg → Bool
  | [] => true
  | g :: gs => Tg.inn vs g && Tg.inns vs gs
end
def TG' (K : PySem.W.Frag) (t : Tg) : TG := fun v σ H Q => ∃ c s w s', SRel K c H s σ ∧ RpW K c H v w ∧ t.put w s = some s' ∧ ∀ σ', SRel K c H s' σ' → (∀ vs, t.inn vs = true → wipe σ' vs = wipe σ vs) → Q σ' H
def TGs' (K : PySem.W.Frag) (t : List Tg) : TGs := fun v σ H Q => ∃ c s w s', SRel K c H s σ ∧ RpWs K c H v w ∧ Tg.puts t w s = some s' ∧ ∀ σ', SRel K c H s' σ' → (∀ vs, Tg.inns vs t = true → wipe σ' vs = wipe σ vs) → Q σ' H
theorem wipe_set {σ : L2.St} {i : Nat} {v : Option V} : ∀ {vs : List Nat}, i ∈ vs → wipe (σ.set i v) vs = wipe σ vs
  | [], h => by simp at h
  | k :: vs, h => by
    unfold wipe
    by_cases e : i = k
    · subst e
      by_cases h2 : i ∈ vs
      · rw [wipe_set h2]
      · have q : ∀ (τ : L2.St) (vs : List Nat), i ∉ vs → (wipe (τ.set i v) vs) = (wipe τ vs).set i v := by
          intro τ vs
          induction vs with
          | nil => intro _; rfl
          | cons j r ih =>
            intro hn
            unfold wipe
            rw [ih (fun z => hn (List.mem_cons_of_mem _ z))]
            exact List.set_comm _ _ (fun z => hn (by rw [z]; exact List.mem_cons_self))
        rw [q σ vs h2, List.set_set]
    · rcases List.mem_cons.mp h with q | q
      · exact absurd q e
      · rw [wipe_set q]
section
variable {X : Cx} {pos : Pos}
theorem impG {tg : Expr} {t t' : TG} (h : PG X tg t) (i : ∀ v σ H Q, t' v σ H Q → t v σ H Q) : PG X tg t' := ⟨fun pins s σ H v u Q I r hw => h.run pins s σ H v u Q I r (i v σ H Q hw)⟩
theorem impGs {tg : List Expr} {t t' : TGs} (h : PGs X tg t) (i : ∀ v σ H Q, t' v σ H Q → t v σ H Q) : PGs X tg t' := ⟨fun pins s σ H v u Q I r hw => h.run pins s σ H v u Q I r (i v σ H Q hw)⟩
theorem g_name {i : Nat} {x : Str} (hN : X.N.Nodup) (hi : X.N[i]? = some x) (hx : Loc X.env.scope x) (hf : X.fn x = true ∨ X.env.scope.names.lookup x = some .local := by first | exact .inl rfl | exact .inr rfl | assumption) : PG X (.Name x pos) (TG' X.K (.n i)) := by
  refine impG (pg_name hN hi hx hf) ?_
  rintro v σ H Q ⟨c, s, w, s', hs, r, e, q⟩
  cases e
  exact q _ (hs.set r) fun vs hv => wipe_set (by simpa [Tg.inn] using hv)
theorem g_nil : PGs X [] (TGs' X.K []) := by
  refine impGs pgs_nil ?_
  rintro v σ H Q ⟨c, s, w, s', hs, r, e, q⟩
  cases w with
  | nil =>
    cases r
    cases e
    exact ⟨rfl, q _ hs fun _ _ => rfl⟩
  | cons => cases e
theorem g_cons {e : Expr} {es : List Expr} {t : Tg} {ts : List Tg} (h1 : PG X e (TG' X.K t)) (h2 : PGs X es (TGs' X.K ts))
    (hs : (assignEach (e :: es) X.env).map (·.2) = assign e X.env :: (assignEach es X.env).map (·.2) := by rfl) : PGs X (e :: es) (TGs' X.K (t :: ts)) := by
  refine impGs (pgs_cons h1 h2 hs) ?_
  rintro v σ H Q ⟨c, s, w, s', hs, r, e, q⟩
  cases r with
  | nil => cases e
  | @cons v vs d ds r1 r2 =>
    unfold Tg.puts at e
    split at e
    · rename_i s1 e1
      refine ⟨v, vs, rfl, c, s, d, s1, hs, r1, e1, fun σ1 hs1 h1 => ⟨c, s1, ds, s', hs1, r2, e, fun σ2 hs2 h2 => q σ2 hs2 fun vs hv => ?_⟩⟩
      simp only [Tg.inns, Bool.and_eq_true] at hv
      exact (h2 vs hv.2).trans (h1 vs hv.1)
    · cases e
theorem g_tup {es : List Expr} {k : Nat} {ts : List Tg} (hc : X.calm = true) (h : PGs X es (TGs' X.K ts))
    (hn : (assignEach es X.env).length = ts.length := by rfl) (hst : (assignEach es X.env).findIdx? (·.1) = none := by rfl) : PG X (.Tuple es k pos) (TG' X.K (.t ts)) := by
  refine impG (pg_tup hc h hn hst) ?_
  rintro v σ H Q ⟨c, s, w, s', hs, r, e, q⟩
  unfold Tg.put at e
  split at e
  · rename_i ws e1
    have len : ∀ (ts : List Tg) (ws : List W) (s : Ev) (s' : Ev), Tg.puts ts ws s = some s' → ws.length = ts.length := by
      intro ts
      induction ts with
      | nil => intro ws s s' h; cases ws with
        | nil => rfl
        | cons => cases h
      | cons t ts ih => intro ws s s' h; cases ws with
        | nil => cases h
        | cons w ws =>
          unfold Tg.puts at h
          split at h
          · simp [ih _ _ _ h]
          · cases h
    have l := len _ _ _ _ e
    have fin : ∀ {a : Addr} {xs : List V}, v = .ref a → TupAt X.K c H a xs → RpWs X.K c H xs ws → gTup X.K ts.length (TGs' X.K ts) v σ H Q := fun {a xs} ev hT rr =>
      ⟨a, xs, ev, hT.sq, by rw [rr.length, l], c, s, ws, s', hs, rr, e, fun σ' hs' hv => q σ' hs' fun vs h => hv vs (by simpa [Tg.inn] using h)⟩
    cases r with
    | p r =>
      cases r with
      | tup hT z r => cases e1; exact fin rfl hT r.toWs
      | _ => cases e1
    | tw hT z r => cases e1; exact fin rfl hT r
    | _ => cases e1
  · cases e
end
end Mir

namespace Mir
open PySem PySem.Spec PyProof.Rows L2

/-! ### what is walked -/
/-- the items; lists that must stand as they are while they are walked -/
structure Src where
  items : List W
  gs : List (Nat × List W) := []
def gOk (m : Hm) : List (Nat × List W) → Bool
  | [] => true
  | g :: r => (match m[g.1]? with
    | some (.lst ws) => beqWs ws g.2
    | _ => false) && gOk m r
@[simp] theorem gOk_nil {m : Hm} : gOk m [] = true := rfl
theorem gOk_get {m : Hm} {n : Nat} {ws : List W} {r : List (Nat × List W)} (h : gOk m ((n, ws) :: r) = true) : m[n]? = some (.lst ws) ∧ gOk m r = true := by
  unfold gOk at h
  rw [Bool.and_eq_true] at h
  refine ⟨?_, h.2⟩
  have h1 := h.1
  split at h1
  · rename_i ws' e
    rw [e, beqWs_eq _ _ h1]
  · cases h1
abbrev IX := EX Src
def ItOk (K : PySem.W.Frag) (c : Cfg) (H : Hp) (src : Src) (J : It) : Prop := ∀ c' H' m', Ext c H c' H' → HRel K c' m' H' → gOk m' src.gs = true → ∀ i : Nat,
  (src.items.length ≤ i → J.stop i H') ∧ ∀ w, src.items[i]? = some w → J.go i H' ∧ ∀ x H'', J.yld i H' x H'' → (H'' = H' ∨ ∃ p o, H' p = none ∧ H'' = upd H' p o) ∧ RpW K c' H'' x w
def TI' (K : PySem.W.Frag) (U : WX) (f : IX) : TI := fun σ H R => ∃ c s m, SRel K c H s σ ∧ HRel K c m H ∧ Post K U σ c H (fun c' H' src _ => ∀ J, ItOk K c' H' src J → R J H') (f s m)
theorem TI'.run {K : PySem.W.Frag} {U : WX} {σ : L2.St} {c : Cfg} {H : Hp} {m : Hm} {s : Ev} {α : Type} {f : IX} {k : Src → Hm → Res α} {R : Cfg → Hp → α → Hm → Prop} {Z : It → Hp → Prop} (hs : SRel K c H s σ) (hm : HRel K c m H) (hp : Post K U σ c H R ((f s m).bind k))
    (h : ∀ c1 H1 src m1 J, Ext c H c1 H1 → SRel K c1 H1 s σ → HRel K c1 m1 H1 → ItOk K c1 H1 src J → Post K U σ c1 H1 R (k src m1) → Z J H1) : TI' K U f σ H Z := by
  refine ⟨c, s, m, hs, hm, ?_⟩
  cases e : f s m with
  | stuck => rw [e] at hp; exact hp
  | ok a m' =>
    rw [e] at hp
    exact fun c' H' e' hm' J hJ => h c' H' a m' J e' (hs.mono e') hm' hJ (hp.ext e')
  | exc x m' => rw [e] at hp; exact hp
theorem impI {X : Cx} {tg e : Expr} {t t' : TI} (h : PI X tg e t) (i : ∀ σ H Q, t' σ H Q → t σ H Q) : PI X tg e t' := ⟨fun pins s σ H Q I hw => h.run pins s σ H Q I (i σ H Q hw)⟩
theorem PI.or {X : Cx} {tg e : Expr} {t t' : TI} (h : PI X tg e t) (h' : PI X tg e t') : PI X tg e (fun σ H R => t σ H R ∨ t' σ H R) :=
  ⟨fun pins s σ H Q I hw => hw.elim (h.run pins s σ H Q I) (h'.run pins s σ H Q I)⟩
def srcOf (w : W) (m : Hm) : Res Src := match w with
  | .p (.list ds) => .ok ⟨ds.map .p, []⟩ m
  | .p (.tuple ds) => .ok ⟨ds.map .p, []⟩ m
  | .tw ws => .ok ⟨ws, []⟩ m
  | .loc n => match m[n]? with
    | some (.lst ws) => .ok ⟨ws, [(n, ws)]⟩ m
    | _ => .stuck
  | _ => .stuck
def iSeq (f : EX W) : IX := fun s m => (f s m).bind srcOf
section
variable {K : PySem.W.Frag} {c : Cfg} {H : Hp} {m : Hm}
theorem ItOk.list {src : Src} {a : Addr} (h : ∀ c' H' m', Ext c H c' H' → HRel K c' m' H' → gOk m' src.gs = true → ∃ xs, SqL K H' a xs ∧ RpWs K c' H' xs src.items) : ItOk K c H src (Itl K a) := by
  intro c' H' m' e hm g i
  obtain ⟨xs, hx, r⟩ := h c' H' m' e hm g
  refine ⟨fun hi => ⟨xs, hx, by rw [r.length]; exact hi⟩, fun w hw => ?_⟩
  obtain ⟨v, hv, rv⟩ := r.get hw
  refine ⟨⟨xs, v, hx, hv⟩, fun x H'' y => ?_⟩
  obtain ⟨e1, y⟩ := y
  have := y xs hx
  rw [hv] at this
  cases this
  subst e1
  exact ⟨.inl rfl, rv⟩
theorem ItOk.tup {src : Src} {a : Addr} (h : ∀ c' H' m', Ext c H c' H' → HRel K c' m' H' → gOk m' src.gs = true → ∃ xs, SqT K H' a xs ∧ RpWs K c' H' xs src.items) : ItOk K c H src (Itt K a) := by
  intro c' H' m' e hm g i
  obtain ⟨xs, hx, r⟩ := h c' H' m' e hm g
  refine ⟨fun hi => ⟨xs, hx, by rw [r.length]; exact hi⟩, fun w hw => ?_⟩
  obtain ⟨v, hv, rv⟩ := r.get hw
  refine ⟨⟨xs, v, hx, hv⟩, fun x H'' y => ?_⟩
  obtain ⟨e1, y⟩ := y
  have := y xs hx
  rw [hv] at this
  cases this
  subst e1
  exact ⟨.inl rfl, rv⟩
/-- a list or a tuple to walk -/
theorem srcOf_okL {v : V} {w : W} {src : Src} {m' : Hm} (hm : HRel K c m H) (r : RpW K c H v w) (e : srcOf w m = .ok src m') (k : isL w = true) : m' = m ∧ ∃ a, v = .ref a ∧ (∃ xs, SqL K H a xs) ∧ ItOk K c H src (Itl K a) := by
  cases r with
  | p r =>
    cases r with
    | lst h n n2 z r =>
      cases e
      exact ⟨rfl, _, rfl, ⟨_, SqL.of h⟩, .list fun c' H' m' e hm g => ⟨_, SqL.of (e.keep _ _ h n n2), (r.mono e).toWs⟩⟩
    | _ => cases k
  | ro => cases e
  | @loc a n h =>
    simp only [srcOf] at e
    cases q : m[n]? with
    | none => rw [q] at e; cases e
    | some x =>
      rw [q] at e
      cases x with
      | lst ws =>
        cases e
        obtain ⟨xs, hx, z, rr⟩ := hm.lst h q
        refine ⟨rfl, _, rfl, ⟨_, SqL.of hx⟩, .list fun c' H' m' e hm' g => ?_⟩
        obtain ⟨xs', hx', _, rr'⟩ := hm'.lst (e.at h) (gOk_get g).1
        exact ⟨xs', SqL.of hx', rr'⟩
      | dct => cases e
      | ins => cases e
  | tw h z r => cases k
theorem srcOf_okT {v : V} {w : W} {src : Src} {m' : Hm} (hm : HRel K c m H) (r : RpW K c H v w) (e : srcOf w m = .ok src m') (k : isL w = false) : m' = m ∧ ∃ a, v = .ref a ∧ (∃ xs, SqT K H a xs) ∧ ItOk K c H src (Itt K a) := by
  cases r with
  | p r =>
    cases r with
    | lst => cases k
    | tup h z r =>
      cases e
      exact ⟨rfl, _, rfl, ⟨_, h.sq⟩, .tup fun c' H' m' e hm g => ⟨_, (h.sub e.sub).sq, (r.mono e).toWs⟩⟩
    | _ => cases e
  | ro => cases e
  | loc => cases k
  | tw h z r =>
    cases e
    exact ⟨rfl, _, rfl, ⟨_, h.sq⟩, .tup fun c' H' m' e hm g => ⟨_, (h.sub e.sub).sq, r.mono e⟩⟩
theorem srcOf_exc {w : W} {x : Exn} {m' : Hm} : srcOf w m ≠ .exc x m' := by
  unfold srcOf
  split <;> first | (intro h; cases h; done) | (split <;> (intro h; cases h))
end
section
variable {X : Cx} {U : WX} {tg a b : Expr} {f g : EX W}
theorem i_seq (ha : PE X a (T X.K U f)) : PI X tg a (TI' X.K U (iSeq f)) := by
  refine impI (PI.or (pi_list ha) (pi_tup ha)) ?_
  rintro σ H R ⟨c, s, m, hs, hm, hp⟩
  -- by the value's kind
  cases e : f s m with
  | stuck => unfold iSeq at hp; rw [e] at hp; exact hp.elim
  | exc x m' =>
    unfold iSeq at hp
    rw [e] at hp
    exact .inl ⟨c, s, m, hs, hm, by rw [e]; exact hp⟩
  | ok w m1 =>
    unfold iSeq at hp
    rw [e] at hp
    simp only [bind_ok] at hp
    cases e2 : srcOf w m1 with
    | stuck => rw [e2] at hp; exact hp.elim
    | exc x m' => exact absurd e2 srcOf_exc
    | ok src m2 =>
      rw [e2] at hp
      cases k : isL w with
      | true =>
        refine .inl ⟨c, s, m, hs, hm, ?_⟩
        rw [e]
        intro c' H' e' hm' v rv
        obtain ⟨rfl, a, rfl, q1, q2⟩ := srcOf_okL hm' rv e2 k
        exact ⟨a, rfl, q1, (hp.ext e').ok hm' _ q2⟩
      | false =>
        refine .inr ⟨c, s, m, hs, hm, ?_⟩
        rw [e]
        intro c' H' e' hm' v rv
        obtain ⟨rfl, a, rfl, q1, q2⟩ := srcOf_okT hm' rv e2 k
        exact ⟨a, rfl, q1, (hp.ext e').ok hm' _ q2⟩
/-- range(n), range(a, b) -/
def iRg1 (f : EX W) : IX := fun s m => (f s m).bind fun w m1 => match w with
  | .p (.int n) => if (decide (-1000000 ≤ n) && decide (n ≤ 1000000)) = true then .ok ⟨(rgP 0 n).map .p, []⟩ m1 else .stuck
  | _ => .stuck
def iRg2 (f g : EX W) : IX := fun s m => (f s m).bind fun w m1 => (g s m1).bind fun w' m2 => match w, w' with
  | .p (.int a), .p (.int b) => if (decide (-1000000 ≤ a) && (decide (a ≤ 1000000) && (decide (-1000000 ≤ b) && decide (b ≤ 1000000)))) = true then .ok ⟨(rgP a b).map .p, []⟩ m2 else .stuck
  | _, _ => .stuck
theorem rgP_get {a b : Int} {i : Nat} {w : W} (h : ((rgP a b).map W.p)[i]? = some w) : w = .p (.int (a + (i : Nat))) ∧ i < (b - a).toNat := by
  unfold rgP at h
  rw [List.map_map, List.getElem?_map] at h
  obtain ⟨j, hj, e⟩ := Option.map_eq_some_iff.mp h
  obtain ⟨hl, hj⟩ := List.getElem?_eq_some_iff.mp hj
  rw [List.length_range] at hl
  rw [List.getElem_range] at hj
  subst hj
  exact ⟨e.symm, hl⟩
theorem rgP_length (a b : Int) : (rgP a b).length = (b - a).toNat := by simp [rgP]
theorem ItOk.rg {K : PySem.W.Frag} {c : Cfg} {H : Hp} (a b : Int) {n : Nat} (hn : n = (b - a).toNat) : ItOk K c H ⟨(rgP a b).map .p, []⟩ (Itr a n) := by
  subst hn
  intro c' H' m' e hm g i
  refine ⟨fun hi => ?_, fun w hw => ?_⟩
  · show (b - a).toNat ≤ i
    rw [List.length_map, rgP_length] at hi
    exact hi
  · obtain ⟨rfl, hl⟩ := rgP_get hw
    refine ⟨hl, fun x H'' y => ?_⟩
    obtain ⟨e1, e2⟩ := y
    subst e1 e2
    exact ⟨.inl rfl, .p (.int _)⟩
theorem i_rg1 {p pos : Pos} (hr : X.mg "range" = none) (ha : PE X a (T X.K U f)) (hg : Gl X "range" := by rfl) (na : starEach [a] X.env = (false, eval a X.env) :: starEach [] X.env := by rfl) (hs : starEach [a] X.env = [(false, eval a X.env)] := by rfl) :
    PI X tg (.Call (.Name "range" p) [a] [] pos) (TI' X.K U (iRg1 f)) := by
  refine impI (pi_range1 hg hr (pa_cons ha pa_nil na) hs) ?_
  rintro σ H R ⟨c, s, m, hs, hm, hp⟩
  refine T.run hs hm hp fun c1 H1 w1 m1 v1 e1 hs1 hm1 r1 hp1 => ?_
  split at hp1
  · cases r1 with | p r1 =>
    cases r1
    rename_i n
    split at hp1
    · rename_i hz
      rw [Bool.and_eq_true, decide_eq_true_eq, decide_eq_true_eq] at hz
      exact ⟨n, rfl, by omega, by omega, hp1.ok hm1 _ (ItOk.rg 0 n (by omega))⟩
    · exact hp1.elim
  · exact hp1.elim
theorem i_rg2 {p pos : Pos} (hr : X.mg "range" = none) (ha : PE X a (T X.K U f)) (hb : PE X b (T X.K U g)) (hg : Gl X "range" := by rfl) (na : starEach [a, b] X.env = (false, eval a X.env) :: starEach [b] X.env := by rfl) (nb : starEach [b] X.env = (false, eval b X.env) :: starEach [] X.env := by rfl)
    (hs : starEach [a, b] X.env = [(false, eval a X.env), (false, eval b X.env)] := by rfl) (hs2 : starEach [b] X.env = [(false, eval b X.env)] := by rfl) :
    PI X tg (.Call (.Name "range" p) [a, b] [] pos) (TI' X.K U (iRg2 f g)) := by
  refine impI (pi_range2 hg hr (pa_cons ha (pa_cons hb pa_nil nb) na) hs hs2) ?_
  rintro σ H R ⟨c, s, m, hs, hm, hp⟩
  refine T.run hs hm hp fun c1 H1 w1 m1 v1 e1 hs1 hm1 r1 hp1 => T.run hs1 hm1 hp1 fun c2 H2 w2 m2 v2 e2 hs2 hm2 r2 hp2 => ?_
  split at hp2
  · cases r1 with | p r1 => cases r2 with | p r2 =>
    cases r1
    cases r2
    split at hp2
    · rename_i hz
      simp only [Bool.and_eq_true, decide_eq_true_eq] at hz
      exact ⟨_, _, rfl, by omega, hp2.ok hm2 _ (ItOk.rg _ _ rfl)⟩
    · exact hp2.elim
  · exact hp2.elim
/-- enumerate(xs), xs a list -/
def numbered (k : Nat) : List W → List W
  | [] => []
  | w :: r => mkTup [.p (.int (k : Nat)), w] :: numbered (k + 1) r
theorem numbered_get : ∀ (ws : List W) (k i : Nat) (w : W), (numbered k ws)[i]? = some w → ∃ x, ws[i]? = some x ∧ w = mkTup [.p (.int ((k + i : Nat) : Int)), x]
  | [], k, i, w, h => by simp [numbered] at h
  | x :: r, k, 0, w, h => by
    simp [numbered] at h
    exact ⟨x, rfl, h.symm⟩
  | x :: r, k, i + 1, w, h => by
    obtain ⟨y, h1, h2⟩ := numbered_get r (k + 1) i w (by simpa [numbered] using h)
    exact ⟨y, by simpa using h1, by rw [h2]; congr 5; omega⟩
theorem numbered_length : ∀ (ws : List W) (k : Nat), (numbered k ws).length = ws.length
  | [], _ => rfl
  | _ :: r, k => by simp [numbered, numbered_length r]
def iEn (f : EX W) : IX := fun s m => (f s m).bind fun w m1 => if isL w = true then (srcOf w m1).bind fun src m2 => .ok ⟨numbered 0 src.items, src.gs⟩ m2 else .stuck
theorem new_pair {K : PySem.W.Frag} {c : Cfg} {H : Hp} {m : Hm} {p : Addr} {x y : V} {wx wy : W} (hm : HRel K c m H) (hp : H p = none) (rx : RpW K c H x wx) (ry : RpW K c H y wy) : RpW K c (upd H p (.tup [x, y])) (.ref p) (mkTup [wx, wy]) :=
  RpW.newT hm hp (by rw [sizeLine_eq]; show 2 ≤ _; decide) (.cons rx (.cons ry .nil))
theorem i_enum {p pos tpos : Pos} {elts : List Expr} {kk : Nat} (hr : X.mg "enumerate" = none) (ha : PE X a (T X.K U f)) (hg : Gl X "enumerate" := by rfl) (na : starEach [a] X.env = (false, eval a X.env) :: starEach [] X.env := by rfl) (hs : starEach [a] X.env = [(false, eval a X.env)] := by rfl) :
    PI X (.Tuple elts kk tpos) (.Call (.Name "enumerate" p) [a] [] pos) (TI' X.K U (iEn f)) := by
  refine impI (pi_enum hg hr (pa_cons ha pa_nil na) hs) ?_
  rintro σ H R ⟨c, s, m, hs, hm, hp⟩
  refine T.run hs hm hp fun c1 H1 w1 m1 v1 e1 hs1 hm1 r1 hp1 => ?_
  split at hp1
  · rename_i k
    cases e2 : srcOf w1 m1 with
    | stuck => rw [e2] at hp1; exact hp1.elim
    | exc x m' => exact absurd e2 srcOf_exc
    | ok src m2 =>
      rw [e2] at hp1
      simp only [bind_ok] at hp1
      obtain ⟨rfl, a, rfl, ⟨xs, q1⟩, q2⟩ := srcOf_okL hm1 r1 e2 k
      refine ⟨a, xs, rfl, q1, hp1.ok hm1 _ ?_⟩
      intro c' H' m' e hm' g i
      have q := q2 c' H' m' e hm' g
      refine ⟨fun hi => (q i).1 (by simpa [numbered_length] using hi), fun w hw => ?_⟩
      obtain ⟨x, h1, rfl⟩ := numbered_get _ _ _ _ hw
      obtain ⟨g1, g2⟩ := (q i).2 x h1
      refine ⟨g1, fun v H'' y => ?_⟩
      obtain ⟨T, x', rfl, hT, rfl, hy⟩ := y
      obtain ⟨_, rx⟩ := g2 x' H' ⟨rfl, hy⟩
      refine ⟨.inr ⟨T, _, hT, rfl⟩, ?_⟩
      have := new_pair hm' hT (RpW.p (Rp.int ((i : Nat) : Int))) rx
      simpa using this
  · exact hp1.elim
/-- zip of two lists or of two tuples -/
def zipped : List W → List W → List W
  | w :: r, w' :: r' => mkTup [w, w'] :: zipped r r'
  | _, _ => []
theorem zipped_get : ∀ (ws ws' : List W) (i : Nat) (w : W), (zipped ws ws')[i]? = some w → ∃ x y, ws[i]? = some x ∧ ws'[i]? = some y ∧ w = mkTup [x, y]
  | [], _, i, w, h => by simp [zipped] at h
  | _ :: _, [], i, w, h => by simp [zipped] at h
  | x :: r, y :: r', 0, w, h => by
    simp [zipped] at h
    exact ⟨x, y, rfl, rfl, h.symm⟩
  | x :: r, y :: r', i + 1, w, h => by
    obtain ⟨x', y', h1, h2, h3⟩ := zipped_get r r' i w (by simpa [zipped] using h)
    exact ⟨x', y', by simpa using h1, by simpa using h2, h3⟩
theorem zipped_length : ∀ (ws ws' : List W), (zipped ws ws').length = min ws.length ws'.length
  | [], _ => by simp [zipped]
  | _ :: _, [] => by simp [zipped]
  | _ :: r, _ :: r' => by simp [zipped, zipped_length r r']
theorem gOk_app {m : Hm} : ∀ {g g' : List (Nat × List W)}, gOk m (g ++ g') = true → gOk m g = true ∧ gOk m g' = true
  | [], _, h => ⟨rfl, h⟩
  | x :: r, g', h => by
    simp only [List.cons_append, gOk, Bool.and_eq_true] at h ⊢
    obtain ⟨h1, h2⟩ := gOk_app h.2
    exact ⟨⟨h.1, h1⟩, h2⟩
def zipR (w w' : W) (m : Hm) : Res Src := if isL w == isL w' then (srcOf w m).bind fun a m1 => (srcOf w' m1).bind fun b m2 => .ok ⟨zipped a.items b.items, a.gs ++ b.gs⟩ m2 else .stuck
def iZp (f g : EX W) : IX := fun s m => (f s m).bind fun w m1 => (g s m1).bind fun w' m2 => zipR w w' m2
theorem i_zip {p pos tpos : Pos} {elts : List Expr} {kk : Nat} (hr : X.mg "zip" = none) (ha : PE X a (T X.K U f)) (hb : PE X b (T X.K U g)) (hg : Gl X "zip" := by rfl) (na : starEach [a, b] X.env = (false, eval a X.env) :: starEach [b] X.env := by rfl) (nb : starEach [b] X.env = (false, eval b X.env) :: starEach [] X.env := by rfl)
    (hpl : (backTo pos (starEach [b] X.env)).any (·.1) = false := by rfl) : PI X (.Tuple elts kk tpos) (.Call (.Name "zip" p) [a, b] [] pos) (TI' X.K U (iZp f g)) := by
  refine impI (RZ.pi_zipA hg hr (pa_cons ha (pa_cons hb pa_nil nb) na) na hpl) ?_
  rintro σ H R ⟨c, s, m, hs, hm, hp⟩
  refine T.run hs hm hp fun c1 H1 w1 m1 v1 e1 hs1 hm1 r1 hp1 => T.run hs1 hm1 hp1 fun c2 H2 w2 m2 v2 e2 hs2 hm2 r2 hp2 => ?_
  have r1' := r1.mono e2
  unfold zipR at hp2
  split at hp2
  · rename_i kk
    have kk := eq_of_beq kk
    cases q1 : srcOf w1 m2 with
    | stuck => rw [q1] at hp2; exact hp2.elim
    | exc x m' => exact absurd q1 srcOf_exc
    | ok A m3 =>
      rw [q1] at hp2
      simp only [bind_ok] at hp2
      cases q2 : srcOf w2 m3 with
      | stuck => rw [q2] at hp2; exact hp2.elim
      | exc x m' => exact absurd q2 srcOf_exc
      | ok B m4 =>
        rw [q2] at hp2
        simp only [bind_ok] at hp2
        cases k1 : isL w1 with
        | true =>
          obtain ⟨rfl, a, rfl, ⟨xs, a1⟩, a2⟩ := srcOf_okL hm2 r1' q1 k1
          obtain ⟨rfl, b, rfl, ⟨ys, b1⟩, b2⟩ := srcOf_okL hm2 r2 q2 (by rw [← kk]; exact k1)
          refine ⟨a, b, xs, ys, rfl, .inl ⟨a1, b1, hp2.ok hm2 _ ?_⟩⟩
          intro c' H' m' e hm' g i
          obtain ⟨g1, g2⟩ := gOk_app g
          have qa := a2 c' H' m' e hm' g1 i
          have qb := b2 c' H' m' e hm' g2 i
          have ea := a2 c' H' m' e hm' g1 A.items.length
          have eb := b2 c' H' m' e hm' g2 B.items.length
          refine ⟨fun hi => ?_, fun w hw => ?_⟩
          · obtain ⟨xs', x1, x2⟩ := ea.1 (Nat.le_refl _)
            obtain ⟨ys', y1, y2⟩ := eb.1 (Nat.le_refl _)
            refine ⟨xs', ys', x1, y1, ?_⟩
            rw [zipped_length] at hi
            omega
          · obtain ⟨x, y, h1, h2, rfl⟩ := zipped_get _ _ _ _ hw
            obtain ⟨⟨xs', x', x1, x2⟩, g1⟩ := qa.2 x h1
            obtain ⟨⟨ys', y', y1, y2⟩, g2⟩ := qb.2 y h2
            refine ⟨⟨xs', ys', x', y', x1, y1, x2, y2⟩, fun v H'' yy => ?_⟩
            obtain ⟨T, x3, y3, rfl, hT, rfl, hx, hy⟩ := yy
            obtain ⟨_, rx⟩ := g1 x3 H' ⟨rfl, hx⟩
            obtain ⟨_, ry⟩ := g2 y3 H' ⟨rfl, hy⟩
            exact ⟨.inr ⟨T, _, hT, rfl⟩, new_pair hm' hT rx ry⟩
        | false =>
          obtain ⟨rfl, a, rfl, ⟨xs, a1⟩, a2⟩ := srcOf_okT hm2 r1' q1 k1
          obtain ⟨rfl, b, rfl, ⟨ys, b1⟩, b2⟩ := srcOf_okT hm2 r2 q2 (by rw [← kk]; exact k1)
          refine ⟨a, b, xs, ys, rfl, .inr ⟨a1, b1, hp2.ok hm2 _ ?_⟩⟩
          intro c' H' m' e hm' g i
          obtain ⟨g1, g2⟩ := gOk_app g
          have qa := a2 c' H' m' e hm' g1 i
          have qb := b2 c' H' m' e hm' g2 i
          have ea := a2 c' H' m' e hm' g1 A.items.length
          have eb := b2 c' H' m' e hm' g2 B.items.length
          refine ⟨fun hi => ?_, fun w hw => ?_⟩
          · obtain ⟨xs', x1, x2⟩ := ea.1 (Nat.le_refl _)
            obtain ⟨ys', y1, y2⟩ := eb.1 (Nat.le_refl _)
            refine ⟨xs', ys', x1, y1, ?_⟩
            rw [zipped_length] at hi
            omega
          · obtain ⟨x, y, h1, h2, rfl⟩ := zipped_get _ _ _ _ hw
            obtain ⟨⟨xs', x', x1, x2⟩, g1⟩ := qa.2 x h1
            obtain ⟨⟨ys', y', y1, y2⟩, g2⟩ := qb.2 y h2
            refine ⟨⟨xs', ys', x', y', x1, y1, x2, y2⟩, fun v H'' yy => ?_⟩
            obtain ⟨T, x3, y3, rfl, hT, rfl, hx, hy⟩ := yy
            obtain ⟨_, rx⟩ := g1 x3 H' ⟨rfl, hx⟩
            obtain ⟨_, ry⟩ := g2 y3 H' ⟨rfl, hy⟩
            exact ⟨.inr ⟨T, _, hT, rfl⟩, new_pair hm' hT rx ry⟩
  · exact hp2.elim
end
end Mir

namespace Mir
open PySem PySem.Spec PyProof.Rows L2

/-! ### list comprehensions -/
abbrev U0 : WX := fun _ _ _ _ => False
def bYes : EX Bool := fun _ m => .ok true m
theorem impTs {X : Cx} {es : List Expr} {t t' : TT} (h : PTs X es t) (i : ∀ σ H Q, t' σ H Q → t σ H Q) : PTs X es t' := ⟨fun pins s σ H Q I hw => h.run pins s σ H Q I (i σ H Q hw)⟩
theorem ts_nil {X : Cx} {U : WX} : PTs X [] (TB X.K U bYes) := impTs pts_nil fun σ H Q ⟨c, s, m, hs, hm, hp⟩ => hp.ok hm
theorem ts_one {X : Cx} {U : WX} {e : Expr} {g : EX Bool} (h : PT X e (TB X.K U g)) : PTs X [e] (TB X.K U g) := pts_one h
def wipeE (s : Ev) : List Nat → Ev
  | [] => s
  | v :: vs => (wipeE s vs).set v none
theorem SRel.wipe {K : PySem.W.Frag} {c : Cfg} {H : Hp} {s : Ev} {σ : L2.St} (h : SRel K c H s σ) : ∀ vs : List Nat, SRel K c H (wipeE s vs) (L2.wipe σ vs)
  | [] => h
  | v :: vs => by
    have ih := SRel.wipe h vs
    refine ⟨by simp [wipeE, L2.wipe, ih.1], fun i w q => ?_⟩
    unfold wipeE at q
    unfold L2.wipe
    by_cases e : v = i
    · subst e
      by_cases hl : v < (wipeE s vs).length
      · rw [List.getElem?_set_self hl] at q; cases q
      · rw [List.getElem?_eq_none (by simpa using hl)] at q; cases q
    · rw [List.getElem?_set_ne e] at q ⊢
      exact ih.2 i w q
/-- the turns: what stands at the source must stay -/
def lcGo (gs : List (Nat × List W)) (t : Tg) (g : EX Bool) (f : EX W) (s : Ev) : List W → Hm → Res (List W)
  | [], m => if gOk m gs = true then .ok [] m else .stuck
  | w :: r, m => if gOk m gs = true then (match t.put w s with
    | none => .stuck
    | some s1 => match g s1 m with
      | .ok b m1 => if b = true then (match f s1 m1 with
          | .ok y m2 => (lcGo gs t g f s r m2).bind fun ys m3 => .ok (y :: ys) m3
          | _ => .stuck) else lcGo gs t g f s r m1
      | _ => .stuck) else .stuck
def lcFin (ws : List W) (m : Hm) : Res W := match allP ws with
  | some ds => .ok (.p (.list ds)) m
  | none => .stuck
def lcFinL (ws : List W) (m : Hm) : Res W := .ok (.loc m.length) (m ++ [.lst ws])
def eLc (fin : List W → Hm → Res W) (src : IX) (t : Tg) (g : EX Bool) (f : EX W) (vs : List Nat) : EX W := fun s m => (src s m).bind fun sc m1 => if decide (sc.items.length ≤ sizeLine) = true then (lcGo sc.gs t g f (wipeE s vs) sc.items m1).bind fin else .stuck
/-- how the new list is taken -/
def FinOk (fin : List W → Hm → Res W) : Prop := ∀ (K : PySem.W.Frag) (U : WX) (σ : L2.St) (c : Cfg) (rho : List Addr) (H1 H : Hp) (m1 m : Hm) (D : Addr) (acc : List V) (ws : List W) (Q : VK), H1 D = none → HRel K c m1 H1 → Ext c H1 ⟨(D, .lst acc) :: c.fb, rho⟩ H →
  HRel K ⟨(D, .lst acc) :: c.fb, rho⟩ m H → RpWs K ⟨(D, .lst acc) :: c.fb, rho⟩ H acc ws → acc.length ≤ sizeLine → Post K U σ c H1 (RQ K Q) (fin ws m) → Q (.ref D) H
section
variable {K : PySem.W.Frag} {c : Cfg} {H H1 : Hp} {m : Hm}
/-- out of reach no more: fewer things are barred -/
theorem Sub.less {fb fb' : List (Addr × HO)} {rho : List Addr} (h : ∀ p ∈ fb', p ∈ fb) : Sub ⟨fb, rho⟩ H ⟨fb', rho⟩ H :=
  ⟨fun _ _ h => h, fun a o e n n2 => ⟨e, fun q => n (by
    obtain ⟨p, hp, rfl⟩ := List.mem_map.mp q
    exact List.mem_map.mpr ⟨p, h p hp, rfl⟩), n2⟩⟩
theorem HRel.less {fb fb' : List (Addr × HO)} {rho : List Addr} (hm : HRel K ⟨fb, rho⟩ m H) (h : ∀ p ∈ fb', p ∈ fb) : HRel K ⟨fb', rho⟩ m H :=
  hm.sub (Sub.less h) rfl (fun _ _ => rfl) (fun p hp => hm.fb p (h p hp)) fun a ha => hm.dj a (by
    obtain ⟨p, hp, rfl⟩ := List.mem_map.mp ha
    exact List.mem_map.mpr ⟨p, h p hp, rfl⟩)
/-- from the beginning to what it has become, without the bar at D -/
theorem Ext.drop {D : Addr} {o : HO} {rho : List Addr} (e : Ext c H1 ⟨(D, o) :: c.fb, rho⟩ H) : Ext c H1 ⟨c.fb, rho⟩ H := ⟨⟨[], rfl, fun _ h => nomatch h⟩, e.rho, e.keep, e.live⟩
end
theorem lcFin_ok : FinOk lcFin := by
  intro K U σ c rho H1 H m1 m D acc ws Q hD h1 e hm r z hp
  unfold lcFin at hp
  split at hp
  · rename_i ds ed
    have hm' := hm.less (fb' := c.fb) fun p hp => List.mem_cons_of_mem _ hp
    exact hp ⟨c.fb, rho⟩ H e.drop hm' _ (.p (.lst (hm.fb _ List.mem_cons_self) (h1.free hD).1 (hm.dj D (by simp)) z (allP_rp (r.sub (Sub.less fun p hp => List.mem_cons_of_mem _ hp)) ed)))
  · exact hp.elim
theorem lcFinL_ok : FinOk lcFinL := by
  intro K U σ c rho H1 H m1 m D acc ws Q hD h1 e hm r z hp
  have hDs : H D = some (.lst acc) := hm.fb _ List.mem_cons_self
  have hDr : D ∉ rho := hm.dj D (by simp)
  have sb : Sub ⟨(D, .lst acc) :: c.fb, rho⟩ H ⟨c.fb, rho ++ [D]⟩ H := by
    refine ⟨fun n a h => ?_, fun a o h n n2 => ⟨h, fun q => n (by simp at q ⊢; exact .inr q), fun q => ?_⟩⟩
    · show (rho ++ [D])[n]? = some a
      rw [List.getElem?_append_left (List.getElem?_eq_some_iff.mp h).1]
      exact h
    · rcases List.mem_append.mp q with q | q
      · exact n2 q
      · simp at q; subst q; exact n (by simp)
  have hl : rho.length = m.length := hm.len
  have hm' : HRel K ⟨c.fb, rho ++ [D]⟩ (m ++ [.lst ws]) H := by
    refine ⟨by simp [hl], ?_, fun p hp => hm.fb p (List.mem_cons_of_mem _ hp), fun a ha q => ?_, fun n y hy => ?_⟩
    · rw [List.nodup_append]
      exact ⟨hm.nd, by simp, fun a ha b hb => by simp at hb; subst hb; intro q; subst q; exact hDr ha⟩
    · rcases List.mem_append.mp q with q | q
      · exact hm.dj a (by simp at ha ⊢; exact .inr ha) q
      · simp at q; subst q; exact (h1.free hD).1 ha
    · by_cases hn : n < m.length
      · rw [List.getElem?_append_left hn] at hy
        obtain ⟨a, ha, ok⟩ := hm.at_ n y hy
        exact ⟨a, sb.at_ _ _ ha, ok.sub sb rfl⟩
      · rw [List.getElem?_append_right (by omega)] at hy
        have e0 : n - m.length = 0 := by
          cases q : n - m.length with
          | zero => rfl
          | succ k => rw [q] at hy; simp at hy
        rw [e0] at hy
        simp at hy
        subst hy
        have hn' : n = rho.length := by omega
        exact ⟨D, by subst hn'; simp, acc, hDs, z, r.sub sb⟩
  obtain ⟨l, hl2, hn⟩ := e.rho
  have hl2 : rho = c.rho ++ l := hl2
  refine hp ⟨c.fb, rho ++ [D]⟩ H ⟨⟨[], rfl, fun _ h => nomatch h⟩, ⟨l ++ [D], by rw [hl2]; simp, fun a ha => ?_⟩, e.keep, e.live⟩ hm' _ (.loc ?_)
  · rcases List.mem_append.mp ha with q | q
    · exact hn a q
    · simp at q; subst q; exact hD
  · rw [← hl]; simp
theorem yld_ext {K : PySem.W.Frag} {c : Cfg} {H H' : Hp} {m : Hm} (hm : HRel K c m H) (h : H' = H ∨ ∃ p o, H p = none ∧ H' = upd H p o) : Ext c H c H' ∧ HRel K c m H' := by
  rcases h with rfl | ⟨p, o, hp, rfl⟩
  · exact ⟨.refl, hm⟩
  · exact ⟨.new hp, hm.new hp⟩
/-- the list at D has one more -/
theorem lc_put {K : PySem.W.Frag} {c c4 : Cfg} {rho : List Addr} {H1 H H4 : Hp} {m4 : Hm} {D : Addr} {acc : List V} {ws : List W} {y : V} {w : W} {m1 : Hm} (h1 : HRel K c m1 H1) (hD : H1 D = none) (e : Ext c H1 ⟨(D, .lst acc) :: c.fb, rho⟩ H) (e4 : Ext ⟨(D, .lst acc) :: c.fb, rho⟩ H c4 H4)
    (hm4 : HRel K c4 m4 H4) (r : RpWs K ⟨(D, .lst acc) :: c.fb, rho⟩ H acc ws) (ry : RpW K c4 H4 y w) :
    H4 D = some (.lst acc) ∧ Ext c H1 ⟨(D, .lst (acc ++ [y])) :: c.fb, c4.rho⟩ (upd H4 D (.lst (acc ++ [y]))) ∧ HRel K ⟨(D, .lst (acc ++ [y])) :: c.fb, c4.rho⟩ m4 (upd H4 D (.lst (acc ++ [y]))) ∧
      RpWs K ⟨(D, .lst (acc ++ [y])) :: c.fb, c4.rho⟩ (upd H4 D (.lst (acc ++ [y]))) (acc ++ [y]) (ws ++ [w]) := by
  have sub : ∀ p ∈ (D, HO.lst acc) :: c.fb, p ∈ c4.fb := e4.sub_fb
  have hDs : H4 D = some (.lst acc) := hm4.fb _ (sub _ List.mem_cons_self)
  have hDf : D ∈ c4.fa := List.mem_map.mpr ⟨_, sub _ List.mem_cons_self, rfl⟩
  have hfa : ∀ a ∈ (D :: c.fa), a ∈ c4.fa := fun a ha => by
    rcases List.mem_cons.mp ha with rfl | ha
    · exact hDf
    · obtain ⟨p, hp, rfl⟩ := List.mem_map.mp ha
      exact List.mem_map.mpr ⟨p, sub p (List.mem_cons_of_mem _ hp), rfl⟩
  have sb : Sub c4 H4 ⟨(D, .lst (acc ++ [y])) :: c.fb, c4.rho⟩ (upd H4 D (.lst (acc ++ [y]))) := by
    refine ⟨fun _ _ h => h, fun a o h n n2 => ⟨?_, fun q => n (hfa a q), n2⟩⟩
    rw [upd_ne fun q => n (by rw [q]; exact hDf)]
    exact h
  have ne : ∀ p ∈ c.fb, p.1 ≠ D := fun p hp q => by
    have := h1.fb p hp
    rw [q, hD] at this; cases this
  refine ⟨hDs, ⟨⟨[(D, .lst (acc ++ [y]))], rfl, fun p hp => by simp at hp; subst hp; exact hD⟩, (e.trans e4).rho, fun a o h n n2 => ?_, fun a h => ?_⟩, ?_, ?_⟩
  · rw [upd_ne (ne_of_none h hD)]
    exact (e.trans e4).keep a o h n n2
  · by_cases q : a = D
    · subst q; exact hD
    · rw [upd_ne q] at h; exact (e.trans e4).live a h
  · refine hm4.sub sb rfl (fun a ha => upd_ne fun q => hm4.dj D hDf (by rw [← q]; exact ha)) (fun p hp => ?_) fun a ha => hm4.dj a (hfa a ha)
    rcases List.mem_cons.mp hp with rfl | hp
    · exact upd_same
    · rw [upd_ne (ne p hp)]
      exact hm4.fb p (sub p (List.mem_cons_of_mem _ hp))
  · exact ((r.mono e4).append (.cons ry .nil)).sub sb
theorem Res.bind_assoc {α β γ : Type} {r : Res α} {k : α → Hm → Res β} {l : β → Hm → Res γ} : (r.bind k).bind l = r.bind fun a m => (k a m).bind l := by cases r <;> rfl
theorem wipe_get {σ : L2.St} {i : Nat} : ∀ {vs : List Nat}, i ∈ vs → i < σ.length → (wipe σ vs)[i]? = some none
  | [], h, _ => by simp at h
  | v :: vs, h, hl => by
    unfold wipe
    by_cases e : v = i
    · subst e
      rw [List.getElem?_set_self (by rw [wipe_length]; exact hl)]
    · rw [List.getElem?_set_ne e]
      exact wipe_get ((List.mem_cons.mp h).resolve_left fun q => e q.symm) hl
theorem wipe_wipe (σ : L2.St) (vs : List Nat) : wipe (wipe σ vs) vs = wipe σ vs := by
  apply List.ext_getElem?
  intro i
  by_cases h : i ∈ vs
  · by_cases hl : i < σ.length
    · rw [wipe_get h (by rw [wipe_length]; exact hl), wipe_get h hl]
    · rw [List.getElem?_eq_none (by rw [wipe_length, wipe_length]; omega), List.getElem?_eq_none (by rw [wipe_length]; omega)]
  · rw [wipe_out h]
theorem lc_same {K : PySem.W.Frag} {c c4 : Cfg} {rho : List Addr} {H1 H H4 : Hp} {m4 m1 : Hm} {D : Addr} {acc : List V} {ws : List W} (hD : H1 D = none) (e : Ext c H1 ⟨(D, .lst acc) :: c.fb, rho⟩ H) (e4 : Ext ⟨(D, .lst acc) :: c.fb, rho⟩ H c4 H4)
    (hm4 : HRel K c4 m4 H4) (r : RpWs K ⟨(D, .lst acc) :: c.fb, rho⟩ H acc ws) :
    Ext c H1 ⟨(D, .lst acc) :: c.fb, c4.rho⟩ H4 ∧ HRel K ⟨(D, .lst acc) :: c.fb, c4.rho⟩ m4 H4 ∧ RpWs K ⟨(D, .lst acc) :: c.fb, c4.rho⟩ H4 acc ws := by
  have sub : ∀ p ∈ (D, HO.lst acc) :: c.fb, p ∈ c4.fb := e4.sub_fb
  exact ⟨⟨⟨[(D, .lst acc)], rfl, fun p hp => by simp at hp; subst hp; exact hD⟩, (e.trans e4).rho, (e.trans e4).keep, (e.trans e4).live⟩, HRel.less (fb := c4.fb) hm4 sub, (r.mono e4).sub (Sub.less (fb := c4.fb) sub)⟩
theorem lc_imp {K : PySem.W.Frag} {U : WX} {src : IX} {t : Tg} {g : EX Bool} {f : EX W} {fin : List W → Hm → Res W} {vs : List Nat} (ok : FinOk fin) (hv : t.inn vs = true) {σ : L2.St} {H : Hp} {Q : VK}
    (h : T K U (eLc fin src t g f vs) σ H Q) : tLc (TI' K U src) (TG' K t) (TB K U0 g) (T K U0 f) vs σ H Q := by
  obtain ⟨c, s, m, hs, hm, hp⟩ := h
  unfold eLc at hp
  refine TI'.run hs hm hp fun c1 H1 sc m1 J e1 hs1 hm1 hJ hp1 => ?_
  by_cases hz : decide (sc.items.length ≤ sizeLine) = true
  case neg => rw [if_neg hz] at hp1; exact hp1.elim
  rw [if_pos hz] at hp1
  have hz := of_decide_eq_true hz
  intro D hD
  have fr := hm1.free hD
  have sb0 : Sub c1 H1 ⟨(D, .lst []) :: c1.fb, c1.rho⟩ (upd H1 D (.lst [])) := ⟨fun _ _ h => h, fun a o h n n2 => by
    have ne : a ≠ D := ne_of_none h hD
    refine ⟨by rw [upd_ne ne]; exact h, fun q => ?_, n2⟩
    have q : a ∈ D :: c1.fa := q
    rcases List.mem_cons.mp q with q | q
    · exact ne q
    · exact n q⟩
  refine ⟨fun i me H => i ≤ sc.items.length ∧ me = sc.items.length - i ∧ ∃ rho m' ws acc, Ext c1 H1 ⟨(D, .lst acc) :: c1.fb, rho⟩ H ∧ HRel K ⟨(D, .lst acc) :: c1.fb, rho⟩ m' H ∧ RpWs K ⟨(D, .lst acc) :: c1.fb, rho⟩ H acc ws ∧ acc.length ≤ i ∧
    Post K U σ c1 H1 (RQ K Q) ((lcGo sc.gs t g f (wipeE s vs) (sc.items.drop i) m').bind fun r m2 => fin (ws ++ r) m2), ⟨sc.items.length, Nat.zero_le _, by simp, c1.rho, m1, [], [], ?_, ?_, .nil, Nat.le_refl _, by simpa using hp1⟩, ?_⟩
  · exact ⟨⟨[(D, .lst [])], rfl, fun p hp => by simp at hp; subst hp; exact hD⟩, ⟨[], by simp, fun _ h => nomatch h⟩, (Ext.new (c := c1) hD).keep, (Ext.new (c := c1) hD).live⟩
  · refine hm1.sub sb0 rfl (fun a ha => upd_ne fun q => fr.2 (by rw [← q]; exact ha)) (fun p hp => ?_) fun a ha => ?_
    · rcases List.mem_cons.mp hp with rfl | hp
      · exact upd_same
      · exact (hm1.new (o := .lst []) hD).fb p hp
    · have ha : a ∈ D :: c1.fa := ha
      rcases List.mem_cons.mp ha with rfl | ha
      · exact fr.2
      · exact hm1.dj a ha
  · rintro i me H ⟨hi, rfl, rho, m', ws, acc, e, hm', r, hl, hp'⟩
    by_cases hi2 : i < sc.items.length
    case neg =>
      have hi3 : sc.items.length ≤ i := by omega
      rw [List.drop_eq_nil_of_le hi3] at hp'
      unfold lcGo at hp'
      split at hp'
      · rename_i hg
        simp only [bind_ok, List.append_nil] at hp'
        exact .inl ⟨(hJ _ H m' e hm' hg i).1 hi3, ok K U σ c1 rho H1 H m1 m' D acc ws Q hD hm1 e hm' r (by omega) hp'⟩
      · exact hp'.elim
    case pos =>
      rw [List.drop_eq_getElem_cons hi2] at hp'
      unfold lcGo at hp'
      by_cases hg : gOk m' sc.gs = true
      case neg => rw [if_neg hg] at hp'; exact hp'.elim
      rw [if_pos hg] at hp'
      have hw := List.getElem?_eq_getElem hi2
      obtain ⟨go, yl⟩ := (hJ _ H m' e hm' hg i).2 _ hw
      split at hp'
      · exact hp'.elim
      rename_i s1 es1
      refine .inr ⟨go, fun H' => ∃ rho m' ws acc, Ext c1 H1 ⟨(D, .lst acc) :: c1.fb, rho⟩ H' ∧ HRel K ⟨(D, .lst acc) :: c1.fb, rho⟩ m' H' ∧ RpWs K ⟨(D, .lst acc) :: c1.fb, rho⟩ H' acc ws ∧ acc.length ≤ i + 1 ∧
        Post K U σ c1 H1 (RQ K Q) ((lcGo sc.gs t g f (wipeE s vs) (sc.items.drop (i + 1)) m').bind fun r m2 => fin (ws ++ r) m2), fun H' q => ⟨_, by omega, by omega, rfl, q⟩, fun x H' y => ?_⟩
      obtain ⟨yy, rx⟩ := yl x H' y
      obtain ⟨ey, hmy⟩ := yld_ext hm' yy
      have e2 := e.trans ey
      refine ⟨_, wipeE s vs, _, s1, ((hs1.mono e2).wipe vs), rx, es1, fun σ2 hs2 hwp => ⟨?_, ?_⟩⟩
      · have := hwp vs hv
        rw [this]
        exact wipe_wipe σ vs
      · refine ⟨_, s1, m', hs2, hmy, ?_⟩
        cases eg : g s1 m' with
        | stuck => rw [eg] at hp'; exact hp'.elim
        | exc x m2 => rw [eg] at hp'; exact hp'.elim
        | ok b m2 =>
          rw [eg] at hp'
          intro c3 H3 e3 hm3
          cases b with
          | false =>
            simp only [Bool.false_eq_true, if_false] at hp' ⊢
            obtain ⟨p2, p3, p4⟩ := lc_same (m1 := m1) hD e2 e3 hm3 (r.mono ey)
            exact ⟨c3.rho, m2, ws, acc, p2, p3, p4, by omega, hp'⟩
          | true =>
            simp only [if_true] at hp' ⊢
            refine ⟨c3, s1, m2, hs2.mono e3, hm3, ?_⟩
            cases ef : f s1 m2 with
            | stuck => rw [ef] at hp'; exact hp'.elim
            | exc x m3 => rw [ef] at hp'; exact hp'.elim
            | ok w m3 =>
              rw [ef] at hp'
              intro c4 H4 e4 hm4 v rv
              obtain ⟨p1, p2, p3, p4⟩ := lc_put hm1 hD e2 (e3.trans e4) hm4 (r.mono ey) rv
              refine ⟨acc, p1, by omega, c4.rho, m3, ws ++ [w], acc ++ [v], p2, p3, p4, by simp; omega, ?_⟩
              have hp' : Post K U σ c1 H1 (RQ K Q) (((lcGo sc.gs t g f (wipeE s vs) (List.drop (i + 1) sc.items) m3).bind fun ys m3 => Res.ok (w :: ys) m3).bind fun r m2 => fin (ws ++ r) m2) := hp'
              rw [Res.bind_assoc] at hp'
              simpa [List.append_assoc] using hp'
section
variable {X : Cx} {elt tg iter : Expr} {ifs : List Expr} {scope : Scope} {own : List (Str × Nat)} {pos spos py : Pos} {src : IX} {t : Tg} {g : EX Bool} {f : EX W} {fin : List W → Hm → Res W} {U : WX}
theorem x_lc (ok : FinOk fin) (hv : t.inn (own.map (·.2)) = true) (hc : X.calm = true) (hN : X.N.Nodup) (hi : PI X tg iter (TI' X.K U src)) (bo : BlkOk X.N X.env.scope scope own)
    (hg : ∀ (s : Shared) (H : Hp) (C : Addr) (cl : List (Str × Addr)) (fp : List Addr), PG (X.blk s H scope (compEnvC scope cl C X.env) fp) tg (TG' X.K t)) (ht : ∀ (s : Shared) (H : Hp) (C : Addr) (cl : List (Str × Addr)) (fp : List Addr), PTs (X.blk s H scope (compEnvC scope cl C X.env) fp) ifs (TB X.K U0 g))
    (he : ∀ (s : Shared) (H : Hp) (C : Addr) (cl : List (Str × Addr)) (fp : List Addr), PE (X.blk s H scope (compEnvC scope cl C X.env) fp) elt (T X.K U0 f)) (hs : ∀ x, foldedSetIterable iter X.env x = pure x := by intro _; rfl) :
    PE X (.ListComp elt [⟨tg, iter, ifs, 0⟩] scope pos) (T X.K U (eLc fin src t g f (own.map (·.2)))) :=
  imp (pe_lc hc hN hi bo hg ht he hs) fun _ _ _ h => lc_imp ok hv h
end
end Mir

namespace Mir
open PySem PySem.Spec PyProof.Rows L2

/-! ### statements -/
inductive Out where
  | nx (s : Ev)
  | rt (w : W)
  | bk (s : Ev)
  | ct (s : Ev)
  | ex (x : Exn) (s : Ev)
abbrev SR := Option (Out × Hm)
abbrev SX := Ev → Hm → SR
def Res.st {α : Type} (r : Res α) (s : Ev) (k : α → Hm → SR) : SR := match r with
  | .stuck => none
  | .ok a m => k a m
  | .exc x m => some (.ex x s, m)
@[simp] theorem st_stuck {α : Type} {s : Ev} {k : α → Hm → SR} : (Res.stuck : Res α).st s k = none := rfl
@[simp] theorem st_ok {α : Type} {a : α} {m : Hm} {s : Ev} {k : α → Hm → SR} : (Res.ok a m).st s k = k a m := rfl
@[simp] theorem st_exc {α : Type} {x : Exn} {m : Hm} {s : Ev} {k : α → Hm → SR} : (Res.exc x m : Res α).st s k = some (.ex x s, m) := rfl
def PostO (K : PySem.W.Frag) (U : WX) (D : Ends) (c : Cfg) (H : Hp) (o : Out) : Prop := match o with
  | .nx s => ∀ σ, SRel K c H s σ → D.nx σ H
  | .rt w => ∀ v, RpW K c H v w → D.rt v H
  | .bk s => ∀ σ, SRel K c H s σ → D.bk σ H
  | .ct s => ∀ σ, SRel K c H s σ → D.ct σ H
  | .ex x s => ∀ σ cls dx, SRel K c H s σ → XRel K c H x cls dx → U cls dx σ H
def PostS (K : PySem.W.Frag) (U : WX) (D : Ends) (c : Cfg) (H : Hp) : SR → Prop
  | none => False
  | some (o, m') => ∀ c' H', Ext c H c' H' → HRel K c' m' H' → PostO K U D c' H' o
def TSt (K : PySem.W.Frag) (U : WX) (f : SX) : TS := fun D σ H => ∃ c s m, SRel K c H s σ ∧ HRel K c m H ∧ PostS K U D c H (f s m)
section
variable {K : PySem.W.Frag} {U : WX} {σ : L2.St} {c c1 : Cfg} {H H1 : Hp} {m : Hm} {s : Ev} {D : Ends}
theorem PostS.ext {r : SR} (e : Ext c H c1 H1) (h : PostS K U D c H r) : PostS K U D c1 H1 r := by
  cases r with
  | none => exact h
  | some p => exact fun c' H' e' hm => h c' H' (e.trans e') hm
theorem PostS.ok {o : Out} (h : PostS K U D c H (some (o, m))) (hm : HRel K c m H) : PostO K U D c H o := h c H Ext.refl hm
theorem Post.st {α : Type} {r : Res α} {k : α → Hm → SR} {R : Cfg → Hp → α → Hm → Prop} (hs : SRel K c H s σ) (hp : PostS K U D c H (r.st s k))
    (h : ∀ c1 H1 a m1, Ext c H c1 H1 → SRel K c1 H1 s σ → HRel K c1 m1 H1 → PostS K U D c1 H1 (k a m1) → R c1 H1 a m1) : Post K U σ c H R r := by
  cases r with
  | stuck => exact hp
  | ok a m' => exact fun c' H' e' hm' => h c' H' a m' e' (hs.mono e') hm' (hp.ext e')
  | exc x m' => exact fun c' H' cls dx e' hm' xr => hp c' H' e' hm' σ cls dx (hs.mono e') xr
end
section
variable {X : Cx} {st : Stmt} {rest : List Stmt} {f g : SX} {e : Expr} {pos : Pos} {U : WX}
def sSkip : SX := fun s m => some (.nx s, m)
theorem ss_nil : PSs X [] (TSt X.K U sSkip) := impSs pss_nil fun D σ H ⟨c, s, m, hs, hm, hp⟩ => hp.ok hm σ hs
theorem s_pass : PS X (.Pass pos) (TSt X.K U sSkip) := impS ps_pass fun D σ H ⟨c, s, m, hs, hm, hp⟩ => hp.ok hm σ hs
def sSeq (f g : SX) : SX := fun s m => match f s m with
  | some (.nx s1, m1) => g s1 m1
  | r => r
theorem seq_imp {K : PySem.W.Frag} {D : Ends} {σ : L2.St} {H : Hp} (h : TSt K U (sSeq f g) D σ H) : tSeq (TSt K U f) (TSt K U g) D σ H := by
  obtain ⟨c, s, m, hs, hm, hp⟩ := h
  refine ⟨c, s, m, hs, hm, ?_⟩
  unfold sSeq at hp
  cases e : f s m with
  | none => rw [e] at hp; exact hp
  | some p =>
    obtain ⟨o, m'⟩ := p
    rw [e] at hp
    cases o with
    | nx s1 => exact fun c' H' e' hm' σ1 hs1 => ⟨c', s1, m', hs1, hm', hp.ext e'⟩
    | rt w => exact hp
    | bk s => exact hp
    | ct s => exact hp
    | ex x s => exact hp
theorem ss_cons (h1 : PS X st (TSt X.K U f)) (h2 : PSs X rest (TSt X.K U g)) : PSs X (st :: rest) (TSt X.K U (sSeq f g)) := impSs (pss_cons h1 h2) fun _ _ _ h => seq_imp h
theorem ss_one (h1 : PS X st (TSt X.K U f)) : PSs X [st] (TSt X.K U f) := pss_one h1
def sBreak : SX := fun s m => some (.bk s, m)
def sCont : SX := fun s m => some (.ct s, m)
theorem s_break : PS X (.Break pos) (TSt X.K U sBreak) := impS ps_break fun D σ H ⟨c, s, m, hs, hm, hp⟩ => hp.ok hm σ hs
theorem s_continue : PS X (.Continue pos) (TSt X.K U sCont) := impS ps_continue fun D σ H ⟨c, s, m, hs, hm, hp⟩ => hp.ok hm σ hs
theorem s_doc {x j pos pos'} : PS X (.Expr (.Constant (.str x) j pos) pos') (TSt X.K U sSkip) := impS ps_doc fun D σ H ⟨c, s, m, hs, hm, hp⟩ => hp.ok hm σ hs
/-- code that is not reached -/
def sNever : SX := fun _ _ => none
theorem s_never : PS X st (TSt X.K U sNever) := impS ps_never fun D σ H ⟨c, s, m, hs, hm, hp⟩ => hp
theorem ss_never {sts : List Stmt} : PSs X sts (TSt X.K U sNever) := impSs pss_never fun D σ H ⟨c, s, m, hs, hm, hp⟩ => hp
def sExpr (f : EX W) : SX := fun s m => (f s m).st s fun _ m1 => some (.nx s, m1)
theorem s_expr {f : EX W} (he : PE X e (T X.K U f)) (hs : swapsWith e none pos.line X.env = pure false := by rfl) : PS X (.Expr e pos) (TSt X.K U (sExpr f)) := by
  refine impS (ps_expr he hs) ?_
  rintro D σ H ⟨c, s, m, hs, hm, hp⟩
  exact ⟨c, s, m, hs, hm, Post.st hs hp fun c1 H1 a m1 e1 hs1 hm1 hp1 v rv => hp1.ok hm1 σ hs1⟩
def sRet (f : EX W) : SX := fun s m => (f s m).st s fun w m1 => some (.rt w, m1)
theorem s_ret {f : EX W} (he : PE X e (T X.K U f)) : PS X (.Return (some e) pos) (TSt X.K U (sRet f)) := by
  refine impS (ps_ret he) ?_
  rintro D σ H ⟨c, s, m, hs, hm, hp⟩
  exact ⟨c, s, m, hs, hm, Post.st hs hp fun c1 H1 a m1 e1 hs1 hm1 hp1 v rv => hp1.ok hm1 v rv⟩
def sRetN : SX := fun s m => some (.rt (.p .none), m)
theorem s_retN : PS X (.Return none pos) (TSt X.K U sRetN) := impS ps_retN fun D σ H ⟨c, s, m, hs, hm, hp⟩ => hp.ok hm .non (.p .non)
def sIf (b : EX Bool) (f g : SX) : SX := fun s m => (b s m).st s fun k m1 => if k = true then f s m1 else g s m1
theorem s_if {c : Expr} {a b : List Stmt} {t : EX Bool} (hc : PT X c (TB X.K U t)) (ha : PSs X a (TSt X.K U f)) (hb : PSs X b (TSt X.K U g)) : PS X (.If c a b pos) (TSt X.K U (sIf t f g)) := by
  refine impS (ps_if hc ha hb) ?_
  rintro D σ H ⟨c, s, m, hs, hm, hp⟩
  refine ⟨c, s, m, hs, hm, Post.st hs hp fun c1 H1 a m1 e1 hs1 hm1 hp1 => ?_⟩
  cases a with
  | true => exact ⟨c1, s, m1, hs1, hm1, hp1⟩
  | false => exact ⟨c1, s, m1, hs1, hm1, hp1⟩
def sSet (i : Nat) (f : EX W) : SX := fun s m => (f s m).st s fun w m1 => some (.nx (s.set i (some w)), m1)
theorem asg_imp {K : PySem.W.Frag} {f : EX W} {i : Nat} {D : Ends} {σ : L2.St} {H : Hp} (h : TSt K U (sSet i f) D σ H) : tAsg (T K U f) (gName i) D σ H := by
  obtain ⟨c, s, m, hs, hm, hp⟩ := h
  exact ⟨c, s, m, hs, hm, Post.st hs hp fun c1 H1 a m1 e1 hs1 hm1 hp1 v rv => hp1.ok hm1 _ (hs1.set rv)⟩
theorem s_set {i : Nat} {x : Str} {f : EX W} {pos' : Pos} (hN : X.N.Nodup) (hi : X.N[i]? = some x) (hx : Loc X.env.scope x) (he : PE X e (T X.K U f)) (hs : swapsWith e (some (.Name x pos')) pos.line X.env = pure false := by rfl) (hf : X.fn x = true ∨ X.env.scope.names.lookup x = some .local := by first | exact .inl rfl | exact .inr rfl | assumption) :
    PS X (.Assign [.Name x pos'] e pos) (TSt X.K U (sSet i f)) := impS (ps_set hN hi hx he hs hf) fun _ _ _ h => asg_imp h
/-- name = [..] with the name a local -/
theorem s_setLc {i : Nat} {y : Str} {py : Pos} {elt tg iter : Expr} {ifs : List Expr} {scope : Scope} {own : List (Str × Nat)} {pos spos : Pos} {src : IX} {t : Tg} {g : EX Bool} {f : EX W} {fin : List W → Hm → Res W} (ok : FinOk fin) (hv : t.inn (own.map (·.2)) = true) (hc : X.calm = true) (hN : X.N.Nodup) (hy : X.N[i]? = some y) (hyl : X.env.scope.names.lookup y = some .local)
    (hsw : swapsWith (.ListComp elt [⟨tg, iter, ifs, 0⟩] scope pos) (some (.Name y py)) spos.line X.env = pure true) (hi : PI X tg iter (TI' X.K U src)) (bo : BlkOk X.N X.env.scope scope own)
    (hg : ∀ (s : Shared) (H : Hp) (C : Addr) (cl : List (Str × Addr)) (fp : List Addr), PG (X.blk s H scope (compEnvC scope cl C X.env) fp) tg (TG' X.K t)) (ht : ∀ (s : Shared) (H : Hp) (C : Addr) (cl : List (Str × Addr)) (fp : List Addr), PTs (X.blk s H scope (compEnvC scope cl C X.env) fp) ifs (TB X.K U0 g))
    (he : ∀ (s : Shared) (H : Hp) (C : Addr) (cl : List (Str × Addr)) (fp : List Addr), PE (X.blk s H scope (compEnvC scope cl C X.env) fp) elt (T X.K U0 f)) (hs : ∀ x, foldedSetIterable iter X.env x = pure x := by intro _; rfl) :
    PS X (.Assign [.Name y py] (.ListComp elt [⟨tg, iter, ifs, 0⟩] scope pos) spos) (TSt X.K U (sSet i (eLc fin src t g f (own.map (·.2))))) := by
  refine impS (ps_setLc hc hN hy hyl hsw hi bo hg ht he hs) fun D σ H h => ?_
  obtain ⟨c, s, m, hs, hm, hp⟩ := h
  exact lc_imp ok hv ⟨c, s, m, hs, hm, Post.st hs hp fun c1 H1 a m1 e1 hs1 hm1 hp1 v rv => hp1.ok hm1 _ (hs1.set rv)⟩
/-- names = value -/
def sPut (t : Tg) (f : EX W) : SX := fun s m => (f s m).st s fun w m1 => match t.put w s with
  | some s1 => some (.nx s1, m1)
  | none => none
theorem s_put {tg : Expr} {t : Tg} {f : EX W} (he : PE X e (T X.K U f)) (hg : PG X tg (TG' X.K t)) (hs : swapsWithSole [tg] e pos.line X.env = pure false := by rfl) (hw : swappedStores [tg] e X.env = pure none := by rfl)
    (h1 : (assignEach [tg] X.env).map (·.2) = [assign tg X.env] := by rfl) : PS X (.Assign [tg] e pos) (TSt X.K U (sPut t f)) := by
  refine impS (ps_asg he hg hs hw h1) fun D σ H h => ?_
  obtain ⟨c, s, m, hs, hm, hp⟩ := h
  refine ⟨c, s, m, hs, hm, Post.st hs hp fun c1 H1 a m1 e1 hs1 hm1 hp1 v rv => ?_⟩
  split at hp1
  · rename_i s1 e1
    exact ⟨c1, s, a, s1, hs1, rv, e1, fun σ' hs' _ => hp1.ok hm1 σ' hs'⟩
  · exact hp1.elim
/-- o[i] = value, a list's place -/
def setIx (o i w : W) (m : Hm) : Option Hm := match o, i with
  | .loc n, .p (.int i) => match m[n]? with
    | some (.lst ws) => (match ixN ws.length i with
      | some k => some (m.set n (.lst (ws.set k w)))
      | none => none)
    | _ => none
  | _, _ => none
def sSetIx (fo fi f : EX W) : SX := fun s m => (f s m).st s fun w m1 => (fo s m1).st s fun o m2 => (fi s m2).st s fun i m3 => match setIx o i w m3 with
  | some m4 => some (.nx s, m4)
  | none => none
theorem g_subL {o i : Expr} {fo fi : EX W} (ho : PE X o (T X.K U fo)) (hi : PE X i (T X.K U fi))
    (ha : ∀ v, assign (.Subscript o i pos) X.env v = (do
      let ov ← holding [v] (eval o X.env)
      let iv ← holding [v, ov] (eval i X.env)
      standAt pos
      holding [v, ov, iv] (setItem ov iv v)
      release [v, ov, iv] []) := by intro _; rfl) : PG X (.Subscript o i pos) (gSub (T X.K U fo) (T X.K U fi) rSetL) := pg_sub ho hi set_list ha
theorem s_setIx {o i : Expr} {pos' : Pos} {fo fi f : EX W} (he : PE X e (T X.K U f)) (ho : PE X o (T X.K U fo)) (hi : PE X i (T X.K U fi))
    (ha : ∀ v, assign (.Subscript o i pos') X.env v = (do
      let ov ← holding [v] (eval o X.env)
      let iv ← holding [v, ov] (eval i X.env)
      standAt pos'
      holding [v, ov, iv] (setItem ov iv v)
      release [v, ov, iv] []) := by intro _; rfl)
    (hs : swapsWithSole [.Subscript o i pos'] e pos.line X.env = pure false := by rfl) (hw : swappedStores [.Subscript o i pos'] e X.env = pure none := by rfl)
    (h1 : (assignEach [.Subscript o i pos'] X.env).map (·.2) = [assign (.Subscript o i pos') X.env] := by rfl) : PS X (.Assign [.Subscript o i pos'] e pos) (TSt X.K U (sSetIx fo fi f)) := by
  refine impS (ps_asg he (g_subL ho hi ha) hs hw h1) fun D σ H h => ?_
  obtain ⟨c, s, m, hs, hm, hp⟩ := h
  refine ⟨c, s, m, hs, hm, Post.st hs hp fun c1 H1 w m1 e1 hs1 hm1 hp1 v rv => ?_⟩
  refine ⟨c1, s, m1, hs1, hm1, Post.st hs1 hp1 fun c2 H2 o m2 e2 hs2 hm2 hp2 ov ro => ?_⟩
  refine ⟨c2, s, m2, hs2, hm2, Post.st hs2 hp2 fun c3 H3 i m3 e3 hs3 hm3 hp3 iv ri => ?_⟩
  have rv := (rv.mono e2).mono e3
  have ro := ro.mono e3
  split at hp3
  · rename_i m4 e4
    unfold setIx at e4
    split at e4
    · rename_i n k
      split at e4
      · rename_i ws q
        split at e4
        · rename_i j ej
          cases e4
          cases ro with | loc h =>
          cases ri with | p ri =>
          cases ri
          obtain ⟨xs, hx, z, rr⟩ := hm3.lst h q
          have ex : Ext c3 H3 c3 (upd H3 _ (.lst (xs.set j v))) := Ext.write h
          refine ⟨_, xs, _, j, rfl, rfl, hx, by rw [rr.length]; exact ej, ?_⟩
          exact hp3 c3 _ ex (hm3.write h ⟨_, upd_same, by simpa using z, (rr.set j rv).mono ex⟩) σ (hs3.mono ex)
        · cases e4
      · cases e4
    · cases e4
  · exact hp3.elim

/-! ### loops -/
def forGo (gs : List (Nat × List W)) (t : Tg) (body : SX) : List W → SX
  | [], s, m => if gOk m gs = true then some (.nx s, m) else none
  | w :: r, s, m => if gOk m gs = true then (match t.put w s with
    | none => none
    | some s1 => match body s1 m with
      | some (.nx s2, m2) => forGo gs t body r s2 m2
      | some (.ct s2, m2) => forGo gs t body r s2 m2
      | some (.bk s2, m2) => some (.nx s2, m2)
      | o => o) else none
def sFor (src : IX) (t : Tg) (body : SX) : SX := fun s m => (src s m).st s fun sc m1 => forGo sc.gs t body sc.items s m1
theorem for_imp {K : PySem.W.Frag} {src : IX} {t : Tg} {body : SX} {D : Ends} {σ : L2.St} {H : Hp} (h : TSt K U (sFor src t body) D σ H) : tFor (TI' K U src) (TG' K t) (TSt K U body) D σ H := by
  obtain ⟨c, s, m, hs, hm, hp⟩ := h
  refine ⟨c, s, m, hs, hm, Post.st hs hp fun c1 H1 sc m1 e1 hs1 hm1 hp1 J hJ => ?_⟩
  refine ⟨fun i me σ H => i ≤ sc.items.length ∧ me = sc.items.length - i ∧ ∃ c s m, Ext c1 H1 c H ∧ SRel K c H s σ ∧ HRel K c m H ∧ PostS K U D c H (forGo sc.gs t body (sc.items.drop i) s m), ⟨sc.items.length, Nat.zero_le _, by simp, c1, s, m1, .refl, hs1, hm1, by simpa using hp1⟩, ?_⟩
  rintro i me σ H ⟨hi, rfl, c, s, m, e, hs, hm, hp⟩
  by_cases hi2 : i < sc.items.length
  case neg =>
    have hi3 : sc.items.length ≤ i := by omega
    rw [List.drop_eq_nil_of_le hi3] at hp
    unfold forGo at hp
    by_cases hg : gOk m sc.gs = true
    case neg => rw [if_neg hg] at hp; exact hp.elim
    rw [if_pos hg] at hp
    exact .inl ⟨(hJ _ H m e hm hg i).1 hi3, hp.ok hm σ hs⟩
  case pos =>
    rw [List.drop_eq_getElem_cons hi2] at hp
    unfold forGo at hp
    by_cases hg : gOk m sc.gs = true
    case neg => rw [if_neg hg] at hp; exact hp.elim
    rw [if_pos hg] at hp
    obtain ⟨go, yl⟩ := (hJ _ H m e hm hg i).2 _ (List.getElem?_eq_getElem hi2)
    cases es : t.put sc.items[i] s with
    | none => rw [es] at hp; exact hp.elim
    | some s1 =>
      rw [es] at hp
      refine .inr ⟨go, fun σ H' => ∃ c s m, Ext c1 H1 c H' ∧ SRel K c H' s σ ∧ HRel K c m H' ∧ PostS K U D c H' (forGo sc.gs t body (sc.items.drop (i + 1)) s m), fun σ' H' q => ⟨_, by omega, by omega, rfl, q⟩, fun x H' y => ?_⟩
      obtain ⟨yy, rx⟩ := yl x H' y
      obtain ⟨ey, hmy⟩ := yld_ext hm yy
      refine ⟨c, s, _, s1, hs.mono ey, rx, es, fun σ2 hs2 _ => ⟨c, s1, m, hs2, hmy, ?_⟩⟩
      have hp := hp.ext ey
      have e2 := e.trans ey
      cases eb : body s1 m with
      | none => simp only [eb] at hp; exact hp.elim
      | some p =>
        obtain ⟨o, m2⟩ := p
        simp only [eb] at hp
        intro c3 H3 e3 hm3
        cases o with
        | nx s2 => exact fun σ3 hs3 => ⟨c3, s2, m2, e2.trans e3, hs3, hm3, hp.ext e3⟩
        | ct s2 => exact fun σ3 hs3 => ⟨c3, s2, m2, e2.trans e3, hs3, hm3, hp.ext e3⟩
        | bk s2 => exact hp c3 H3 e3 hm3
        | rt w => exact hp c3 H3 e3 hm3
        | ex x s2 => exact hp c3 H3 e3 hm3
theorem s_for {tg iter : Expr} {body : List Stmt} {src : IX} {t : Tg} {f : SX} (hp : PassesOwn (model X.prog X.w) X.A X.env X.xe) (hc : X.calm = true) (hi : PI X tg iter (TI' X.K U src)) (hg : PG X tg (TG' X.K t)) (hb : PSs X body (TSt X.K U f))
    (hs : ∀ x, foldedSetIterable iter X.env x = pure x := by intro _; rfl) : PS X (.For tg iter body [] pos) (TSt X.K U (sFor src t f)) := impS (ps_for hp hc hi hg hb hs) fun _ _ _ h => for_imp h
def whGo (b : EX Bool) (body : SX) : Nat → SX
  | 0, _, _ => none
  | n + 1, s, m => (b s m).st s fun k m1 => if k = true then (match body s m1 with
    | some (.nx s2, m2) => whGo b body n s2 m2
    | some (.ct s2, m2) => whGo b body n s2 m2
    | some (.bk s2, m2) => some (.nx s2, m2)
    | o => o) else some (.nx s, m1)
/-- fuel by the state at the start -/
def sWhile (fu : Nat) (b : EX Bool) (body : SX) : SX := whGo b body fu
theorem while_imp {K : PySem.W.Frag} {fu : Nat} {b : EX Bool} {body : SX} {D : Ends} {σ : L2.St} {H : Hp} (h : TSt K U (sWhile fu b body) D σ H) : tWhile (TB K U b) (TSt K U body) D σ H := by
  refine ⟨fun n σ H => ∃ c s m, SRel K c H s σ ∧ HRel K c m H ∧ PostS K U D c H (whGo b body n s m), ⟨fu, h⟩, ?_⟩
  rintro n σ H ⟨c, s, m, hs, hm, hp⟩
  cases n with
  | zero => exact hp.elim
  | succ n =>
    unfold whGo at hp
    refine ⟨c, s, m, hs, hm, Post.st hs hp fun c1 H1 k m1 e1 hs1 hm1 hp1 => ?_⟩
    cases k with
    | false => exact hp1.ok hm1 σ hs1
    | true =>
      simp only [if_true] at hp1 ⊢
      refine ⟨fun σ H => ∃ c s m, SRel K c H s σ ∧ HRel K c m H ∧ PostS K U D c H (whGo b body n s m), fun σ' H' q => ⟨n, Nat.lt_succ_self n, q⟩, c1, s, m1, hs1, hm1, ?_⟩
      cases eb : body s m1 with
      | none => simp only [eb] at hp1; exact hp1.elim
      | some p =>
        obtain ⟨o, m2⟩ := p
        simp only [eb] at hp1
        intro c3 H3 e3 hm3
        cases o with
        | nx s2 => exact fun σ3 hs3 => ⟨c3, s2, m2, hs3, hm3, hp1.ext e3⟩
        | ct s2 => exact fun σ3 hs3 => ⟨c3, s2, m2, hs3, hm3, hp1.ext e3⟩
        | bk s2 => exact hp1 c3 H3 e3 hm3
        | rt w => exact hp1 c3 H3 e3 hm3
        | ex x s2 => exact hp1 c3 H3 e3 hm3
theorem s_while {fu : Nat} {c : Expr} {body : List Stmt} {b : EX Bool} {f : SX} (hp : PassesOwn (model X.prog X.w) X.A X.env X.xe) (hc : PT X c (TB X.K U b)) (hb : PSs X body (TSt X.K U f)) : PS X (.While c body [] pos) (TSt X.K U (sWhile fu b f)) := impS (ps_while hp hc hb) fun _ _ _ h => while_imp h
end
end Mir

namespace Mir
open PySem PySem.Spec PyProof.Rows L2

/-! ### letting go of cells -/
mutual
def okW (k : Nat) : W → Bool
  | .p _ => true
  | .ro _ => true
  | .loc n => decide (n < k)
  | .tw ws => okWs k ws
def okWs (k : Nat) : List W → Bool
  | [] => true
  | w :: ws => okW k w && okWs k ws
end
def okC (k : Nat) : Cell → Bool
  | .lst ws => okWs k ws
  | .dct kvs => okWs k (kvs.map (·.2))
  | .ins _ fs => okWs k (fs.map (·.2))
def okM (k : Nat) (m : Hm) : Bool := (m.take k).all (okC k)
def okE (k : Nat) (s : Ev) : Bool := s.all fun o => match o with
  | some w => okW k w
  | none => true
abbrev cut (k : Nat) (c : Cfg) : Cfg := ⟨c.fb, c.rho.take k⟩
section
variable {K : PySem.W.Frag} {c c' : Cfg} {H H' : Hp} {m : Hm} {k : Nat}
theorem cut_sub {a : Addr} (h : a ∉ c.rho) : a ∉ (cut k c).rho := fun q => h (List.mem_of_mem_take q)
theorem TupAt.cut {a : Addr} {xs : List V} (h : TupAt K c H a xs) : TupAt K (Mir.cut k c) H a xs := by
  rcases h with ⟨h, n, n2⟩ | h
  · exact .inl ⟨h, n, cut_sub n2⟩
  · exact .inr h
theorem LstAt.cut {a : Addr} {xs : List V} (h : LstAt K c H a xs) : LstAt K (Mir.cut k c) H a xs := by
  rcases h with ⟨h, n, n2⟩ | h
  · exact .inl ⟨h, n, cut_sub n2⟩
  · exact .inr h
mutual
theorem Rp.cut : ∀ {v : V} {d : PyData}, Rp K c H v d → Rp K (Mir.cut k c) H v d
  | _, _, .non => .non
  | _, _, .bl b => .bl b
  | _, _, .int i => .int i
  | _, _, .str x => .str x
  | _, _, .lst h n n2 z r => .lst h n (cut_sub n2) z (RpAll.cut r)
  | _, _, .tup h z r => .tup h.cut z (RpAll.cut r)
theorem RpAll.cut : ∀ {vs : List V} {ds : List PyData}, RpAll K c H vs ds → RpAll K (Mir.cut k c) H vs ds
  | _, _, .nil => .nil
  | _, _, .cons r t => .cons (Rp.cut r) (RpAll.cut t)
end
mutual
theorem RpW.cut : ∀ {v : V} {w : W}, RpW K c H v w → okW k w = true → RpW K (Mir.cut k c) H v w
  | _, _, .p r, _ => .p r.cut
  | _, _, .ro h z r, _ => .ro h.cut z r.cut
  | _, _, .loc h, e => .loc (by
    have e : decide (_ < k) = true := e
    show (c.rho.take k)[_]? = some _
    rw [List.getElem?_take_of_lt (of_decide_eq_true e)]
    exact h)
  | _, _, .tw h z r, e => .tw h.cut z (RpWs.cut r e)
theorem RpWs.cut : ∀ {vs : List V} {ws : List W}, RpWs K c H vs ws → okWs k ws = true → RpWs K (Mir.cut k c) H vs ws
  | _, _, .nil, _ => .nil
  | _, _, .cons r t, e => by
    have e : (okW k _ && okWs k _) = true := e
    rw [Bool.and_eq_true] at e
    exact .cons (RpW.cut r e.1) (RpWs.cut t e.2)
end
theorem CellOk.cut {a : Addr} {x : Cell} (h : CellOk K c H a x) (e : okC k x = true) : CellOk K (Mir.cut k c) H a x := by
  cases x with
  | lst ws => obtain ⟨xs, e1, z, r⟩ := h; exact ⟨xs, e1, z, r.cut e⟩
  | dct => exact h.elim
  | ins => exact h.elim
theorem HRel.cut (h : HRel K c m H) (e : okM k m = true) : HRel K (Mir.cut k c) (m.take k) H := by
  refine ⟨by simp [h.len], h.nd.sublist (List.take_sublist ..), h.fb, fun a ha q => h.dj a ha (List.mem_of_mem_take q), fun n x hx => ?_⟩
  have hn : n < k := by
    by_cases q : n < k
    · exact q
    · rw [List.getElem?_eq_none (by simp; omega)] at hx; cases hx
  have hx' := hx
  rw [List.getElem?_take_of_lt hn] at hx'
  obtain ⟨a, ha, ok⟩ := h.at_ n x hx'
  refine ⟨a, ?_, ok.cut ((List.all_eq_true.mp e) x (List.mem_of_getElem? hx))⟩
  show (c.rho.take k)[n]? = some a
  rw [List.getElem?_take_of_lt hn]; exact ha
theorem Ext.cut (e : Ext c H c' H') (hk : c.rho.length ≤ k) : Ext c H (Mir.cut k c') H' := by
  obtain ⟨l, hl, hn⟩ := e.rho
  refine ⟨e.fb, ⟨l.take (k - c.rho.length), ?_, fun a ha => hn a (List.mem_of_mem_take ha)⟩, e.keep, e.live⟩
  show c'.rho.take k = _
  rw [hl, List.take_append, List.take_of_length_le hk]
theorem SRel.cut {s : Ev} {σ : L2.St} (h : SRel K c H s σ) (e : okE k s = true) : SRel K (Mir.cut k c) H s σ :=
  ⟨h.1, fun i w q => let ⟨v, e1, r⟩ := h.2 i w q; ⟨v, e1, r.cut ((List.all_eq_true.mp e) (some w) (List.mem_of_getElem? q))⟩⟩
theorem SRel.wipeL {s : Ev} {σ : L2.St} (h : SRel K c H s σ) (vs : List Nat) : SRel K c H (wipeE s vs) σ := by
  refine h.forget ?_ ?_
  · induction vs with
    | nil => rfl
    | cons v vs ih => simp [wipeE, ih]
  · induction vs with
    | nil => intro i w q; exact q
    | cons v vs ih =>
      intro i w q
      unfold wipeE at q
      by_cases e : v = i
      · subst e
        by_cases hl : v < (wipeE s vs).length
        · rw [List.getElem?_set_self hl] at q; cases q
        · rw [List.getElem?_eq_none (by simpa using hl)] at q; cases q
      · rw [List.getElem?_set_ne e] at q
        exact ih i w q
end
/-- names forgotten, new cells let go if nothing holds them -/
def tidy (k : Nat) (mask : List Nat) (s : Ev) (m : Hm) : Ev × Hm := if (okE k (wipeE s mask) && okM k m) = true then (wipeE s mask, m.take k) else (wipeE s mask, m)
def sTidy (mask : List Nat) (f : SX) : SX := fun s m => match f s m with
  | some (.nx s1, m1) => some (.nx (tidy m.length mask s1 m1).1, (tidy m.length mask s1 m1).2)
  | some (.ct s1, m1) => some (.ct (tidy m.length mask s1 m1).1, (tidy m.length mask s1 m1).2)
  | r => r
theorem tidy_ok {K : PySem.W.Frag} {c c' : Cfg} {H H' : Hp} {m m1 : Hm} {s : Ev} {σ : L2.St} {mask : List Nat} (hm : HRel K c m H) (e : Ext c H c' H') (hm1 : HRel K c' m1 H') (hs : SRel K c' H' s σ) :
    ∃ c2, Ext c H c2 H' ∧ HRel K c2 (tidy m.length mask s m1).2 H' ∧ SRel K c2 H' (tidy m.length mask s m1).1 σ := by
  unfold tidy
  split
  · rename_i h
    rw [Bool.and_eq_true] at h
    exact ⟨_, e.cut (Nat.le_of_eq hm.len), hm1.cut h.2, (hs.wipeL mask).cut h.1⟩
  · exact ⟨c', e, hm1, hs.wipeL mask⟩
theorem tidy_imp {K : PySem.W.Frag} {U : WX} {mask : List Nat} {f : SX} {D : Ends} {σ : L2.St} {H : Hp} (h : TSt K U (sTidy mask f) D σ H) : TSt K U f D σ H := by
  obtain ⟨c, s, m, hs, hm, hp⟩ := h
  refine ⟨c, s, m, hs, hm, ?_⟩
  unfold sTidy at hp
  cases e : f s m with
  | none => simp only [e] at hp; exact hp
  | some p =>
    obtain ⟨o, m1⟩ := p
    simp only [e] at hp
    cases o with
    | nx s1 =>
      intro c' H' e' hm' σ' hs'
      obtain ⟨c2, a, b, d⟩ := tidy_ok (mask := mask) hm e' hm' hs'
      exact hp c2 H' a b σ' d
    | ct s1 =>
      intro c' H' e' hm' σ' hs'
      obtain ⟨c2, a, b, d⟩ := tidy_ok (mask := mask) hm e' hm' hs'
      exact hp c2 H' a b σ' d
    | rt w => exact hp
    | bk s => exact hp
    | ex x s => exact hp
theorem ss_tidy {X : Cx} {U : WX} {st : List Stmt} {f : SX} (mask : List Nat) (h : PSs X st (TSt X.K U f)) : PSs X st (TSt X.K U (sTidy mask f)) := impSs h fun _ _ _ h => tidy_imp h

/-! ### the end of a call -/
def frzL (f : W → Option PyData) : List W → Option (List PyData)
  | [] => some []
  | w :: ws => match f w with
    | some d => (frzL f ws).map (d :: ·)
    | none => none
def frz (k : Nat) (m : Hm) : Nat → W → Option PyData
  | 0, w => match w with
    | .p d => some d
    | _ => none
  | n + 1, w => match w with
    | .p d => some d
    | .loc j => if k ≤ j then (match m[j]? with
      | some (.lst ws) => (frzL (frz k m n) ws).map .list
      | _ => none) else none
    | .tw ws => (frzL (frz k m n) ws).map .tuple
    | .ro _ => none
section
variable {K : PySem.W.Frag} {c : Cfg} {H : Hp} {m : Hm} {k : Nat}
theorem frz_ok (hm : HRel K c m H) : ∀ (n : Nat), (∀ (v : V) (w : W) (d : PyData), RpW K c H v w → frz k m n w = some d → Rp K (cut k c) H v d) ∧ ∀ (vs : List V) (ws : List W) (ds : List PyData), RpWs K c H vs ws → frzL (frz k m n) ws = some ds → RpAll K (cut k c) H vs ds := by
  intro n
  have all : ∀ n, (∀ (v : V) (w : W) (d : PyData), RpW K c H v w → frz k m n w = some d → Rp K (cut k c) H v d) → ∀ (ws : List W) (vs : List V) (ds : List PyData), RpWs K c H vs ws → frzL (frz k m n) ws = some ds → RpAll K (cut k c) H vs ds := by
    intro n h1 ws
    induction ws with
    | nil => intro vs ds r e; cases r; simp only [frzL] at e; cases e; exact .nil
    | cons w ws ih =>
      intro vs ds r e
      cases r with
      | cons r t =>
        simp only [frzL] at e
        split at e
        · rename_i d e1
          obtain ⟨ds', e2, rfl⟩ := Option.map_eq_some_iff.mp e
          exact .cons (h1 _ _ _ r e1) (ih _ _ t e2)
        · cases e
  induction n with
  | zero =>
    have h1 : ∀ (v : V) (w : W) (d : PyData), RpW K c H v w → frz k m 0 w = some d → Rp K (cut k c) H v d := by
      intro v w d r e
      cases r with
      | p r => simp only [frz] at e; cases e; exact r.cut
      | ro => simp [frz] at e
      | loc => simp [frz] at e
      | tw => simp [frz] at e
    exact ⟨h1, fun vs ws ds => all 0 h1 ws vs ds⟩
  | succ n ih =>
    have h1 : ∀ (v : V) (w : W) (d : PyData), RpW K c H v w → frz k m (n + 1) w = some d → Rp K (cut k c) H v d := by
      intro v w d r e
      cases r with
      | p r => simp only [frz] at e; cases e; exact r.cut
      | ro => simp [frz] at e
      | @loc a j h =>
        simp only [frz] at e
        split at e
        · rename_i hj
          split at e
          · rename_i ws q
            obtain ⟨ds, e1, rfl⟩ := Option.map_eq_some_iff.mp e
            obtain ⟨xs, hx, z, rr⟩ := hm.lst h q
            refine .lst hx (fun z => hm.dj a z (List.mem_of_getElem? h)) (fun z => ?_) z (ih.2 _ _ _ rr e1)
            obtain ⟨i, hi, ei⟩ := List.mem_iff_getElem?.mp z |>.imp fun i hi => (⟨(List.getElem?_eq_some_iff.mp hi).1, hi⟩ : i < (c.rho.take k).length ∧ _)
            have hik : i < k := by simp at hi; omega
            rw [List.getElem?_take_of_lt hik] at ei
            have := (List.getElem?_inj (List.getElem?_eq_some_iff.mp h).1 hm.nd).mp (h.trans ei.symm)
            omega
          · cases e
        · cases e
      | tw h z r =>
        simp only [frz] at e
        obtain ⟨ds, e1, rfl⟩ := Option.map_eq_some_iff.mp e
        exact .tup h.cut z (ih.2 _ _ _ r e1)
    exact ⟨h1, fun vs ws ds => all (n + 1) h1 ws vs ds⟩
end
def endFn (fz : Bool) (k : Nat) (w : W) (m : Hm) : Res W := if okM k m = true then (if okW k w = true then .ok w (m.take k) else if fz = true then (match frz k m 4 w with
    | some d => .ok (.p d) (m.take k)
    | none => .ok w m) else .ok w m) else .ok w m
def endX (k : Nat) (x : Exn) (m : Hm) : Res W := if (okM k m && okWs k (x.fs.map (·.2))) = true then .exc x (m.take k) else .exc x m
def startE (n : Nat) (ws : List W) : Ev := ws.map some ++ List.replicate (n - ws.length) none
abbrev FF := List W → Hm → Res W
def retE (fz : Bool) (k : Nat) : SR → Res W
  | some (.rt w, m1) => endFn fz k w m1
  | some (.nx _, m1) => endFn fz k (.p .none) m1
  | some (.ex x _, m1) => endX k x m1
  | _ => .stuck
/-- a def: p the parameters, n the names in all -/
def mkFn (fz : Bool) (p n : Nat) (body : SX) : FF := fun ws m => if decide (ws.length = p) = true then retE fz m.length (body (startE n ws) m) else .stuck
abbrev UE (E : XK) : WX := fun cls dx _ H => E cls dx H
/-- what a def with the mirror F promises -/
def SpF (K : PySem.W.Frag) (F : FF) (p : Nat) : Sp := fun vs H Q E => vs.length = p ∧ ∃ c ws m, HRel K c m H ∧ RpWs K c H vs ws ∧ Post K (UE E) [] c H (RQ K Q) (F ws m)
theorem start_rel {K : PySem.W.Frag} {c : Cfg} {H : Hp} {vs : List V} {ws : List W} {N : List Str} {n : Nat} (r : RpWs K c H vs ws) (hn : N.length = n) : SRel K c H (startE n ws) (L2.start N vs) := by
  unfold startE L2.start
  refine ⟨by simp [r.length, hn], fun i w q => ?_⟩
  by_cases hi : i < ws.length
  · rw [List.getElem?_append_left (by simpa using hi), List.getElem?_map] at q
    obtain ⟨w', e1, e2⟩ := Option.map_eq_some_iff.mp q
    cases e2
    obtain ⟨v, hv, rv⟩ := r.get e1
    refine ⟨v, ?_, rv⟩
    rw [List.getElem?_append_left (by simp; rw [r.length]; exact hi), List.getElem?_map, hv]; rfl
  · rw [List.getElem?_append_right (by simp; omega)] at q
    have := List.mem_of_getElem? q
    rw [List.mem_replicate] at this
    cases this.2
theorem Post.u {K : PySem.W.Frag} {U U' : WX} {σ σ' : L2.St} {c : Cfg} {H : Hp} {α : Type} {R : Cfg → Hp → α → Hm → Prop} {r : Res α} (h : Post K U σ c H R r) (hu : ∀ cls dx H, U cls dx σ H → U' cls dx σ' H) : Post K U' σ' c H R r := by
  cases r with
  | stuck => exact h
  | ok a m' => exact h
  | exc x m' => exact fun c' H' cls dx e' hm' xr => hu _ _ _ (h c' H' cls dx e' hm' xr)
/-- a def's body -/
theorem fn_imp {K : PySem.W.Frag} {fz : Bool} {p n : Nat} {f : SX} {N : List Str} {vs : List V} {H : Hp} {Q : VK} {E : XK} (hn : N.length = n) (h : SpF K (mkFn fz p n f) p vs H Q E) : TSt K (UE E) f { nx := fun _ H' => Q .non H', rt := Q } (L2.start N vs) H := by
  obtain ⟨hl, c, ws, m, hm, r, hp⟩ := h
  refine ⟨c, startE n ws, m, start_rel r hn, hm, ?_⟩
  unfold mkFn retE at hp
  rw [if_pos (by simpa [← r.length] using hl)] at hp
  have fin : ∀ (w : W) (m1 : Hm) (c' : Cfg) (H' : Hp) (v : V), Post K (UE E) [] c H (RQ K Q) (endFn fz m.length w m1) → Ext c H c' H' → HRel K c' m1 H' → RpW K c' H' v w → Q v H' := by
    intro w m1 c' H' v hp e hm1 rv
    have hk := Nat.le_of_eq hm.len
    unfold endFn at hp
    split at hp
    · rename_i h1
      split at hp
      · rename_i h2
        exact hp _ H' (e.cut hk) (hm1.cut h1) v (rv.cut h2)
      · split at hp
        · split at hp
          · rename_i d e1
            exact hp _ H' (e.cut hk) (hm1.cut h1) v (.p ((frz_ok hm1 4).1 _ _ _ rv e1))
          · exact hp _ H' e hm1 v rv
        · exact hp _ H' e hm1 v rv
    · exact hp _ H' e hm1 v rv
  cases e : f (startE n ws) m with
  | none => simp only [e] at hp; exact hp
  | some q =>
    obtain ⟨o, m1⟩ := q
    simp only [e] at hp
    cases o with
    | nx s => exact fun c' H' e' hm' σ hs => fin _ _ _ _ _ hp e' hm' (.p .non)
    | rt w => exact fun c' H' e' hm' v rv => fin _ _ _ _ _ hp e' hm' rv
    | bk s => exact hp.elim
    | ct s => exact hp.elim
    | ex x s =>
      intro c' H' e' hm' σ cls dx hs xr
      have hp : Post K (UE E) [] c H (RQ K Q) (endX m.length x m1) := hp
      unfold endX at hp
      split at hp
      · rename_i h1
        rw [Bool.and_eq_true] at h1
        refine hp _ H' cls dx (e'.cut (Nat.le_of_eq hm.len)) (hm'.cut h1.1) ?_
        obtain ⟨x1, d, fs, x2, x3, x4, x5⟩ := xr
        exact ⟨x1, d, fs, x2, x3, x4, x5.cut h1.2⟩
      · exact hp _ H' cls dx e' hm' xr
end Mir

namespace Mir
open PySem PySem.Spec PyProof.Rows L2

/-! ### calls -/
/-- the def of that name keeps the promise of the mirror F -/
def OkD (P : Program) (w : World) (K : PySem.W.Frag) (mg : Str → Option Value) (base : Heap) (k : Nat) (x : Str) (F : FF) (ps : List Str) : Prop :=
  ∃ f fd, mg x = some (.ref f) ∧ PySem.W.keepIn K (.ref f) = true ∧ Binds K fd ps [] ∧ FnOk P w K mg base (L2.CX P w) k f fd ps (SpF K F ps.length)
theorem OkD.mono {P : Program} {w : World} {K : PySem.W.Frag} {mg : Str → Option Value} {base : Heap} {j k : Nat} {x : Str} {F : FF} {ps : List Str} (h : OkD P w K mg base j x F ps) (hk : j ≤ k) : OkD P w K mg base k x F ps :=
  let ⟨f, fd, a, b, c, d⟩ := h
  ⟨f, fd, a, b, c, d.mono hk⟩
def eCall (p : Nat) (F : FF) (fa : EX (List W)) : EX W := fun s m => (fa s m).bind fun ws m1 => if decide (ws.length = p) = true then F ws m1 else .stuck
section
variable {X : Cx} {U : WX} {k : Nat} {x : Str} {F : FF} {ps : List Str} {p pos : Pos} {e : Expr} {es : List Expr} {fa : EX (List W)}
theorem x_call {n : Nat} (o : OkD X.prog X.w X.K X.mg X.base k x F ps) (hr : Room k X.A) (tk : Takes X U) (ha : PA X (e :: es) (TL X.K U fa)) (hn : ps.length = n := by rfl) (hg : Gl X x := by rfl) (hdb : (x == ("__debug__" : Str)) = false := by decide) (he : starEach (e :: es) X.env = (false, eval e X.env) :: starEach es X.env := by rfl) (hpl : (backTo pos (starEach es X.env)).any (·.1) = false := by rfl) :
    PE X (.Call (.Name x p) (e :: es) [] pos) (T X.K U (eCall n F fa)) := by
  subst hn
  obtain ⟨f, fd, hm, hk, hb, ok⟩ := o
  refine imp (pe_callS (E := WE U) ok hr hg hm hk hb (fun σ => passAt tk σ) ha hdb he hpl) ?_
  rintro σ H Q ⟨c, s, m, hs, hmm, hp⟩
  refine TL.run hs hmm hp fun c1 H1 ws m1 vs e1 hs1 hm1 rv hp1 => ?_
  split at hp1
  · rename_i hl
    have hl := of_decide_eq_true hl
    exact ⟨by rw [rv.length]; exact hl, c1, ws, m1, hm1, rv, hp1.u fun _ _ _ h => h⟩
  · exact hp1.elim
end
abbrev cx (P : Program) (w : World) (K : PySem.W.Frag) (mg : Str → Option Value) (base : Heap) (N : List Str) (qual : Str) (scope : Scope) (f : Addr) (cd : Value) (A : Around) (outer : List Env) (s : Shared) (H : Hp) (E : XK) : Cx := cxOf (L2.CX P w) P w K mg base N qual scope f cd A outer s H E
section
variable {P : Program} {w : World} {K : PySem.W.Frag} {mg : Str → Option Value} {base : Heap} {x qual : Str} {params : Arguments} {body : List Stmt} {scope : Scope} {f : Addr} {fd : FuncData}
theorem takes_cx {N : List Str} {cd : Value} {A : Around} {outer : List Env} {s : Shared} {H : Hp} {E : XK} : Takes (cx P w K mg base N qual scope f cd A outer s H E) (UE E) := takes_of rfl rfl rfl rfl
theorem owns_cx {N : List Str} {cd : Value} {A : Around} {outer : List Env} {s : Shared} {H : Hp} {E : XK} : PassesOwn (model P w) (cx P w K mg base N qual scope f cd A outer s H E).A (cx P w K mg base N qual scope f cd A outer s H E).env (cx P w K mg base N qual scope f cd A outer s H E).xe := passes_of (X := cx P w K mg base N qual scope f cd A outer s H E) (K := fun e s'' => L2.CX P w outer H s E e s'') (E₁ := fun e s'' => L2.CX P w outer H s E e s'') rfl
/-- a def by its body -/
theorem fn_mk {N ps : List Str} {k n p : Nat} {fz : Bool} {b : SX} (F : FunD K x qual params body scope [] [] f fd) (S : FnScope N ps scope) (hn : N.length = n) (hp : ps.length = p)
    (h : ∀ (cd : Value) (A : Around) (outer : List Env) (s : Shared) (H : Hp) (E : XK), Room k (A.deeper (envOfC qual scope s.heap.objs.size f cd)) → PSs (cx P w K mg base N qual scope f cd A outer s H E) body (TSt K (UE E) b)) : FnOk P w K mg base (L2.CX P w) (k + 1) f fd ps (SpF K (mkFn fz p n b) ps.length) := by
  refine F.ok S (fun vs H Q E h => h.1) fun cdv A outer s H vs Q E hr hs => ⟨_, h cdv A outer s H E hr, ?_⟩
  subst hp
  exact fn_imp hn hs
theorem OkD.mk {N ps : List Str} {k n p : Nat} {fz : Bool} {b : SX} (F : FunD K x qual params body scope [] [] f fd) (hm : mg x = some (.ref f)) (hb : Binds K fd ps []) (S : FnScope N ps scope) (hn : N.length = n) (hp : ps.length = p)
    (h : ∀ (cd : Value) (A : Around) (outer : List Env) (s : Shared) (H : Hp) (E : XK), Room k (A.deeper (envOfC qual scope s.heap.objs.size f cd)) → PSs (cx P w K mg base N qual scope f cd A outer s H E) body (TSt K (UE E) b)) : OkD P w K mg base (k + 1) x (mkFn fz p n b) ps :=
  ⟨f, fd, hm, F.kp, hb, fn_mk F S hn hp h⟩
theorem OkD.zero {N ps : List Str} {k : Nat} (F : FunD K x qual params body scope [] [] f fd) (hm : mg x = some (.ref f)) (hb : Binds K fd ps []) (S : FnScope N ps scope) : OkD P w K mg base (k + 1) x (fun _ _ => .stuck) ps :=
  ⟨f, fd, hm, F.kp, hb, F.ok S (fun vs H Q E h => h.1) fun cdv A outer s H vs Q E hr hs => ⟨tNever, pss_never, hs.2.elim fun c h => h.elim fun ws h => h.elim fun m h => h.2.2⟩⟩
theorem u65 {k : Nat} {A : Around} (r : Room k A) : A.units + 65 < cLine := by have := r.un; omega
/-- the law's call: what the mirror answers at a script of whole numbers -/
theorem law_sp {F : FF} (h : ∀ ns : List Int, ns.length ≤ 63 → ∃ m, F [.ro (ns.map .int)] [] = .ok (.p (.bool true)) m) (H : Hp) (a : Addr) (ns : List Int) (hl : ns.length ≤ 63) (hS : SqL K H a (ns.map V.int)) : SpF K F 1 [.ref a] H (fun v _ => v = .bl true) fun _ _ _ => False := by
  obtain ⟨m, hm⟩ := h ns hl
  have rp : ∀ (c : Cfg) (H : Hp) (ns : List Int), RpAll K c H (ns.map V.int) (ns.map PyData.int) := fun c H ns => by
    induction ns with
    | nil => exact .nil
    | cons n ns ih => exact .cons (.int n) ih
  refine ⟨rfl, ⟨[], []⟩, [.ro (ns.map .int)], [], ⟨rfl, List.nodup_nil, fun p hp => by simp at hp, fun a ha => by simp [Cfg.fa] at ha, fun n x hx => by simp at hx⟩, ?_, ?_⟩
  · refine .cons (.ro ?_ (by rw [List.length_map, sizeLine_eq]; omega) (rp _ _ _)) .nil
    rcases hS with h | h
    · exact .inl ⟨h, by simp [Cfg.fa], by simp⟩
    · exact .inr h
  · rw [hm]
    intro c' H' e hm v rv
    cases rv with | p r =>
    cases r
    rfl
end
/-- the end over a head by facts, the exceptions' word told world by world -/
theorem walk_w {l : PySem.W.OpenLaw} {n k : Nat} {q : Program} {loose : List Str} {XP : (Str → Option Value) → Heap → Prop} {YP : World → Heap → Prop} {d : DefRec} {x : Str} (hn : l.most = some n) (hn2 : n ≤ sizeLine) (hdf : d.params.defaults = []) (hr : Room k callerA)
    (F : ∀ (w : World) (mg : Str → Option Value) (fa : Addr) (h : Heap), YP w h → h.Ns mainGlobals mg → mg d.name = some (.ref fa) → ∃ (K : PySem.W.Frag) (fd : FuncData) (sp : Sp), K.In h ∧ (∀ (s : Shared) (u : Value), BindsTo s fd ⟨[u], []⟩ [(x, u)]) ∧
      (∀ (H : Hp) (a : Addr) (ns : List Int), ns.length ≤ n → SqL K H a (ns.map V.int) → sp [.ref a] H (fun v _ => v = .bl true) fun _ _ _ => False) ∧ ∀ base : Heap, K.In base → base.Ns mainGlobals mg → FnOk l.prog w K mg base (L2.CX l.prog w) k fa fd [x] sp) :
    PySem.W.WalkO q loose XP YP l.row.toRowW d [] fun f vs => PySem.call f vs := by
  refine Att.attach_call hn hdf fun w s₀ s₁ mg mb fa o pm cd doc a vs ns G Y ho hd hcd hmg hobj hints hlen hg => ?_
  obtain ⟨K, fd, sp, KX, hb, hsp, hF⟩ := F w mg fa _ Y G.T.g hmg
  refine law_call (CX := L2.CX l.prog w) KX G.T.g G.T.b G.T.builtins G.T.nolimit hg hobj hints (Nat.le_trans hlen hn2) hr hF hb (fun H _ hS => hsp H a ns hlen hS) fun H e s' hc => ?_
  obtain ⟨_, _, _, _, _, _, _, _, _, _, _, _, z⟩ := hc
  exact z
end Mir

namespace Mir
open PySem PySem.Spec PyProof.Rows L2

/-! ### the mirrors, reckoned -/
section
variable {s : Ev} {m : Hm} {f g h : EX W} {b c : EX Bool} {fs : EX (List W)} {i : Nat} {d : PyData} {w : W}
@[simp] theorem r_var : eVar i s m = match s[i]? with
  | some (some w) => .ok w m
  | _ => .stuck := rfl
@[simp] theorem r_c : eC d s m = .ok (.p d) m := rfl
@[simp] theorem r_op2 {k : W → W → Hm → Res W} : eOp2 k f g s m = (f s m).bind fun a m1 => (g s m1).bind fun b m2 => k a b m2 := rfl
@[simp] theorem r_op1 {k : W → Hm → Res W} : eOp1 k f s m = (f s m).bind k := rfl
@[simp] theorem r_not : eNot f s m = (f s m).bind fun w m1 => match w with
  | .p (.bool b) => .ok (.p (.bool !b)) m1
  | _ => .stuck := rfl
@[simp] theorem r_and : eAnd f g s m = (f s m).bind fun w m1 => match w with
  | .p (.bool b) => if b = true then g s m1 else .ok (.p (.bool false)) m1
  | _ => .stuck := by
  unfold eAnd
  congr 1
  funext w m1
  cases w with
  | p d => cases d with
    | bool b => cases b <;> rfl
    | _ => rfl
  | _ => rfl
@[simp] theorem r_or : eOr f g s m = (f s m).bind fun w m1 => match w with
  | .p (.bool b) => if b = true then .ok (.p (.bool true)) m1 else g s m1
  | _ => .stuck := by
  unfold eOr
  congr 1
  funext w m1
  cases w with
  | p d => cases d with
    | bool b => cases b <;> rfl
    | _ => rfl
  | _ => rfl
@[simp] theorem r_if : eIf b f g s m = (b s m).bind fun k m1 => if k = true then f s m1 else g s m1 := rfl
@[simp] theorem r_anil : aNil s m = .ok [] m := rfl
@[simp] theorem r_acons : aCons f fs s m = (f s m).bind fun w m1 => (fs s m1).bind fun ws m2 => .ok (w :: ws) m2 := rfl
@[simp] theorem r_cb {k : List W → Hm → Res W} : eCB k fs s m = (fs s m).bind k := rfl
@[simp] theorem r_call {p : Nat} {F : FF} : eCall p F fs s m = (fs s m).bind fun ws m1 => if decide (ws.length = p) = true then F ws m1 else .stuck := rfl
@[simp] theorem r_btru : bTru f s m = (f s m).bind tru := rfl
@[simp] theorem r_bval : bVal f s m = (f s m).bind boolOf := rfl
@[simp] theorem r_boolOf {k : Bool} : boolOf (.p (.bool k)) m = .ok k m := rfl
@[simp] theorem r_tru {k : Bool} : tru (.p (.bool k)) m = .ok k m := rfl
@[simp] theorem r_bnot : bNot b s m = (b s m).bind fun k m1 => .ok (!k) m1 := rfl
@[simp] theorem r_band : bAnd b c s m = (b s m).bind fun k m1 => if k = true then c s m1 else .ok false m1 := rfl
@[simp] theorem r_bor : bOr b c s m = (b s m).bind fun k m1 => if k = true then .ok true m1 else c s m1 := rfl
@[simp] theorem r_byes : bYes s m = .ok true m := rfl
@[simp] theorem r_tup : eTup fs s m = (fs s m).bind fun ws m1 => if ws.length ≤ sizeLine then .ok (mkTup ws) m1 else .stuck := rfl
@[simp] theorem r_lst : eLst fs s m = (fs s m).bind fun ws m1 => if ws.length ≤ sizeLine then (match allP ws with
  | some ds => .ok (.p (.list ds)) m1
  | none => .stuck) else .stuck := rfl
@[simp] theorem r_lstL : eLstL fs s m = (fs s m).bind fun ws m1 => if ws.length ≤ sizeLine then .ok (.loc m1.length) (m1 ++ [.lst ws]) else .stuck := rfl
@[simp] theorem r_chain {k k' : W → W → Hm → Res W} : eChain k k' f g h s m = (f s m).bind fun a m1 => (g s m1).bind fun b m2 => (k a b m2).bind fun r m3 => match r with
  | .p (.bool t) => if t = true then (h s m3).bind fun c m4 => k' b c m4 else .ok (.p (.bool false)) m3
  | _ => .stuck := by
  unfold eChain
  congr 1
  funext a m1
  congr 1
  funext b m2
  congr 1
  funext w m3
  cases w with
  | p d => cases d with
    | bool b => cases b <;> rfl
    | _ => rfl
  | _ => rfl
-- statements
@[simp] theorem ret_rt {fz : Bool} {k : Nat} : retE fz k (some (.rt w, m)) = endFn fz k w m := rfl
@[simp] theorem ret_nx {fz : Bool} {k : Nat} : retE fz k (some (.nx s, m)) = endFn fz k (.p .none) m := rfl
@[simp] theorem ret_ex {fz : Bool} {k : Nat} {x : Exn} : retE fz k (some (.ex x s, m)) = endX k x m := rfl
variable {S S' : SX}
@[simp] theorem q_skip : sSkip s m = some (.nx s, m) := rfl
@[simp] theorem q_seq : sSeq S S' s m = match S s m with
  | some (.nx s1, m1) => S' s1 m1
  | r => r := rfl
@[simp] theorem q_never : sNever s m = none := rfl
@[simp] theorem q_expr : sExpr f s m = (f s m).st s fun _ m1 => some (.nx s, m1) := rfl
@[simp] theorem q_ret : sRet f s m = (f s m).st s fun w m1 => some (.rt w, m1) := rfl
@[simp] theorem q_retN : sRetN s m = some (.rt (.p .none), m) := rfl
@[simp] theorem q_if : sIf b S S' s m = (b s m).st s fun k m1 => if k = true then S s m1 else S' s m1 := rfl
@[simp] theorem q_set : sSet i f s m = (f s m).st s fun w m1 => some (.nx (s.set i (some w)), m1) := rfl
@[simp] theorem q_put {t : Tg} : sPut t f s m = (f s m).st s fun w m1 => match t.put w s with
  | some s1 => some (.nx s1, m1)
  | none => none := rfl
@[simp] theorem q_setIx : sSetIx f g h s m = (h s m).st s fun w m1 => (f s m1).st s fun o m2 => (g s m2).st s fun i m3 => match setIx o i w m3 with
  | some m4 => some (.nx s, m4)
  | none => none := rfl
end
theorem le_size {n : Nat} (h : n ≤ 16777216) : n ≤ sizeLine := by rw [sizeLine_eq]; exact h
/-! values -/
section
variable {m : Hm}
@[simp] theorem o_add (i j : Int) : addM (.p (.int i)) (.p (.int j)) m = .ok (.p (.int (i + j))) m := rfl
@[simp] theorem o_sub (i j : Int) : subM (.p (.int i)) (.p (.int j)) m = .ok (.p (.int (i - j))) m := rfl
@[simp] theorem o_le (i j : Int) : leM (.p (.int i)) (.p (.int j)) m = .ok (.p (.bool (decide (i ≤ j)))) m := rfl
@[simp] theorem o_gt (i j : Int) : gtM (.p (.int i)) (.p (.int j)) m = .ok (.p (.bool (decide (j < i)))) m := rfl
@[simp] theorem o_ge (i j : Int) : geM (.p (.int i)) (.p (.int j)) m = .ok (.p (.bool (decide (j ≤ i)))) m := rfl
@[simp] theorem o_lt (i j : Int) : ltM (.p (.int i)) (.p (.int j)) m = .ok (.p (.bool (decide (i < j)))) m := rfl
@[simp] theorem o_eqI (i j : Int) : eqM false (.p (.int i)) (.p (.int j)) m = .ok (.p (.bool (i == j))) m := rfl
@[simp] theorem o_neI (i j : Int) : eqM true (.p (.int i)) (.p (.int j)) m = .ok (.p (.bool (!(i == j)))) m := rfl
@[simp] theorem o_ixT {ds : List PyData} (i : Int) : idxM (.p (.tuple ds)) (.p (.int i)) m = match atI ds i with
  | some d => .ok (.p d) m
  | none => .stuck := rfl
@[simp] theorem o_ixL {ds : List PyData} (i : Int) : idxM (.p (.list ds)) (.p (.int i)) m = match atI ds i with
  | some d => .ok (.p d) m
  | none => .stuck := rfl
@[simp] theorem o_lenT {ds : List PyData} : lenM [.p (.tuple ds)] m = .ok (.p (.int ds.length)) m := by simp [lenM, seqW]
@[simp] theorem o_lenL {ds : List PyData} : lenM [.p (.list ds)] m = .ok (.p (.int ds.length)) m := by simp [lenM, seqW]
@[simp] theorem o_all (bs : List Bool) : allM true [.p (.list (bs.map .bool))] m = .ok (.p (.bool (bs.all id))) m := by
  have := boolsOf_map bs
  simp [allM, isL, seqW, List.map_map, Function.comp_def] at this ⊢
  rw [this]
@[simp] theorem o_any (bs : List Bool) : allM false [.p (.list (bs.map .bool))] m = .ok (.p (.bool (bs.any id))) m := by
  have := boolsOf_map bs
  simp [allM, isL, seqW, List.map_map, Function.comp_def] at this ⊢
  rw [this]
theorem atI_nat {α : Type} {xs : List α} {i : Nat} {x : α} (h : xs[i]? = some x) : atI xs (i : Int) = some x := by
  obtain ⟨hl, e⟩ := List.getElem?_eq_some_iff.mp h
  unfold atI ixN
  rw [if_pos (by omega), if_pos (by omega)]
  simpa using h
theorem atI_lit {α : Type} {xs : List α} {i : Nat} : atI xs (i : Int) = xs[i]? := by
  cases h : xs[i]? with
  | some x => exact atI_nat h
  | none =>
    have := List.getElem?_eq_none_iff.mp h
    unfold atI ixN
    rw [if_pos (by omega), if_neg (by omega)]
    rfl
@[simp] theorem atI_0 {α : Type} {xs : List α} : atI xs 0 = xs[0]? := atI_lit (i := 0)
@[simp] theorem atI_1 {α : Type} {xs : List α} : atI xs 1 = xs[1]? := atI_lit (i := 1)
@[simp] theorem atI_2 {α : Type} {xs : List α} : atI xs 2 = xs[2]? := atI_lit (i := 2)
end
/-- a comprehension that changes nothing -/
theorem lc_pure {α : Type} {fin : List W → Hm → Res W} {src : IX} {t : Tg} {g : EX Bool} {f : EX W} {vs : List Nat} {s : Ev} {m : Hm} (xs : List α) (e : α → W) (p : α → Bool) (h : α → W) {gs : List (Nat × List W)} (hs : src s m = .ok ⟨xs.map e, gs⟩ m) (hg : gOk m gs = true) (hz : xs.length ≤ 16777216)
    (hb : ∀ x ∈ xs, ∃ s1, t.put (e x) (wipeE s vs) = some s1 ∧ g s1 m = .ok (p x) m ∧ (p x = true → f s1 m = .ok (h x) m)) : eLc fin src t g f vs s m = fin ((xs.filter p).map h) m := by
  unfold eLc
  rw [hs]
  simp only [bind_ok, List.length_map]
  rw [if_pos (decide_eq_true (le_size hz))]
  have go : ∀ ys : List α, (∀ x ∈ ys, x ∈ xs) → lcGo gs t g f (wipeE s vs) (ys.map e) m = .ok ((ys.filter p).map h) m := by
    intro ys
    induction ys with
    | nil => intro _; simp [lcGo, hg]
    | cons y ys ih =>
      intro hy
      obtain ⟨s1, h1, h2, h3⟩ := hb y (hy y List.mem_cons_self)
      have ih' := ih fun x hx => hy x (List.mem_cons_of_mem _ hx)
      simp only [List.map_cons, lcGo, hg, if_true, h1, h2]
      cases hp : p y with
      | false => simp [ih', hp]
      | true => simp [h3 hp, ih', hp]
  rw [go xs fun _ h => h, bind_ok]
/-- .. whose values are data -/
theorem lc_data {α : Type} {src : IX} {t : Tg} {g : EX Bool} {f : EX W} {vs : List Nat} {s : Ev} {m : Hm} (xs : List α) (e : α → W) (p : α → Bool) (h : α → PyData) {gs : List (Nat × List W)} (hs : src s m = .ok ⟨xs.map e, gs⟩ m) (hg : gOk m gs = true) (hz : xs.length ≤ 16777216)
    (hb : ∀ x ∈ xs, ∃ s1, t.put (e x) (wipeE s vs) = some s1 ∧ g s1 m = .ok (p x) m ∧ (p x = true → f s1 m = .ok (.p (h x)) m)) : eLc lcFin src t g f vs s m = .ok (.p (.list ((xs.filter p).map h))) m := by
  rw [lc_pure xs e p (fun x => .p (h x)) hs hg hz hb]
  have : ((xs.filter p).map fun x => W.p (h x)) = ((xs.filter p).map h).map W.p := by simp
  unfold lcFin
  rw [this, allP_map]
/-- .. all of it -/
theorem lc_map {α : Type} {src : IX} {t : Tg} {f : EX W} {vs : List Nat} {s : Ev} {m : Hm} (xs : List α) (e : α → W) (h : α → PyData) {gs : List (Nat × List W)} (hs : src s m = .ok ⟨xs.map e, gs⟩ m) (hg : gOk m gs = true) (hz : xs.length ≤ 16777216)
    (hb : ∀ x ∈ xs, ∃ s1, t.put (e x) (wipeE s vs) = some s1 ∧ f s1 m = .ok (.p (h x)) m) : eLc lcFin src t bYes f vs s m = .ok (.p (.list (xs.map h))) m := by
  rw [lc_data (g := bYes) xs e (fun _ => true) h hs hg hz fun x hx => let ⟨s1, a, b⟩ := hb x hx; ⟨s1, a, rfl, fun _ => b⟩]
  rw [List.filter_eq_self.mpr fun _ _ => rfl]
/-- a loop with a way out -/
def loopE {α β : Type} (st : β → α → β ⊕ (W × Hm)) : List α → β → β ⊕ (W × Hm)
  | [], b => .inl b
  | x :: xs, b => match st b x with
    | .inl b' => loopE st xs b'
    | .inr w => .inr w
def outE {β : Type} (I : β → Ev) (M : β → Hm) : β ⊕ (W × Hm) → SR
  | .inl b => some (.nx (I b), M b)
  | .inr (w, m) => some (.rt w, m)
theorem for_loop {α β : Type} {gs : List (Nat × List W)} {t : Tg} {body : SX} {e : α → W} {xs : List α} (st : β → α → β ⊕ (W × Hm)) (I : β → Ev) (M : β → Hm) (Iv : β → Prop) (hg : ∀ b, Iv b → gOk (M b) gs = true)
    (hb : ∀ b, ∀ x ∈ xs, Iv b → (∃ s1, t.put (e x) (I b) = some s1 ∧ body s1 (M b) = outE I M (st b x)) ∧ ∀ b', st b x = .inl b' → Iv b') (b : β) (h0 : Iv b) : forGo gs t body (xs.map e) (I b) (M b) = outE I M (loopE st xs b) ∧ ∀ b', loopE st xs b = .inl b' → Iv b' := by
  induction xs generalizing b with
  | nil =>
    simp only [loopE, forGo, List.map_nil, hg b h0, if_true, outE, Sum.inl.injEq]
    exact ⟨trivial, fun b' e => e ▸ h0⟩
  | cons x xs ih =>
    obtain ⟨⟨s1, h1, h2⟩, h3⟩ := hb b x List.mem_cons_self h0
    have ih := fun b' h => ih (fun b x hx => hb b x (List.mem_cons_of_mem _ hx)) b' h
    simp only [loopE, List.map_cons, forGo, hg b h0, if_true, h1, h2]
    cases hs : st b x with
    | inl b' => exact ih b' (h3 b' hs)
    | inr w => exact ⟨rfl, fun b' e => by cases e⟩
theorem for_rw {α β : Type} {gs : List (Nat × List W)} {t : Tg} {body : SX} {e : α → W} {xs : List α} {s : Ev} {m : Hm} (st : β → α → β ⊕ (W × Hm)) (I : β → Ev) (M : β → Hm) (Iv : β → Prop) (b : β) (hs : I b = s) (hm : M b = m) (hg : ∀ b, Iv b → gOk (M b) gs = true)
    (hb : ∀ b, ∀ x ∈ xs, Iv b → (∃ s1, t.put (e x) (I b) = some s1 ∧ body s1 (M b) = outE I M (st b x)) ∧ ∀ b', st b x = .inl b' → Iv b') (h0 : Iv b) : forGo gs t body (xs.map e) s m = outE I M (loopE st xs b) := by
  subst hs hm
  exact (for_loop st I M Iv hg hb b h0).1
/-- .. with what is behind known -/
theorem for_rwP {α β : Type} {gs : List (Nat × List W)} {t : Tg} {body : SX} {e : α → W} {xs : List α} {s : Ev} {m : Hm} (st : β → α → β ⊕ (W × Hm)) (I : β → Ev) (M : β → Hm) (Iv : List α → β → Prop) (b : β) (hs : I b = s) (hm : M b = m) (hg : ∀ pre b, Iv pre b → gOk (M b) gs = true)
    (hb : ∀ pre x post b, xs = pre ++ x :: post → Iv pre b → (∃ s1, t.put (e x) (I b) = some s1 ∧ body s1 (M b) = outE I M (st b x)) ∧ ∀ b', st b x = .inl b' → Iv (pre ++ [x]) b') (h0 : Iv [] b) : forGo gs t body (xs.map e) s m = outE I M (loopE st xs b) ∧ ∀ b', loopE st xs b = .inl b' → Iv xs b' := by
  subst hs hm
  have go : ∀ suf pre b, xs = pre ++ suf → Iv pre b → forGo gs t body (suf.map e) (I b) (M b) = outE I M (loopE st suf b) ∧ ∀ b', loopE st suf b = .inl b' → Iv xs b' := by
    intro suf
    induction suf with
    | nil =>
      intro pre b hx h0
      simp only [loopE, forGo, List.map_nil, hg pre b h0, if_true, outE, Sum.inl.injEq]
      exact ⟨trivial, fun b' e => by rw [hx, List.append_nil, ← e]; exact h0⟩
    | cons x suf ih =>
      intro pre b hx h0
      obtain ⟨⟨s1, h1, h2⟩, h3⟩ := hb pre x suf b hx h0
      simp only [loopE, List.map_cons, forGo, hg pre b h0, if_true, h1, h2]
      cases hs : st b x with
      | inl b' => exact ih (pre ++ [x]) b' (by rw [hx]; simp) (h3 b' hs)
      | inr w => exact ⟨rfl, fun b' e => by cases e⟩
  exact go xs [] b rfl h0
theorem loopE_total {α β : Type} {st : β → α → β ⊕ (W × Hm)} (h : ∀ b x, ∃ b', st b x = .inl b') : ∀ (xs : List α) (b : β), ∃ b', loopE st xs b = .inl b'
  | [], b => ⟨b, rfl⟩
  | x :: xs, b => by
    obtain ⟨b', e⟩ := h b x
    obtain ⟨b2, e2⟩ := loopE_total h xs b'
    exact ⟨b2, by simp only [loopE, e]; exact e2⟩
theorem flat_len {α β : Type} {f : α → List β} {n : Nat} (h : ∀ x, (f x).length ≤ n) : ∀ xs : List α, (xs.flatMap f).length ≤ n * xs.length
  | [] => by simp
  | x :: xs => by
    have h1 := flat_len h xs
    have h2 := h x
    rw [List.flatMap_cons, List.length_append, List.length_cons, Nat.mul_add]
    omega
theorem loopU_inr {α : Type} {st : Unit → α → Unit ⊕ (W × Hm)} {xs : List α} {q : W × Hm} (h : loopE st xs () = .inr q) : ∃ x ∈ xs, st () x = .inr q := by
  induction xs with
  | nil => cases h
  | cons x xs ih =>
    simp only [loopE] at h
    cases e : st () x with
    | inl b => rw [e] at h; obtain ⟨y, hy, q⟩ := ih h; exact ⟨y, List.mem_cons_of_mem _ hy, q⟩
    | inr p => rw [e] at h; cases h; exact ⟨x, List.mem_cons_self, e⟩
theorem loopU_inl {α : Type} {st : Unit → α → Unit ⊕ (W × Hm)} {xs : List α} {u : Unit} (h : loopE st xs () = .inl u) : ∀ x ∈ xs, st () x = .inl () := by
  induction xs with
  | nil => intro x hx; cases hx
  | cons x xs ih =>
    simp only [loopE] at h
    cases e : st () x with
    | inl b =>
      rw [e] at h
      intro y hy
      rcases List.mem_cons.mp hy with rfl | hy
      · exact e
      · exact ih h y hy
    | inr p => rw [e] at h; cases h
@[simp] theorem q_tidy {mask : List Nat} {f : SX} {s : Ev} {m : Hm} : sTidy mask f s m = match f s m with
  | some (.nx s1, m1) => some (.nx (tidy m.length mask s1 m1).1, (tidy m.length mask s1 m1).2)
  | some (.ct s1, m1) => some (.ct (tidy m.length mask s1 m1).1, (tidy m.length mask s1 m1).2)
  | r => r := rfl
@[simp] theorem tidy_same {mask : List Nat} {s : Ev} {m : Hm} : tidy m.length mask s m = (wipeE s mask, m) := by
  unfold tidy
  split <;> simp
theorem tidy_len {mask : List Nat} {k : Nat} {s : Ev} {m : Hm} (h : m.length = k) : tidy k mask s m = (wipeE s mask, m) := by
  subst h
  exact tidy_same
@[simp] theorem q_for {src : IX} {t : Tg} {body : SX} {s : Ev} {m : Hm} : sFor src t body s m = (src s m).st s fun sc m1 => forGo sc.gs t body sc.items s m1 := rfl
/-! lists of whole numbers, read -/
def RL (m : Hm) (w : W) (ns : List Int) : Prop := w = .p (.list (ns.map .int)) ∨ ∃ n, w = .loc n ∧ m[n]? = some (.lst (ns.map fun i => .p (.int i)))
section
variable {m : Hm} {w : W} {ns : List Int}
theorem RL.data : RL m (.p (.list (ns.map .int))) ns := .inl rfl
theorem RL.src (h : RL m w ns) : ∃ gs, srcOf w m = .ok ⟨ns.map fun i => .p (.int i), gs⟩ m ∧ gOk m gs = true := by
  rcases h with rfl | ⟨n, rfl, e⟩
  · exact ⟨[], by simp [srcOf, Function.comp_def], rfl⟩
  · exact ⟨[(n, ns.map fun i => .p (.int i))], by simp only [srcOf, e], by simp [gOk, e]⟩
theorem allP_ints (ns : List Int) : allP (ns.map fun i => .p (.int i)) = some (ns.map .int) := by
  have : (ns.map fun i => W.p (.int i)) = (ns.map PyData.int).map W.p := by simp
  rw [this, allP_map]
theorem RL.rd (h : RL m w ns) : Mir.rd m w = some (.list (ns.map .int)) := by
  rcases h with rfl | ⟨n, rfl, e⟩
  · rfl
  · simp [Mir.rd, e, allP_ints]
theorem RL.len (h : RL m w ns) : lenM [w] m = .ok (.p (.int ns.length)) m := by
  rcases h with rfl | ⟨n, rfl, e⟩
  · simp
  · simp [lenM, seqW, e]
theorem any_eqv (v : Int) (ns : List Int) : (ns.any ((fun z => PyData.eqv z (.int v)) ∘ PyData.int)) = decide (v ∈ ns) := by
  rw [Bool.eq_iff_iff]
  simp [PyData.eqv]
theorem lay_ints (ns : List Int) : PyData.canLayAll0 (ns.map .int) = true ∧ PyData.depthAll (ns.map .int) = 0 := by
  induction ns with
  | nil => exact ⟨rfl, rfl⟩
  | cons n ns ih => simp [PyData.canLayAll0, PyData.depthAll, PyData.canLay0, PyData.depth, ih]
theorem sh_ints (ns : List Int) : SeqAt.shaped (.list (ns.map .int)) = true := by
  simp [SeqAt.shaped, PyData.canLay0, PyData.depth, lay_ints]
theorem sh_int (i : Int) : SeqAt.shaped (.int i) = true := rfl
theorem RL.inn (h : RL m w ns) (v : Int) : inM false (.p (.int v)) w m = .ok (.p (.bool (decide (v ∈ ns)))) m ∧ inM true (.p (.int v)) w m = .ok (.p (.bool (!decide (v ∈ ns)))) m := by
  have e := h.rd
  constructor <;> simp [inM, e, sh_ints, sh_int, any_eqv]
@[simp] theorem o_inT (v : Int) (ns : List Int) : inM false (.p (.int v)) (.p (.tuple (ns.map .int))) m = .ok (.p (.bool (decide (v ∈ ns)))) m := by
  have : ((ns.map PyData.int).all flatP) = true := by simp [flatP]
  simp [inM, flatP, any_eqv]
end
@[simp] theorem fin_p {α : Type} (xs : List α) (h : α → PyData) (m : Hm) : lcFin (xs.map fun x => .p (h x)) m = .ok (.p (.list (xs.map h))) m := by
  have : (xs.map fun x => W.p (h x)) = (xs.map h).map W.p := by simp
  unfold lcFin
  rw [this, allP_map]
theorem endFn_p {fz : Bool} {d : PyData} {m : Hm} : endFn fz m.length (.p d) m = .ok (.p d) m := by
  unfold endFn
  simp [okW]
@[simp] theorem r_lm {k : W → List W → Hm → Res W} {f : EX W} {fs : EX (List W)} {s : Ev} {m : Hm} : eLM k f fs s m = (f s m).bind fun w m1 => if lstAt w m1 = true then (fs s m1).bind fun ws m2 => k w ws m2 else .stuck := rfl
theorem lstAt_loc {m : Hm} {n : Nat} {ws : List W} (h : m[n]? = some (.lst ws)) : lstAt (.loc n) m = true := by simp [lstAt, isL, seqW, h]
theorem o_remove {m : Hm} {n : Nat} {ns : List Int} {k : Int} (h : m[n]? = some (.lst (ns.map fun i => .p (.int i)))) (hk : k ∈ ns) : removeM (.loc n) [.p (.int k)] m = .ok (.p .none) (m.set n (.lst ((ns.erase k).map fun i => .p (.int i)))) := by
  simp [removeM, h, allP_ints, hk, Function.comp_def]
theorem o_append {m : Hm} {n : Nat} {ws : List W} {y : W} (h : m[n]? = some (.lst ws)) (hl : ws.length < 16777216) : appendM (.loc n) [y] m = .ok (.p .none) (m.set n (.lst (ws ++ [y]))) := by
  simp [appendM, h, sizeLine_eq, hl]
@[simp] theorem r_none {s : Ev} {m : Hm} : oNone s m = .ok none m := rfl
@[simp] theorem r_some {f : EX W} {s : Ev} {m : Hm} : oSome f s m = (f s m).bind fun w m1 => match w with
  | .p (.int i) => .ok (some i) m1
  | _ => .stuck := rfl
@[simp] theorem r_cut {f : EX W} {fl fh : PX} {s : Ev} {m : Hm} : eCut f fl fh s m = (f s m).bind fun w m1 => (fl s m1).bind fun lo m2 => (fh s m2).bind fun hi m3 => cutM w lo hi m3 := rfl
@[simp] theorem o_isNone {w : W} {m : Hm} {b : Bool} : isNoneM b w (.p .none) m = .ok (.p (.bool (if b = true then !isNone w else isNone w))) m := rfl
@[simp] theorem isNone_loc {n : Nat} : isNone (.loc n) = false := rfl
@[simp] theorem isNone_n : isNone (.p .none) = true := rfl
@[simp] theorem isNone_t {ds : List PyData} : isNone (.p (.tuple ds)) = false := rfl
@[simp] theorem isNone_l {ds : List PyData} : isNone (.p (.list ds)) = false := rfl
@[simp] theorem r_rg1 {k : RK} {f : EX W} {s : Ev} {m : Hm} : eRg1 k f s m = (f s m).bind fun w m1 => match w with
  | .p (.int n) => rgMk k 0 n m1
  | _ => .stuck := rfl
@[simp] theorem r_iseq {f : EX W} {s : Ev} {m : Hm} : iSeq f s m = (f s m).bind srcOf := rfl
@[simp] theorem r_irg1 {f : EX W} {s : Ev} {m : Hm} : iRg1 f s m = (f s m).bind fun w m1 => match w with
  | .p (.int n) => if (decide (-1000000 ≤ n) && decide (n ≤ 1000000)) = true then .ok ⟨(rgP 0 n).map .p, []⟩ m1 else .stuck
  | _ => .stuck := rfl
@[simp] theorem srcOf_l {ds : List PyData} {m : Hm} : srcOf (.p (.list ds)) m = .ok ⟨ds.map .p, []⟩ m := rfl
@[simp] theorem srcOf_t {ds : List PyData} {m : Hm} : srcOf (.p (.tuple ds)) m = .ok ⟨ds.map .p, []⟩ m := rfl
def rgI (n : Nat) : List Int := (List.range n).map fun i : Nat => (i : Int)
theorem rgP_eq (n : Nat) : rgP 0 (n : Int) = (rgI n).map .int := by simp [rgP, rgI]
theorem rg_c {n : Nat} {m : Hm} (h : n ≤ 1000000) : rgMk .c 0 (n : Int) m = .ok (.loc m.length) (m ++ [.lst ((rgI n).map fun i => .p (.int i))]) := by
  unfold rgMk
  rw [if_pos (by simp [rgOk]; omega), rgP_eq]
  simp [Function.comp_def]
theorem rg_l {n : Nat} {m : Hm} (h : n ≤ 1000000) : rgMk .l 0 (n : Int) m = .ok (.p (.list ((rgI n).map .int))) m := by
  unfold rgMk
  rw [if_pos (by simp [rgOk]; omega), rgP_eq]
theorem rg_it {n : Nat} {m : Hm} (h : n ≤ 1000000) : (if (decide (-1000000 ≤ (n : Int)) && decide ((n : Int) ≤ 1000000)) = true then (.ok ⟨(rgP 0 n).map .p, []⟩ m : Res Src) else .stuck) = .ok ⟨(rgI n).map fun i => .p (.int i), []⟩ m := by
  rw [if_pos (by simp; omega), rgP_eq]
  simp [Function.comp_def]
theorem frzL_p {f : W → Option PyData} (hf : ∀ d, f (.p d) = some d) (ds : List PyData) : frzL f (ds.map .p) = some ds := by
  induction ds with
  | nil => rfl
  | cons d ds ih => simp [frzL, hf, ih]
theorem frz_p {k n : Nat} {m : Hm} {d : PyData} : frz k m n (.p d) = some d := by cases n <;> rfl
theorem frzL_map {α : Type} {k n : Nat} {m : Hm} (h : α → PyData) (xs : List α) : frzL (frz k m n) (xs.map fun i => .p (h i)) = some (xs.map h) := by
  have := frzL_p (f := frz k m n) (fun d => frz_p) (xs.map h)
  simpa [Function.comp_def] using this
theorem frz_loc {α : Type} {k n j : Nat} {m : Hm} {h : α → PyData} {xs : List α} (hk : k ≤ j) (hy : m[j]? = some (.lst (xs.map fun i => .p (h i)))) : frz k m (n + 1) (.loc j) = some (.list (xs.map h)) := by
  show (if k ≤ j then (match m[j]? with
    | some (.lst ws) => (frzL (frz k m n) ws).map PyData.list
    | _ => none) else none) = _
  rw [if_pos hk, hy]
  simp only [frzL_map, Option.map_some]
/-- at the end of a def with one cell of old -/
theorem end1_p {fz : Bool} {x : Cell} {r : Hm} {d : PyData} (hx : okC 1 x = true) : endFn fz 1 (.p d) (x :: r) = .ok (.p d) [x] := by
  simp [endFn, okM, okW, hx]
theorem end1_l {α : Type} {x : Cell} {y z : Hm} {xs : List α} {h : α → PyData} {k : Nat} (hx : okC 1 x = true) (hk : 1 ≤ k) (hy : (x :: y)[k]? = some (.lst (xs.map fun i => .p (h i)))) : endFn true 1 (.loc k) (x :: y) = .ok (.p (.list (xs.map h))) [x] := by
  have : ¬ k < 1 := by omega
  have e := frz_loc (n := 3) hk hy
  unfold endFn
  rw [e]
  simp [okM, okW, hx, this]
theorem o_addL {xs ys : List PyData} {m : Hm} (h : xs.length + ys.length ≤ 16777216) : addM (.p (.list xs)) (.p (.list ys)) m = .ok (.p (.list (xs ++ ys))) m := by
  simp [addM, sizeLine_eq, h]
theorem o_addT {xs ys : List PyData} {m : Hm} (h : xs.length + ys.length ≤ 16777216) : addM (.p (.tuple xs)) (.p (.tuple ys)) m = .ok (.p (.tuple (xs ++ ys))) m := by
  simp [addM, sizeLine_eq, h]
/-! ### the stream -/
def strm (ns : List Int) (c k : Int) : Cell := .lst [.p (.list (ns.map .int)), .p (.int c), .p (.int k)]
theorem endFn_len {fz : Bool} {d : PyData} {k : Nat} {m : Hm} (h : m.length = k) : endFn fz k (.p d) m = .ok (.p d) m := by
  subst h
  exact endFn_p
theorem o_mod {i j : Int} {m : Hm} (h : 0 < j) : modM (.p (.int i)) (.p (.int j)) m = .ok (.p (.int (i % j))) m := by simp [modM, intM, h]
theorem o_div {i j : Int} {m : Hm} (h : 0 < j) (h2 : j < 1073741824) : divM (.p (.int i)) (.p (.int j)) m = .ok (.p (.int (i / j))) m := by simp [divM, intM, h, h2]
theorem o_mulr {i j : Int} {m : Hm} (h : smallI j = true) : mulI (.p (.int i)) (.p (.int j)) m = .ok (.p (.int (i * j))) m := by simp [mulI, intM, h]
theorem o_pow18 {m : Hm} : powM (.p (.int 10)) (.p (.int 18)) m = .ok (.p (.int 1000000000000000000)) m := Eq.trans (b := powM (.p (.int 10)) (.p (.int 18)) m) rfl rfl
@[simp] theorem o_int {i : Int} {m : Hm} : intM1 [.p (.int i)] m = .ok (.p (.int i)) m := rfl
@[simp] theorem o_intb {b : Bool} {m : Hm} : intM1 [.p (.bool b)] m = .ok (.p (.int (if b = true then 1 else 0))) m := by cases b <;> rfl
@[simp] theorem o_abs {i : Int} {m : Hm} : absM [.p (.int i)] m = .ok (.p (.int (if i < 0 then -i else i))) m := rfl
@[simp] theorem o_ixC {n : Nat} {i : Int} {m : Hm} : idxM (.loc n) (.p (.int i)) m = match m[n]? with
  | some (.lst ws) => (match atI ws i with
    | some w => .ok w m
    | none => .stuck)
  | _ => .stuck := rfl
/-- a loop whose turns are known by what they leave -/
theorem for_ex {α : Type} {gs : List (Nat × List W)} {t : Tg} {body : SX} {e : α → W} {xs : List α} {s : Ev} {m : Hm} (Iv : List α → Ev → Hm → Prop) (hg : ∀ pre s m, Iv pre s m → gOk m gs = true)
    (hb : ∀ pre x post s m, xs = pre ++ x :: post → Iv pre s m → ∃ s1, t.put (e x) s = some s1 ∧ ∃ s' m', body s1 m = some (.nx s', m') ∧ Iv (pre ++ [x]) s' m') (h0 : Iv [] s m) : ∃ s' m', forGo gs t body (xs.map e) s m = some (.nx s', m') ∧ Iv xs s' m' := by
  have go : ∀ suf pre s m, xs = pre ++ suf → Iv pre s m → ∃ s' m', forGo gs t body (suf.map e) s m = some (.nx s', m') ∧ Iv xs s' m' := by
    intro suf
    induction suf with
    | nil =>
      intro pre s m hx h0
      exact ⟨s, m, by simp [forGo, hg pre s m h0], by rw [hx, List.append_nil]; exact h0⟩
    | cons x suf ih =>
      intro pre s m hx h0
      obtain ⟨s1, h1, s2, m2, h2, h3⟩ := hb pre x suf s m hx h0
      obtain ⟨s3, m3, h4, h5⟩ := ih (pre ++ [x]) s2 m2 (by rw [hx]; simp) h3
      exact ⟨s3, m3, by simp only [List.map_cons, forGo, hg pre s m h0, if_true, h1, h2]; exact h4, h5⟩
  exact go xs [] s m rfl h0
/-- a comprehension whose test draws -/
theorem lcGo_draw {α : Type} {t : Tg} {g : EX Bool} {f : EX W} {s : Ev} {ns : List Int} {r : Hm} {e : α → W} (h : α → PyData) : ∀ (xs : List α) (c : Int) (k : Nat),
    (∀ x ∈ xs, ∃ s1, t.put (e x) s = some s1 ∧ (∀ (c : Int) (k : Nat), ∃ (b : Bool) (c' : Int) (k' : Nat), g s1 (strm ns c k :: r) = .ok b (strm ns c' k' :: r)) ∧ ∀ m, f s1 m = .ok (.p (h x)) m) →
    ∃ (sub : List α) (c' : Int) (k' : Nat), lcGo [] t g f s (xs.map e) (strm ns c k :: r) = .ok ((sub.map h).map .p) (strm ns c' k' :: r) ∧ sub.Sublist xs
  | [], c, k, _ => ⟨[], c, k, by simp [lcGo], .slnil⟩
  | x :: xs, c, k, hb => by
    obtain ⟨s1, h1, h2, h3⟩ := hb x List.mem_cons_self
    obtain ⟨b, c1, k1, h4⟩ := h2 c k
    obtain ⟨sub, c2, k2, h5, h6⟩ := lcGo_draw h xs c1 k1 fun y hy => hb y (List.mem_cons_of_mem _ hy)
    cases b with
    | false => exact ⟨sub, c2, k2, by simp only [List.map_cons, lcGo, gOk_nil, if_true, h1, h4]; simpa using h5, h6.cons _⟩
    | true => exact ⟨x :: sub, c2, k2, by simp only [List.map_cons, lcGo, gOk_nil, if_true, h1, h4, h3, h5, bind_ok], h6.cons₂ _⟩
@[simp] theorem okC_strm {ns : List Int} {c k : Int} {n : Nat} : okC n (strm ns c k) = true := rfl
theorem rgP_int (n : Int) : rgP 0 n = (rgI n.toNat).map .int := by simp [rgP, rgI]
theorem atI_mem {α : Type} {xs : List α} {d : Int} (h0 : 0 ≤ d) (h1 : d < xs.length) : ∃ x ∈ xs, atI xs d = some x := by
  obtain ⟨k, rfl⟩ := Int.eq_ofNat_of_zero_le h0
  have hk : k < xs.length := by omega
  exact ⟨xs[k], List.getElem_mem hk, by rw [atI_lit]; exact List.getElem?_eq_getElem hk⟩
theorem cutA_mem {α : Type} {xs : List α} {lo hi : Option Int} : ∀ x ∈ cutA xs lo hi, x ∈ xs := fun x hx => List.mem_of_mem_drop (List.mem_of_mem_take hx)
theorem cutA_to {α : Type} {xs : List α} {n : Nat} : cutA xs none (some (n : Int)) = xs.take n := by
  unfold cutA
  rw [HT.sIx_none, HT.sIx_nat]
  simp
/-! shapes of data -/
def Sh (n : Nat) (d : PyData) : Prop := d.canLay0 = true ∧ d.depth ≤ n
theorem Sh.mono {m n : Nat} {d : PyData} (h : Sh m d) (k : m ≤ n) : Sh n d := ⟨h.1, Nat.le_trans h.2 k⟩
theorem Sh.ok {n : Nat} {d : PyData} (h : Sh n d) (k : n ≤ 64) : SeqAt.shaped d = true := by
  unfold SeqAt.shaped
  rw [h.1]
  exact decide_eq_true (Nat.le_trans h.2 k)
theorem sh_all {n : Nat} : ∀ {xs : List PyData}, (∀ x ∈ xs, Sh n x) → PyData.canLayAll0 xs = true ∧ PyData.depthAll xs ≤ n
  | [], _ => ⟨rfl, Nat.zero_le _⟩
  | x :: xs, h => by
    have h1 := h x List.mem_cons_self
    have h2 := sh_all fun y hy => h y (List.mem_cons_of_mem _ hy)
    exact ⟨by unfold PyData.canLayAll0; rw [h1.1, h2.1]; rfl, by unfold PyData.depthAll; exact Nat.max_le.mpr ⟨h1.2, h2.2⟩⟩
theorem Sh.tup {n : Nat} {xs : List PyData} (h : ∀ x ∈ xs, Sh n x) : Sh (n + 1) (.tuple xs) := ⟨by unfold PyData.canLay0; exact (sh_all h).1, by unfold PyData.depth; exact Nat.succ_le_succ (sh_all h).2⟩
theorem Sh.lst {n : Nat} {xs : List PyData} (h : ∀ x ∈ xs, Sh n x) : Sh (n + 1) (.list xs) := ⟨by unfold PyData.canLay0; exact (sh_all h).1, by unfold PyData.depth; exact Nat.succ_le_succ (sh_all h).2⟩
theorem Sh.int {n : Nat} (i : Int) : Sh n (.int i) := ⟨rfl, Nat.zero_le _⟩
theorem Sh.non {n : Nat} : Sh n .none := ⟨rfl, Nat.zero_le _⟩
theorem Sh.bl {n : Nat} (b : Bool) : Sh n (.bool b) := ⟨rfl, Nat.zero_le _⟩
end Mir

namespace Mir.K56
open PySem PySem.Spec PyProof.Rows L2
def top (i : Nat) : Stmt := PySem.Challenge.pw_tabletalk_k56_whole_removals_by_whomever.main.body.getD i (.Pass ⟨0, 0, 0, 0⟩)
abbrev FnP (K : PySem.W.Frag) (x : Str) (st : Stmt) (f : Addr) (fd : FuncData) : Prop := FunD K x x (defArgs st) (defBody st) (defScope st) [] [] f fd
structure Globs (mg : Str → Option Value) : Prop where
  n_abs : mg "abs" = none
  n_all : mg "all" = none
  n_any : mg "any" = none
  n_bool : mg "bool" = none
  n_int : mg "int" = none
  n_isinstance : mg "isinstance" = none
  n_len : mg "len" = none
  n_list : mg "list" = none
  n_range : mg "range" = none
  n_str : mg "str" = none
  n_tuple : mg "tuple" = none
  g_MOST_NODES : ∃ t, mg "MOST_NODES" = some (.int 5 t)
  g_MOST_VARIABLE : ∃ t, mg "MOST_VARIABLE" = some (.int 5 t)
  g_WIDEST_SCOPE : ∃ t, mg "WIDEST_SCOPE" = some (.int 3 t)
section
variable {P : Program} {w : World} {K : PySem.W.Frag} {mg : Str → Option Value} {base : Heap} {f : Addr} {fd : FuncData}
theorem sc_is_whole : FnScope ["value", "low", "high"] ["value", "low", "high"] (defScope (top 6)) := ⟨rfl, rfl, rfl, by decide +kernel, rfl, by decide +kernel, by decide +kernel⟩
def m_is_whole : SX := (sRet (eAnd (eOp1 (isiM "int") (eVar 0)) (eAnd (eNot (eOp1 (isiM "bool") (eVar 0))) (eChain leM leM (eVar 1) (eVar 0) (eVar 2)))))
def F_is_whole : FF := mkFn true 3 3 m_is_whole
theorem ok_is_whole (G : Globs mg) (F : FnP K "is_whole" (top 6) f fd) (hm : mg "is_whole" = some (.ref f))  : OkD P w K mg base 1 "is_whole" F_is_whole ["value", "low", "high"] := by
  refine OkD.mk F hm (FunD.bindsN F fun _ _ _ _ _ _ us hl => match us, hl with | [_, _, _], _ => rfl) sc_is_whole rfl rfl fun cd A outer s H E hr => ?_
  have tk := takes_cx (P := P) (w := w) (K := K) (mg := mg) (base := base) (N := ["value", "low", "high"]) (qual := "is_whole") (scope := defScope (top 6)) (f := f) (cd := cd) (A := A) (outer := outer) (s := s) (H := H) (E := E)
  exact (ss_one (s_ret (x_and (x_isi (by decide) G.n_isinstance G.n_int rfl (x_var 0)) (x_and (x_not (x_isi (by decide) G.n_isinstance G.n_bool rfl (x_var 0))) (x_one (x_chain op_le leM_ok intM_quiet op_le leM_ok (x_var 1) (x_var 0) (x_var 2)))))))
theorem sc_is_climbing : FnScope ["value", "at"] ["value"] (defScope (top 7)) := ⟨rfl, rfl, rfl, by decide +kernel, rfl, by decide +kernel, by decide +kernel⟩
def m_is_climbing : SX := (sRet (eCB (allM true) (aCons (eLc lcFin (iRg1 (eOp2 subM (eCB lenM (aCons (eVar 0) aNil)) (eC (.int 1)))) (.n 1) bYes (eOp2 ltM (eOp2 idxM (eVar 0) (eVar 1)) (eOp2 idxM (eVar 0) (eOp2 addM (eVar 1) (eC (.int 1))))) [1]) aNil)))
def F_is_climbing : FF := mkFn true 1 2 m_is_climbing
theorem ok_is_climbing (G : Globs mg) (F : FnP K "is_climbing" (top 7) f fd) (hm : mg "is_climbing" = some (.ref f))  : OkD P w K mg base 1 "is_climbing" F_is_climbing ["value"] := by
  refine OkD.mk F hm (FunD.bindsN F fun _ _ _ _ _ _ us hl => match us, hl with | [_], _ => rfl) sc_is_climbing rfl rfl fun cd A outer s H E hr => ?_
  have tk := takes_cx (P := P) (w := w) (K := K) (mg := mg) (base := base) (N := ["value", "at"]) (qual := "is_climbing") (scope := defScope (top 7)) (f := f) (cd := cd) (A := A) (outer := outer) (s := s) (H := H) (E := E)
  exact (ss_one (s_ret (x_callB (cr_all rfl) allM_ok G.n_all rfl (a_cons (x_lc (own := [("at", 1)]) lcFin_ok rfl rfl sc_is_climbing.nd (i_rg1 G.n_range (x_op op_sub subM_ok (x_callB call_len lenM_ok G.n_len rfl (a_cons (x_var 0) a_nil)) x_int)) (blkOk_by (by kernel_rfl)) (fun _ _ _ _ _ => (g_name sc_is_climbing.nd rfl (by first | exact Or.inl rfl | exact Or.inr rfl))) (fun _ _ _ _ _ => ts_nil) (fun _ _ _ _ _ => (x_cmp (op_ltAll hr.units0) ltM_ok (x_ix (x_var 0) (x_var 1)) (x_ix (x_var 0) (x_op op_addAll addM_ok (x_var 1) x_int))))) a_nil))))
theorem sc_are_variables : FnScope ["value", "one"] ["value"] (defScope (top 8)) := ⟨rfl, rfl, rfl, by decide +kernel, rfl, by decide +kernel, by decide +kernel⟩
def m_are_variables : SX := (sSeq (sIf (bOr (bNot (bTru (eOp1 (isiM "tuple") (eVar 0)))) (bNot (bTru (eCB (allM true) (aCons (eLc lcFin (iSeq (eVar 0)) (.n 1) bYes (eCall 3 F_is_whole (aCons (eVar 1) (aCons (eC (.int 0)) (aCons (eC (.int 5)) aNil)))) [1]) aNil))))) (sRet (eC (.bool false))) sSkip)
  (sRet (eCall 1 F_is_climbing (aCons (eVar 0) aNil))))
def F_are_variables : FF := mkFn true 1 2 m_are_variables
theorem ok_are_variables (G : Globs mg) (F : FnP K "are_variables" (top 8) f fd) (hm : mg "are_variables" = some (.ref f)) (o_is_whole : OkD P w K mg base 1 "is_whole" F_is_whole ["value", "low", "high"]) (o_is_climbing : OkD P w K mg base 1 "is_climbing" F_is_climbing ["value"]) : OkD P w K mg base 2 "are_variables" F_are_variables ["value"] := by
  refine OkD.mk F hm (FunD.bindsN F fun _ _ _ _ _ _ us hl => match us, hl with | [_], _ => rfl) sc_are_variables rfl rfl fun cd A outer s H E hr => ?_
  have tk := takes_cx (P := P) (w := w) (K := K) (mg := mg) (base := base) (N := ["value", "one"]) (qual := "are_variables") (scope := defScope (top 8)) (f := f) (cd := cd) (A := A) (outer := outer) (s := s) (H := H) (E := E)
  exact (ss_cons (s_if (PW.pt (b_or (b_not (b_tru (x_isi (by decide) G.n_isinstance G.n_tuple rfl (x_var 0)))) (b_or1 (b_not (b_tru (x_callB (cr_all rfl) allM_ok G.n_all rfl (a_cons (x_lc (own := [("one", 1)]) lcFin_ok rfl rfl sc_are_variables.nd (i_seq (x_var 0)) (blkOk_by (by kernel_rfl)) (fun _ _ _ _ _ => (g_name sc_are_variables.nd rfl (by first | exact Or.inl rfl | exact Or.inr rfl))) (fun _ _ _ _ _ => ts_nil) (fun _ _ _ _ _ => (x_call o_is_whole (hr.mono (by omega)) takes0 (a_cons (x_var 1) (a_cons x_int (a_cons (x_gint G.g_MOST_VARIABLE) a_nil)))))) a_nil))))))) (ss_one (s_ret x_bl)) ss_nil)
  (ss_one (s_ret (x_call o_is_climbing (hr.mono (by omega)) tk (a_cons (x_var 0) a_nil)))))
theorem sc_is_scope : FnScope ["value"] ["value"] (defScope (top 9)) := ⟨rfl, rfl, rfl, by decide +kernel, rfl, by decide +kernel, by decide +kernel⟩
def m_is_scope : SX := (sRet (eAnd (eCall 1 F_are_variables (aCons (eVar 0) aNil)) (eOp2 leM (eCB lenM (aCons (eVar 0) aNil)) (eC (.int 3)))))
def F_is_scope : FF := mkFn true 1 1 m_is_scope
theorem ok_is_scope (G : Globs mg) (F : FnP K "is_scope" (top 9) f fd) (hm : mg "is_scope" = some (.ref f)) (o_are_variables : OkD P w K mg base 2 "are_variables" F_are_variables ["value"]) : OkD P w K mg base 3 "is_scope" F_is_scope ["value"] := by
  refine OkD.mk F hm (FunD.bindsN F fun _ _ _ _ _ _ us hl => match us, hl with | [_], _ => rfl) sc_is_scope rfl rfl fun cd A outer s H E hr => ?_
  have tk := takes_cx (P := P) (w := w) (K := K) (mg := mg) (base := base) (N := ["value"]) (qual := "is_scope") (scope := defScope (top 9)) (f := f) (cd := cd) (A := A) (outer := outer) (s := s) (H := H) (E := E)
  exact (ss_one (s_ret (x_and (x_call o_are_variables (hr.mono (by omega)) tk (a_cons (x_var 0) a_nil)) (x_one (x_cmp op_le leM_ok (x_callB call_len lenM_ok G.n_len rfl (a_cons (x_var 0) a_nil)) (x_gint G.g_WIDEST_SCOPE))))))
theorem sc_are_scopes : FnScope ["value", "scope"] ["value"] (defScope (top 12)) := ⟨rfl, rfl, rfl, by decide +kernel, rfl, by decide +kernel, by decide +kernel⟩
def m_are_scopes : SX := (sRet (eAnd (eOp1 (isiM "tuple") (eVar 0)) (eAnd (eChain leM leM (eC (.int 1)) (eCB lenM (aCons (eVar 0) aNil)) (eC (.int 5))) (eCB (allM true) (aCons (eLc lcFin (iSeq (eVar 0)) (.n 1) bYes (eCall 1 F_is_scope (aCons (eVar 1) aNil)) [1]) aNil)))))
def F_are_scopes : FF := mkFn true 1 2 m_are_scopes
theorem ok_are_scopes (G : Globs mg) (F : FnP K "are_scopes" (top 12) f fd) (hm : mg "are_scopes" = some (.ref f)) (o_is_scope : OkD P w K mg base 3 "is_scope" F_is_scope ["value"]) : OkD P w K mg base 4 "are_scopes" F_are_scopes ["value"] := by
  refine OkD.mk F hm (FunD.bindsN F fun _ _ _ _ _ _ us hl => match us, hl with | [_], _ => rfl) sc_are_scopes rfl rfl fun cd A outer s H E hr => ?_
  have tk := takes_cx (P := P) (w := w) (K := K) (mg := mg) (base := base) (N := ["value", "scope"]) (qual := "are_scopes") (scope := defScope (top 12)) (f := f) (cd := cd) (A := A) (outer := outer) (s := s) (H := H) (E := E)
  exact (ss_one (s_ret (x_and (x_isi (by decide) G.n_isinstance G.n_tuple rfl (x_var 0)) (x_and (x_chain op_le leM_ok intM_quiet op_le leM_ok x_int (x_callB call_len lenM_ok G.n_len rfl (a_cons (x_var 0) a_nil)) (x_gint G.g_MOST_NODES)) (x_one (x_callB (cr_all rfl) allM_ok G.n_all rfl (a_cons (x_lc (own := [("scope", 1)]) lcFin_ok rfl rfl sc_are_scopes.nd (i_seq (x_var 0)) (blkOk_by (by kernel_rfl)) (fun _ _ _ _ _ => (g_name sc_are_scopes.nd rfl (by first | exact Or.inl rfl | exact Or.inr rfl))) (fun _ _ _ _ _ => ts_nil) (fun _ _ _ _ _ => (x_call o_is_scope (hr.mono (by omega)) takes0 (a_cons (x_var 1) a_nil)))) a_nil)))))))
theorem sc_check_scopes : FnScope ["scopes"] ["scopes"] (defScope (top 13)) := ⟨rfl, rfl, rfl, by decide +kernel, rfl, by decide +kernel, by decide +kernel⟩
def m_check_scopes : SX := (sIf (bNot (bTru (eCall 1 F_are_scopes (aCons (eVar 0) aNil)))) sNever sSkip)
def F_check_scopes : FF := mkFn true 1 1 m_check_scopes
theorem ok_check_scopes (G : Globs mg) (F : FnP K "check_scopes" (top 13) f fd) (hm : mg "check_scopes" = some (.ref f)) (o_are_scopes : OkD P w K mg base 4 "are_scopes" F_are_scopes ["value"]) : OkD P w K mg base 5 "check_scopes" F_check_scopes ["scopes"] := by
  refine OkD.mk F hm (FunD.bindsN F fun _ _ _ _ _ _ us hl => match us, hl with | [_], _ => rfl) sc_check_scopes rfl rfl fun cd A outer s H E hr => ?_
  have tk := takes_cx (P := P) (w := w) (K := K) (mg := mg) (base := base) (N := ["scopes"]) (qual := "check_scopes") (scope := defScope (top 13)) (f := f) (cd := cd) (A := A) (outer := outer) (s := s) (H := H) (E := E)
  exact (ss_one (s_if (b_not (b_tru (x_call o_are_scopes (hr.mono (by omega)) tk (a_cons (x_var 0) a_nil)))) (ss_one s_never) ss_nil))
theorem sc_shared_with_others : FnScope ["scopes", "remaining", "node", "others", "other", "variable"] ["scopes", "remaining", "node"] (defScope (top 15)) := ⟨rfl, rfl, rfl, by decide +kernel, rfl, by decide +kernel, by decide +kernel⟩
def m_shared_with_others : SX := (sSeq (sSet 3 (eLc lcFin (iSeq (eVar 1)) (.n 4) (bVal (eOp2 (eqM true) (eVar 4) (eVar 2))) (eVar 4) [4]))
  (sRet (eLc lcFin (iSeq (eOp2 idxM (eVar 0) (eVar 2))) (.n 5) (bTru (eCB (allM false) (aCons (eLc lcFin (iSeq (eVar 3)) (.n 4) bYes (eOp2 (inM false) (eVar 5) (eOp2 idxM (eVar 0) (eVar 4))) [4]) aNil))) (eVar 5) [5])))
def F_shared_with_others : FF := mkFn true 3 6 m_shared_with_others
theorem ok_shared_with_others (G : Globs mg) (F : FnP K "shared_with_others" (top 15) f fd) (hm : mg "shared_with_others" = some (.ref f))  : OkD P w K mg base 1 "shared_with_others" F_shared_with_others ["scopes", "remaining", "node"] := by
  refine OkD.mk F hm (FunD.bindsN F fun _ _ _ _ _ _ us hl => match us, hl with | [_, _, _], _ => rfl) sc_shared_with_others rfl rfl fun cd A outer s H E hr => ?_
  have tk := takes_cx (P := P) (w := w) (K := K) (mg := mg) (base := base) (N := ["scopes", "remaining", "node", "others", "other", "variable"]) (qual := "shared_with_others") (scope := defScope (top 15)) (f := f) (cd := cd) (A := A) (outer := outer) (s := s) (H := H) (E := E)
  exact (ss_cons (s_set sc_shared_with_others.nd rfl (by first | exact Or.inl rfl | exact Or.inr rfl) (x_lc (own := [("other", 4)]) lcFin_ok rfl rfl sc_shared_with_others.nd (i_seq (x_var 1)) (blkOk_by (by kernel_rfl)) (fun _ _ _ _ _ => (g_name sc_shared_with_others.nd rfl (by first | exact Or.inl rfl | exact Or.inr rfl))) (fun _ _ _ _ _ => (ts_one (b_cmp (op_neD hr.units) neM_ok (x_var 4) (x_var 2)))) (fun _ _ _ _ _ => (x_var 4))))
  (ss_one (s_ret (x_lc (own := [("variable", 5)]) lcFin_ok rfl rfl sc_shared_with_others.nd (i_seq (x_ix (x_var 0) (x_var 2))) (blkOk_by (by kernel_rfl)) (fun _ _ _ _ _ => (g_name sc_shared_with_others.nd rfl (by first | exact Or.inl rfl | exact Or.inr rfl))) (fun _ _ _ _ _ => (ts_one (b_tru (x_callB (cr_any rfl) anyM_ok G.n_any rfl (a_cons (x_lc (own := [("other", 4)]) lcFin_ok rfl rfl sc_shared_with_others.nd (i_seq (x_var 3)) (blkOk_by (by kernel_rfl)) (fun _ _ _ _ _ => (g_name sc_shared_with_others.nd rfl (by first | exact Or.inl rfl | exact Or.inr rfl))) (fun _ _ _ _ _ => ts_nil) (fun _ _ _ _ _ => (x_cmp (op_inAll (u65 hr)) inM_ok (x_var 5) (x_ix (x_var 0) (x_var 4))))) a_nil))))) (fun _ _ _ _ _ => (x_var 5))))))
theorem sc_can_go : FnScope ["scopes", "remaining", "node", "other", "variable"] ["scopes", "remaining", "node", "other"] (defScope (top 16)) := ⟨rfl, rfl, rfl, by decide +kernel, rfl, by decide +kernel, by decide +kernel⟩
def m_can_go : SX := (sRet (eCB (allM true) (aCons (eLc lcFin (iSeq (eCall 3 F_shared_with_others (aCons (eVar 0) (aCons (eVar 1) (aCons (eVar 2) aNil))))) (.n 4) bYes (eOp2 (inM false) (eVar 4) (eOp2 idxM (eVar 0) (eVar 3))) [4]) aNil)))
def F_can_go : FF := mkFn true 4 5 m_can_go
theorem ok_can_go (G : Globs mg) (F : FnP K "can_go" (top 16) f fd) (hm : mg "can_go" = some (.ref f)) (o_shared_with_others : OkD P w K mg base 1 "shared_with_others" F_shared_with_others ["scopes", "remaining", "node"]) : OkD P w K mg base 2 "can_go" F_can_go ["scopes", "remaining", "node", "other"] := by
  refine OkD.mk F hm (FunD.bindsN F fun _ _ _ _ _ _ us hl => match us, hl with | [_, _, _, _], _ => rfl) sc_can_go rfl rfl fun cd A outer s H E hr => ?_
  have tk := takes_cx (P := P) (w := w) (K := K) (mg := mg) (base := base) (N := ["scopes", "remaining", "node", "other", "variable"]) (qual := "can_go") (scope := defScope (top 16)) (f := f) (cd := cd) (A := A) (outer := outer) (s := s) (H := H) (E := E)
  exact (ss_one (s_ret (x_callB (cr_all rfl) allM_ok G.n_all rfl (a_cons (x_lc (own := [("variable", 4)]) lcFin_ok rfl rfl sc_can_go.nd (i_seq (x_call o_shared_with_others (hr.mono (by omega)) tk (a_cons (x_var 0) (a_cons (x_var 1) (a_cons (x_var 2) a_nil))))) (blkOk_by (by kernel_rfl)) (fun _ _ _ _ _ => (g_name sc_can_go.nd rfl (by first | exact Or.inl rfl | exact Or.inr rfl))) (fun _ _ _ _ _ => ts_nil) (fun _ _ _ _ _ => (x_cmp (op_inAll (u65 hr)) inM_ok (x_var 4) (x_ix (x_var 0) (x_var 3))))) a_nil))))
theorem sc_next_pair : FnScope ["scopes", "remaining", "node", "other"] ["scopes", "remaining"] (defScope (top 17)) := ⟨rfl, rfl, rfl, by decide +kernel, rfl, by decide +kernel, by decide +kernel⟩
def m_next_pair : SX := (sSeq (sFor (iSeq (eVar 1)) (.n 2) (sTidy [2, 3] (sFor (iSeq (eVar 1)) (.n 3) (sTidy [3] (sIf (bAnd (bVal (eOp2 (eqM true) (eVar 3) (eVar 2))) (bTru (eCall 4 F_can_go (aCons (eVar 0) (aCons (eVar 1) (aCons (eVar 2) (aCons (eVar 3) aNil))))))) (sRet (eTup (aCons (eVar 2) (aCons (eVar 3) aNil)))) sSkip)))))
  (sRet (eC .none)))
def F_next_pair : FF := mkFn true 2 4 m_next_pair
theorem ok_next_pair (G : Globs mg) (F : FnP K "next_pair" (top 17) f fd) (hm : mg "next_pair" = some (.ref f)) (o_can_go : OkD P w K mg base 2 "can_go" F_can_go ["scopes", "remaining", "node", "other"]) : OkD P w K mg base 3 "next_pair" F_next_pair ["scopes", "remaining"] := by
  refine OkD.mk F hm (FunD.bindsN F fun _ _ _ _ _ _ us hl => match us, hl with | [_, _], _ => rfl) sc_next_pair rfl rfl fun cd A outer s H E hr => ?_
  have tk := takes_cx (P := P) (w := w) (K := K) (mg := mg) (base := base) (N := ["scopes", "remaining", "node", "other"]) (qual := "next_pair") (scope := defScope (top 17)) (f := f) (cd := cd) (A := A) (outer := outer) (s := s) (H := H) (E := E)
  exact (ss_cons (s_for owns_cx rfl (i_seq (x_var 1)) (g_name sc_next_pair.nd rfl (by first | exact Or.inl rfl | exact Or.inr rfl)) (ss_tidy [2, 3] (ss_one (s_for owns_cx rfl (i_seq (x_var 1)) (g_name sc_next_pair.nd rfl (by first | exact Or.inl rfl | exact Or.inr rfl)) (ss_tidy [3] (ss_one (s_if (PW.pt (b_and (b_cmp (op_neD hr.units) neM_ok (x_var 3) (x_var 2)) (b_and1 (b_tru (x_call o_can_go (hr.mono (by omega)) tk (a_cons (x_var 0) (a_cons (x_var 1) (a_cons (x_var 2) (a_cons (x_var 3) a_nil))))))))) (ss_one (s_ret (x_tup (a_cons (x_var 2) (a_cons (x_var 3) a_nil))))) ss_nil)))))))
  (ss_one (s_ret x_non)))
theorem sc_edge_evidence : FnScope ["scopes", "remaining", "found", "pair"] ["scopes"] (defScope (top 18)) := ⟨rfl, rfl, rfl, by decide +kernel, rfl, by decide +kernel, by decide +kernel⟩
def m_edge_evidence : SX := (sSeq (sExpr (eCall 1 F_check_scopes (aCons (eVar 0) aNil)))
  (sSeq (sSet 1 (eRg1 .c (eCB lenM (aCons (eVar 0) aNil))))
  (sSeq (sSet 2 (eLstL aNil))
  (sSeq (sSet 3 (eCall 2 F_next_pair (aCons (eVar 0) (aCons (eVar 1) aNil))))
  (sSeq (sWhile 40 (bVal (eOp2 (isNoneM true) (eVar 3) (eC .none))) (sTidy [] (sSeq (sExpr (eLM removeM (eVar 1) (aCons (eOp2 idxM (eVar 3) (eC (.int 0))) aNil)))
  (sSeq (sExpr (eLM appendM (eVar 2) (aCons (eVar 3) aNil)))
  (sSet 3 (eCall 2 F_next_pair (aCons (eVar 0) (aCons (eVar 1) aNil))))))))
  (sRet (eTup (aCons (eIf (bVal (eOp2 (eqM false) (eCB lenM (aCons (eVar 1) aNil)) (eC (.int 1)))) (eC (.str "edges")) (eC (.str "stuck"))) (aCons (eCB tupleM (aCons (eVar 2) aNil)) aNil)))))))))
def F_edge_evidence : FF := mkFn true 1 4 m_edge_evidence
theorem ok_edge_evidence (G : Globs mg) (F : FnP K "edge_evidence" (top 18) f fd) (hm : mg "edge_evidence" = some (.ref f)) (o_check_scopes : OkD P w K mg base 5 "check_scopes" F_check_scopes ["scopes"]) (o_next_pair : OkD P w K mg base 3 "next_pair" F_next_pair ["scopes", "remaining"]) : OkD P w K mg base 6 "edge_evidence" F_edge_evidence ["scopes"] := by
  refine OkD.mk F hm (FunD.bindsN F fun _ _ _ _ _ _ us hl => match us, hl with | [_], _ => rfl) sc_edge_evidence rfl rfl fun cd A outer s H E hr => ?_
  have tk := takes_cx (P := P) (w := w) (K := K) (mg := mg) (base := base) (N := ["scopes", "remaining", "found", "pair"]) (qual := "edge_evidence") (scope := defScope (top 18)) (f := f) (cd := cd) (A := A) (outer := outer) (s := s) (H := H) (E := E)
  exact (ss_cons (s_expr (x_call o_check_scopes (hr.mono (by omega)) tk (a_cons (x_var 0) a_nil)))
  (ss_cons (s_set sc_edge_evidence.nd rfl (by first | exact Or.inl rfl | exact Or.inr rfl) (x_listRg1L rfl G.n_list G.n_range (x_callB call_len lenM_ok G.n_len rfl (a_cons (x_var 0) a_nil))))
  (ss_cons (s_set sc_edge_evidence.nd rfl (by first | exact Or.inl rfl | exact Or.inr rfl) (x_lstL a_nil))
  (ss_cons (s_set sc_edge_evidence.nd rfl (by first | exact Or.inl rfl | exact Or.inr rfl) (x_call o_next_pair (hr.mono (by omega)) tk (a_cons (x_var 0) (a_cons (x_var 1) a_nil))))
  (ss_cons (s_while owns_cx (b_cmp op_notN notNoneM_ok (x_var 3) x_non) (ss_tidy [] (ss_cons (s_expr (x_lm PySem.F.slot_list_remove PySem.F.type_list_remove mt_remove removeM_ok (x_var 1) (a_cons (x_ix (x_var 3) x_int) a_nil)))
  (ss_cons (s_expr (x_lm PySem.F.slot_list_append PySem.F.type_list_append mt_append appendM_ok (x_var 2) (a_cons (x_var 3) a_nil)))
  (ss_one (s_set sc_edge_evidence.nd rfl (by first | exact Or.inl rfl | exact Or.inr rfl) (x_call o_next_pair (hr.mono (by omega)) tk (a_cons (x_var 0) (a_cons (x_var 1) a_nil)))))))))
  (ss_one (s_ret (x_tup (a_cons (x_if (b_cmp (op_eqD hr.units) eqM_ok (x_callB call_len lenM_ok G.n_len rfl (a_cons (x_var 1) a_nil)) x_int) x_str x_str) (a_cons (x_callTy call_tuple_of tupleM_ok G.n_tuple rfl (a_cons (x_var 2) a_nil)) a_nil))))))))))
theorem sc_remaining_behind : FnScope ["scopes", "value", "remaining", "pair", "one"] ["scopes", "value"] (defScope (top 19)) := ⟨rfl, rfl, rfl, by decide +kernel, rfl, by decide +kernel, by decide +kernel⟩
def m_remaining_behind : SX := (sSeq (sIf (bOr (bNot (bTru (eOp1 (isiM "tuple") (eVar 1)))) (bVal (eOp2 geM (eCB lenM (aCons (eVar 1) aNil)) (eCB lenM (aCons (eVar 0) aNil))))) (sRet (eC .none)) sSkip)
  (sSeq (sSet 2 (eRg1 .c (eCB lenM (aCons (eVar 0) aNil))))
  (sSeq (sFor (iSeq (eVar 1)) (.n 3) (sTidy [3, 4] (sSeq (sIf (bOr (bNot (bTru (eOp1 (isiM "tuple") (eVar 3)))) (bVal (eOp2 (eqM true) (eCB lenM (aCons (eVar 3) aNil)) (eC (.int 2))))) (sRet (eC .none)) sSkip)
  (sSeq (sIf (bNot (bTru (eCB (allM true) (aCons (eLc lcFin (iSeq (eVar 3)) (.n 4) bYes (eCall 3 F_is_whole (aCons (eVar 4) (aCons (eC (.int 0)) (aCons (eOp2 subM (eCB lenM (aCons (eVar 0) aNil)) (eC (.int 1))) aNil)))) [4]) aNil)))) (sRet (eC .none)) sSkip)
  (sSeq (sIf (bOr (bVal (eOp2 (eqM false) (eOp2 idxM (eVar 3) (eC (.int 0))) (eOp2 idxM (eVar 3) (eC (.int 1))))) (bOr (bVal (eOp2 (inM true) (eOp2 idxM (eVar 3) (eC (.int 0))) (eVar 2))) (bVal (eOp2 (inM true) (eOp2 idxM (eVar 3) (eC (.int 1))) (eVar 2))))) (sRet (eC .none)) sSkip)
  (sSeq (sIf (bNot (bTru (eCall 4 F_can_go (aCons (eVar 0) (aCons (eVar 2) (aCons (eOp2 idxM (eVar 3) (eC (.int 0))) (aCons (eOp2 idxM (eVar 3) (eC (.int 1))) aNil))))))) (sRet (eC .none)) sSkip)
  (sExpr (eLM removeM (eVar 2) (aCons (eOp2 idxM (eVar 3) (eC (.int 0))) aNil)))))))))
  (sRet (eVar 2)))))
def F_remaining_behind : FF := mkFn true 2 5 m_remaining_behind
theorem ok_remaining_behind (G : Globs mg) (F : FnP K "remaining_behind" (top 19) f fd) (hm : mg "remaining_behind" = some (.ref f)) (o_is_whole : OkD P w K mg base 1 "is_whole" F_is_whole ["value", "low", "high"]) (o_can_go : OkD P w K mg base 2 "can_go" F_can_go ["scopes", "remaining", "node", "other"]) : OkD P w K mg base 3 "remaining_behind" F_remaining_behind ["scopes", "value"] := by
  refine OkD.mk F hm (FunD.bindsN F fun _ _ _ _ _ _ us hl => match us, hl with | [_, _], _ => rfl) sc_remaining_behind rfl rfl fun cd A outer s H E hr => ?_
  have tk := takes_cx (P := P) (w := w) (K := K) (mg := mg) (base := base) (N := ["scopes", "value", "remaining", "pair", "one"]) (qual := "remaining_behind") (scope := defScope (top 19)) (f := f) (cd := cd) (A := A) (outer := outer) (s := s) (H := H) (E := E)
  exact (ss_cons (s_if (PW.pt (b_or (b_not (b_tru (x_isi (by decide) G.n_isinstance G.n_tuple rfl (x_var 1)))) (b_or1 (b_cmp op_ge geM_ok (x_callB call_len lenM_ok G.n_len rfl (a_cons (x_var 1) a_nil)) (x_callB call_len lenM_ok G.n_len rfl (a_cons (x_var 0) a_nil)))))) (ss_one (s_ret x_non)) ss_nil)
  (ss_cons (s_set sc_remaining_behind.nd rfl (by first | exact Or.inl rfl | exact Or.inr rfl) (x_listRg1L rfl G.n_list G.n_range (x_callB call_len lenM_ok G.n_len rfl (a_cons (x_var 0) a_nil))))
  (ss_cons (s_for owns_cx rfl (i_seq (x_var 1)) (g_name sc_remaining_behind.nd rfl (by first | exact Or.inl rfl | exact Or.inr rfl)) (ss_tidy [3, 4] (ss_cons (s_if (PW.pt (b_or (b_not (b_tru (x_isi (by decide) G.n_isinstance G.n_tuple rfl (x_var 3)))) (b_or1 (b_cmp (op_neD hr.units) neM_ok (x_callB call_len lenM_ok G.n_len rfl (a_cons (x_var 3) a_nil)) x_int)))) (ss_one (s_ret x_non)) ss_nil)
  (ss_cons (s_if (b_not (b_tru (x_callB (cr_all rfl) allM_ok G.n_all rfl (a_cons (x_lc (own := [("one", 4)]) lcFin_ok rfl rfl sc_remaining_behind.nd (i_seq (x_var 3)) (blkOk_by (by kernel_rfl)) (fun _ _ _ _ _ => (g_name sc_remaining_behind.nd rfl (by first | exact Or.inl rfl | exact Or.inr rfl))) (fun _ _ _ _ _ => ts_nil) (fun _ _ _ _ _ => (x_call o_is_whole (hr.mono (by omega)) takes0 (a_cons (x_var 4) (a_cons x_int (a_cons (x_op op_sub subM_ok (x_callB call_len lenM_ok G.n_len rfl (a_cons (x_var 0) a_nil)) x_int) a_nil)))))) a_nil)))) (ss_one (s_ret x_non)) ss_nil)
  (ss_cons (s_if (PW.pt (b_or (b_cmp (op_eqD hr.units) eqM_ok (x_ix (x_var 3) x_int) (x_ix (x_var 3) x_int)) (b_or (b_cmp (op_notInAll (u65 hr)) notInM_ok (x_ix (x_var 3) x_int) (x_var 2)) (b_or1 (b_cmp (op_notInAll (u65 hr)) notInM_ok (x_ix (x_var 3) x_int) (x_var 2)))))) (ss_one (s_ret x_non)) ss_nil)
  (ss_cons (s_if (b_not (b_tru (x_call o_can_go (hr.mono (by omega)) tk (a_cons (x_var 0) (a_cons (x_var 2) (a_cons (x_ix (x_var 3) x_int) (a_cons (x_ix (x_var 3) x_int) a_nil))))))) (ss_one (s_ret x_non)) ss_nil)
  (ss_one (s_expr (x_lm PySem.F.slot_list_remove PySem.F.type_list_remove mt_remove removeM_ok (x_var 2) (a_cons (x_ix (x_var 3) x_int) a_nil))))))))))
  (ss_one (s_ret (x_var 2))))))
theorem sc_accepts_removal : FnScope ["scopes", "value", "remaining"] ["scopes", "value"] (defScope (top 20)) := ⟨rfl, rfl, rfl, by decide +kernel, rfl, by decide +kernel, by decide +kernel⟩
def m_accepts_removal : SX := (sSeq (sExpr (eCall 1 F_check_scopes (aCons (eVar 0) aNil)))
  (sSeq (sIf (bOr (bNot (bTru (eOp1 (isiM "tuple") (eVar 1)))) (bOr (bVal (eOp2 (eqM true) (eCB lenM (aCons (eVar 1) aNil)) (eC (.int 2)))) (bNot (bTru (eOp1 (isiM "str") (eOp2 idxM (eVar 1) (eC (.int 0)))))))) (sRet (eC (.bool false))) sSkip)
  (sSeq (sSet 2 (eCall 2 F_remaining_behind (aCons (eVar 0) (aCons (eOp2 idxM (eVar 1) (eC (.int 1))) aNil))))
  (sSeq (sIf (bVal (eOp2 (isNoneM false) (eVar 2) (eC .none))) (sRet (eC (.bool false))) sSkip)
  (sSeq (sIf (bVal (eOp2 (eqM false) (eOp2 idxM (eVar 1) (eC (.int 0))) (eC (.str "edges")))) (sRet (eOp2 (eqM false) (eCB lenM (aCons (eVar 2) aNil)) (eC (.int 1)))) sSkip)
  (sRet (eAnd (eOp2 (eqM false) (eOp2 idxM (eVar 1) (eC (.int 0))) (eC (.str "stuck"))) (eAnd (eOp2 gtM (eCB lenM (aCons (eVar 2) aNil)) (eC (.int 1))) (eOp2 (isNoneM false) (eCall 2 F_next_pair (aCons (eVar 0) (aCons (eVar 2) aNil))) (eC .none))))))))))
def F_accepts_removal : FF := mkFn true 2 3 m_accepts_removal
theorem ok_accepts_removal (G : Globs mg) (F : FnP K "accepts_removal" (top 20) f fd) (hm : mg "accepts_removal" = some (.ref f)) (o_check_scopes : OkD P w K mg base 5 "check_scopes" F_check_scopes ["scopes"]) (o_remaining_behind : OkD P w K mg base 3 "remaining_behind" F_remaining_behind ["scopes", "value"]) (o_next_pair : OkD P w K mg base 3 "next_pair" F_next_pair ["scopes", "remaining"]) : OkD P w K mg base 6 "accepts_removal" F_accepts_removal ["scopes", "value"] := by
  refine OkD.mk F hm (FunD.bindsN F fun _ _ _ _ _ _ us hl => match us, hl with | [_, _], _ => rfl) sc_accepts_removal rfl rfl fun cd A outer s H E hr => ?_
  have tk := takes_cx (P := P) (w := w) (K := K) (mg := mg) (base := base) (N := ["scopes", "value", "remaining"]) (qual := "accepts_removal") (scope := defScope (top 20)) (f := f) (cd := cd) (A := A) (outer := outer) (s := s) (H := H) (E := E)
  exact (ss_cons (s_expr (x_call o_check_scopes (hr.mono (by omega)) tk (a_cons (x_var 0) a_nil)))
  (ss_cons (s_if (PW.pt (b_or (b_not (b_tru (x_isi (by decide) G.n_isinstance G.n_tuple rfl (x_var 1)))) (b_or (b_cmp (op_neD hr.units) neM_ok (x_callB call_len lenM_ok G.n_len rfl (a_cons (x_var 1) a_nil)) x_int) (b_or1 (b_not (b_tru (x_isi (by decide) G.n_isinstance G.n_str rfl (x_ix (x_var 1) x_int)))))))) (ss_one (s_ret x_bl)) ss_nil)
  (ss_cons (s_set sc_accepts_removal.nd rfl (by first | exact Or.inl rfl | exact Or.inr rfl) (x_call o_remaining_behind (hr.mono (by omega)) tk (a_cons (x_var 0) (a_cons (x_ix (x_var 1) x_int) a_nil))))
  (ss_cons (s_if (b_cmp op_isN isNoneM_ok (x_var 2) x_non) (ss_one (s_ret x_bl)) ss_nil)
  (ss_cons (s_if (b_cmp (op_eqD hr.units) eqM_ok (x_ix (x_var 1) x_int) x_str) (ss_one (s_ret (x_cmp (op_eqD hr.units) eqM_ok (x_callB call_len lenM_ok G.n_len rfl (a_cons (x_var 2) a_nil)) x_int))) ss_nil)
  (ss_one (s_ret (x_and (x_cmp (op_eqD hr.units) eqM_ok (x_ix (x_var 1) x_int) x_str) (x_and (x_cmp op_gt gtM_ok (x_callB call_len lenM_ok G.n_len rfl (a_cons (x_var 2) a_nil)) x_int) (x_one (x_cmp op_isN isNoneM_ok (x_call o_next_pair (hr.mono (by omega)) tk (a_cons (x_var 0) (a_cons (x_var 2) a_nil))) x_non)))))))))))
theorem sc__law_stream : FnScope ["_law_script"] ["_law_script"] (defScope (top 22)) := ⟨rfl, rfl, rfl, by decide +kernel, rfl, by decide +kernel, by decide +kernel⟩
def m__law_stream : SX := (sRet (eLstL (aCons (eCB listM (aCons (eVar 0) aNil)) (aCons (eC (.int 0)) (aCons (eC (.int 0)) aNil)))))
def F__law_stream : FF := mkFn false 1 1 m__law_stream
theorem ok__law_stream (G : Globs mg) (F : FnP K "_law_stream" (top 22) f fd) (hm : mg "_law_stream" = some (.ref f))  : OkD P w K mg base 1 "_law_stream" F__law_stream ["_law_script"] := by
  refine OkD.mk F hm (FunD.bindsN F fun _ _ _ _ _ _ us hl => match us, hl with | [_], _ => rfl) sc__law_stream rfl rfl fun cd A outer s H E hr => ?_
  have tk := takes_cx (P := P) (w := w) (K := K) (mg := mg) (base := base) (N := ["_law_script"]) (qual := "_law_stream") (scope := defScope (top 22)) (f := f) (cd := cd) (A := A) (outer := outer) (s := s) (H := H) (E := E)
  exact (ss_one (s_ret (x_lstL (a_cons (x_callTy call_list_of listM_ok G.n_list rfl (a_cons (x_var 0) a_nil)) (a_cons x_int (a_cons x_int a_nil))))))
theorem sc__law_next : FnScope ["_law_stream_here", "_law_many", "_law_k", "_law_cell", "_law_digit"] ["_law_stream_here", "_law_many"] (defScope (top 23)) := ⟨rfl, rfl, rfl, by decide +kernel, rfl, by decide +kernel, by decide +kernel⟩
def m__law_next : SX := (sSeq (sIf (bVal (eOp2 (eqM false) (eOp2 idxM (eVar 0) (eC (.int 1))) (eC (.int 0)))) (sSeq (sSet 2 (eOp2 idxM (eVar 0) (eC (.int 2))))
  (sSeq (sSet 3 (eOp2 addM (eC (.int 7)) (eVar 2)))
  (sSeq (sIf (bVal (eOp2 ltM (eVar 2) (eCB lenM (aCons (eOp2 idxM (eVar 0) (eC (.int 0))) aNil)))) (sSet 3 (eCB absM (aCons (eOp2 idxM (eOp2 idxM (eVar 0) (eC (.int 0))) (eVar 2)) aNil))) sSkip)
  (sSeq (sIf (bVal (eOp2 ltM (eVar 3) (eOp2 powM (eC (.int 10)) (eC (.int 18))))) (sSeq (sSet 3 (eOp2 modM (eCB intM1 (aCons (eOp2 addM (eOp2 addM (eOp2 mulI (eVar 3) (eC (.int 48271))) (eOp2 mulI (eVar 2) (eC (.int 69621)))) (eC (.int 11))) aNil)) (eC (.int 2147483647))))
  (sSet 3 (eOp2 addM (eOp2 mulI (eOp2 modM (eCB intM1 (aCons (eOp2 addM (eOp2 mulI (eVar 3) (eC (.int 16807))) (eC (.int 13))) aNil)) (eC (.int 2147483647))) (eC (.int 65537))) (eVar 3)))) sSkip)
  (sSeq (sSetIx (eVar 0) (eC (.int 1)) (eVar 3))
  (sSetIx (eVar 0) (eC (.int 2)) (eOp2 addM (eVar 2) (eC (.int 1))))))))) sSkip)
  (sSeq (sSet 4 (eOp2 modM (eCB intM1 (aCons (eOp2 idxM (eVar 0) (eC (.int 1))) aNil)) (eVar 1)))
  (sSeq (sSetIx (eVar 0) (eC (.int 1)) (eOp2 divM (eOp2 idxM (eVar 0) (eC (.int 1))) (eVar 1)))
  (sRet (eVar 4)))))
def F__law_next : FF := mkFn true 2 5 m__law_next
theorem ok__law_next (G : Globs mg) (F : FnP K "_law_next" (top 23) f fd) (hm : mg "_law_next" = some (.ref f))  : OkD P w K mg base 1 "_law_next" F__law_next ["_law_stream_here", "_law_many"] := by
  refine OkD.mk F hm (FunD.bindsN F fun _ _ _ _ _ _ us hl => match us, hl with | [_, _], _ => rfl) sc__law_next rfl rfl fun cd A outer s H E hr => ?_
  have tk := takes_cx (P := P) (w := w) (K := K) (mg := mg) (base := base) (N := ["_law_stream_here", "_law_many", "_law_k", "_law_cell", "_law_digit"]) (qual := "_law_next") (scope := defScope (top 23)) (f := f) (cd := cd) (A := A) (outer := outer) (s := s) (H := H) (E := E)
  exact (ss_cons (s_if (b_cmp (op_eqD hr.units) eqM_ok (x_ix (x_var 0) x_int) x_int) (ss_cons (s_set sc__law_next.nd rfl (by first | exact Or.inl rfl | exact Or.inr rfl) (x_ix (x_var 0) x_int))
  (ss_cons (s_set sc__law_next.nd rfl (by first | exact Or.inl rfl | exact Or.inr rfl) (x_op op_addAll addM_ok x_int (x_var 2)))
  (ss_cons (s_if (b_cmp (op_ltAll hr.units0) ltM_ok (x_var 2) (x_callB call_len lenM_ok G.n_len rfl (a_cons (x_ix (x_var 0) x_int) a_nil))) (ss_one (s_set sc__law_next.nd rfl (by first | exact Or.inl rfl | exact Or.inr rfl) (x_callB call_abs absM_ok G.n_abs rfl (a_cons (x_ix (x_ix (x_var 0) x_int) (x_var 2)) a_nil)))) ss_nil)
  (ss_cons (s_if (b_cmp (op_ltAll hr.units0) ltM_ok (x_var 3) (x_op op_pow powM_ok x_int x_int)) (ss_cons (s_set sc__law_next.nd rfl (by first | exact Or.inl rfl | exact Or.inr rfl) (x_op op_mod modM_ok (x_callTy call_int1 intM1_ok G.n_int rfl (a_cons (x_op op_addAll addM_ok (x_op op_addAll addM_ok (x_op op_mul mulI_ok (x_var 3) x_int) (x_op op_mul mulI_ok (x_var 2) x_int)) x_int) a_nil)) x_int))
  (ss_one (s_set sc__law_next.nd rfl (by first | exact Or.inl rfl | exact Or.inr rfl) (x_op op_addAll addM_ok (x_op op_mul mulI_ok (x_op op_mod modM_ok (x_callTy call_int1 intM1_ok G.n_int rfl (a_cons (x_op op_addAll addM_ok (x_op op_mul mulI_ok (x_var 3) x_int) x_int) a_nil)) x_int) x_int) (x_var 3))))) ss_nil)
  (ss_cons (s_setIx (x_var 3) (x_var 0) x_int)
  (ss_one (s_setIx (x_op op_addAll addM_ok (x_var 2) x_int) (x_var 0) x_int))))))) ss_nil)
  (ss_cons (s_set sc__law_next.nd rfl (by first | exact Or.inl rfl | exact Or.inr rfl) (x_op op_mod modM_ok (x_callTy call_int1 intM1_ok G.n_int rfl (a_cons (x_ix (x_var 0) x_int) a_nil)) (x_var 1)))
  (ss_cons (s_setIx (x_op op_fdiv divM_ok (x_ix (x_var 0) x_int) (x_var 1)) (x_var 0) x_int)
  (ss_one (s_ret (x_var 4))))))
theorem sc__law_is_integer : FnScope ["_law_actual"] ["_law_actual"] (defScope (top 24)) := ⟨rfl, rfl, rfl, by decide +kernel, rfl, by decide +kernel, by decide +kernel⟩
def m__law_is_integer : SX := (sRet (eAnd (eOp1 (isiM "int") (eVar 0)) (eNot (eOp1 (isiM "bool") (eVar 0)))))
def F__law_is_integer : FF := mkFn true 1 1 m__law_is_integer
theorem ok__law_is_integer (G : Globs mg) (F : FnP K "_law_is_integer" (top 24) f fd) (hm : mg "_law_is_integer" = some (.ref f))  : OkD P w K mg base 1 "_law_is_integer" F__law_is_integer ["_law_actual"] := by
  refine OkD.mk F hm (FunD.bindsN F fun _ _ _ _ _ _ us hl => match us, hl with | [_], _ => rfl) sc__law_is_integer rfl rfl fun cd A outer s H E hr => ?_
  have tk := takes_cx (P := P) (w := w) (K := K) (mg := mg) (base := base) (N := ["_law_actual"]) (qual := "_law_is_integer") (scope := defScope (top 24)) (f := f) (cd := cd) (A := A) (outer := outer) (s := s) (H := H) (E := E)
  exact (ss_one (s_ret (x_and (x_isi (by decide) G.n_isinstance G.n_int rfl (x_var 0)) (x_one (x_not (x_isi (by decide) G.n_isinstance G.n_bool rfl (x_var 0)))))))
theorem sc__law_equal : FnScope ["_law_actual", "_law_due", "_law_at"] ["_law_actual", "_law_due"] (defScope (top 25)) := ⟨rfl, rfl, rfl, by decide +kernel, rfl, by decide +kernel, by decide +kernel⟩
def m__law_equal (F_self : FF) : SX := (sSeq (sIf (bVal (eOp2 (isNoneM false) (eVar 1) (eC .none))) (sRet (eOp2 (isNoneM false) (eVar 0) (eC .none))) sSkip)
  (sSeq (sIf (bTru (eOp1 (isiM "bool") (eVar 1))) (sRet (eAnd (eOp1 (isiM "bool") (eVar 0)) (eOp2 (eqM false) (eVar 0) (eVar 1)))) sSkip)
  (sSeq (sIf (bTru (eOp1 (isiM "int") (eVar 1))) (sRet (eAnd (eCall 1 F__law_is_integer (aCons (eVar 0) aNil)) (eOp2 (eqM false) (eVar 0) (eVar 1)))) sSkip)
  (sSeq (sIf (bTru (eOp1 (isiM "str") (eVar 1))) (sRet (eAnd (eOp1 (isiM "str") (eVar 0)) (eOp2 (eqM false) (eVar 0) (eVar 1)))) sSkip)
  (sSeq (sIf (bAnd (bTru (eOp1 (isiM "tuple") (eVar 1))) (bNot (bTru (eOp1 (isiM "tuple") (eVar 0))))) (sRet (eC (.bool false))) sSkip)
  (sSeq (sIf (bAnd (bTru (eOp1 (isiM "list") (eVar 1))) (bNot (bTru (eOp1 (isiM "list") (eVar 0))))) (sRet (eC (.bool false))) sSkip)
  (sSeq (sIf (bVal (eOp2 (eqM true) (eCB lenM (aCons (eVar 0) aNil)) (eCB lenM (aCons (eVar 1) aNil)))) (sRet (eC (.bool false))) sSkip)
  (sRet (eCB (allM true) (aCons (eLc lcFin (iRg1 (eCB lenM (aCons (eVar 1) aNil))) (.n 2) bYes (eCall 2 F_self (aCons (eOp2 idxM (eVar 0) (eVar 2)) (aCons (eOp2 idxM (eVar 1) (eVar 2)) aNil))) [2]) aNil))))))))))
def F__law_equal : Nat → FF
  | 0 => fun _ _ => .stuck
  | n + 1 => mkFn true 2 3 (m__law_equal (F__law_equal n))
theorem ok__law_equal (G : Globs mg) (F : FnP K "_law_equal" (top 25) f fd) (hm : mg "_law_equal" = some (.ref f)) (o__law_is_integer : OkD P w K mg base 1 "_law_is_integer" F__law_is_integer ["_law_actual"]) : ∀ n, OkD P w K mg base (n + 2) "_law_equal" (F__law_equal n) ["_law_actual", "_law_due"]
  | 0 => OkD.zero F hm (FunD.bindsN F fun _ _ _ _ _ _ us hl => match us, hl with | [_, _], _ => rfl) sc__law_equal
  | n + 1 => by
    have o__law_equal := ok__law_equal G F hm o__law_is_integer n
    refine OkD.mk (k := n + 2) F hm (FunD.bindsN F fun _ _ _ _ _ _ us hl => match us, hl with | [_, _], _ => rfl) sc__law_equal rfl rfl fun cd A outer s H E hr => ?_
    have tk := takes_cx (P := P) (w := w) (K := K) (mg := mg) (base := base) (N := ["_law_actual", "_law_due", "_law_at"]) (qual := "_law_equal") (scope := defScope (top 25)) (f := f) (cd := cd) (A := A) (outer := outer) (s := s) (H := H) (E := E)
    exact (ss_cons (s_if (b_cmp op_isN isNoneM_ok (x_var 1) x_non) (ss_one (s_ret (x_cmp op_isN isNoneM_ok (x_var 0) x_non))) ss_nil)
  (ss_cons (s_if (b_tru (x_isi (by decide) G.n_isinstance G.n_bool rfl (x_var 1))) (ss_one (s_ret (x_and (x_isi (by decide) G.n_isinstance G.n_bool rfl (x_var 0)) (x_one (x_cmp (op_eqD hr.units) eqM_ok (x_var 0) (x_var 1)))))) ss_nil)
  (ss_cons (s_if (b_tru (x_isi (by decide) G.n_isinstance G.n_int rfl (x_var 1))) (ss_one (s_ret (x_and (x_call o__law_is_integer (hr.mono (by omega)) tk (a_cons (x_var 0) a_nil)) (x_one (x_cmp (op_eqD hr.units) eqM_ok (x_var 0) (x_var 1)))))) ss_nil)
  (ss_cons (s_if (b_tru (x_isi (by decide) G.n_isinstance G.n_str rfl (x_var 1))) (ss_one (s_ret (x_and (x_isi (by decide) G.n_isinstance G.n_str rfl (x_var 0)) (x_one (x_cmp (op_eqD hr.units) eqM_ok (x_var 0) (x_var 1)))))) ss_nil)
  (ss_cons (s_if (PW.pt (b_and (b_tru (x_isi (by decide) G.n_isinstance G.n_tuple rfl (x_var 1))) (b_and1 (b_not (b_tru (x_isi (by decide) G.n_isinstance G.n_tuple rfl (x_var 0))))))) (ss_one (s_ret x_bl)) ss_nil)
  (ss_cons (s_if (PW.pt (b_and (b_tru (x_isi (by decide) G.n_isinstance G.n_list rfl (x_var 1))) (b_and1 (b_not (b_tru (x_isi (by decide) G.n_isinstance G.n_list rfl (x_var 0))))))) (ss_one (s_ret x_bl)) ss_nil)
  (ss_cons (s_if (b_cmp (op_neD hr.units) neM_ok (x_callB call_len lenM_ok G.n_len rfl (a_cons (x_var 0) a_nil)) (x_callB call_len lenM_ok G.n_len rfl (a_cons (x_var 1) a_nil))) (ss_one (s_ret x_bl)) ss_nil)
  (ss_one (s_ret (x_callB (cr_all rfl) allM_ok G.n_all rfl (a_cons (x_lc (own := [("_law_at", 2)]) lcFin_ok rfl rfl sc__law_equal.nd (i_rg1 G.n_range (x_callB call_len lenM_ok G.n_len rfl (a_cons (x_var 1) a_nil))) (blkOk_by (by kernel_rfl)) (fun _ _ _ _ _ => (g_name sc__law_equal.nd rfl (by first | exact Or.inl rfl | exact Or.inr rfl))) (fun _ _ _ _ _ => ts_nil) (fun _ _ _ _ _ => (x_call o__law_equal (hr.mono (by omega)) takes0 (a_cons (x_ix (x_var 0) (x_var 2)) (a_cons (x_ix (x_var 1) (x_var 2)) a_nil))))) a_nil)))))))))))
theorem sc__law_scopes : FnScope ["_law_stream_here", "_law_most", "_law_variables", "_law_found", "_law_node", "_law_scope", "_law_variable"] ["_law_stream_here", "_law_most", "_law_variables"] (defScope (top 26)) := ⟨rfl, rfl, rfl, by decide +kernel, rfl, by decide +kernel, by decide +kernel⟩
def m__law_scopes : SX := (sSeq (sSet 3 (eLstL aNil))
  (sSeq (sFor (iRg1 (eOp2 addM (eC (.int 1)) (eCall 2 F__law_next (aCons (eVar 0) (aCons (eVar 1) aNil))))) (.n 4) (sTidy [4, 5, 6] (sSeq (sSet 5 (eLc lcFin (iRg1 (eVar 2)) (.n 6) (bVal (eOp2 (eqM false) (eCall 2 F__law_next (aCons (eVar 0) (aCons (eC (.int 2)) aNil))) (eC (.int 1)))) (eVar 6) [6]))
  (sExpr (eLM appendM (eVar 3) (aCons (eCB tupleM (aCons (eCut (eVar 5) oNone (oSome (eC (.int 3)))) aNil)) aNil))))))
  (sRet (eCB tupleM (aCons (eVar 3) aNil)))))
def F__law_scopes : FF := mkFn true 3 7 m__law_scopes
theorem ok__law_scopes (G : Globs mg) (F : FnP K "_law_scopes" (top 26) f fd) (hm : mg "_law_scopes" = some (.ref f)) (o__law_next : OkD P w K mg base 1 "_law_next" F__law_next ["_law_stream_here", "_law_many"]) : OkD P w K mg base 2 "_law_scopes" F__law_scopes ["_law_stream_here", "_law_most", "_law_variables"] := by
  refine OkD.mk F hm (FunD.bindsN F fun _ _ _ _ _ _ us hl => match us, hl with | [_, _, _], _ => rfl) sc__law_scopes rfl rfl fun cd A outer s H E hr => ?_
  have tk := takes_cx (P := P) (w := w) (K := K) (mg := mg) (base := base) (N := ["_law_stream_here", "_law_most", "_law_variables", "_law_found", "_law_node", "_law_scope", "_law_variable"]) (qual := "_law_scopes") (scope := defScope (top 26)) (f := f) (cd := cd) (A := A) (outer := outer) (s := s) (H := H) (E := E)
  exact (ss_cons (s_set sc__law_scopes.nd rfl (by first | exact Or.inl rfl | exact Or.inr rfl) (x_lstL a_nil))
  (ss_cons (s_for owns_cx rfl (i_rg1 G.n_range (x_op op_addAll addM_ok x_int (x_call o__law_next (hr.mono (by omega)) tk (a_cons (x_var 0) (a_cons (x_var 1) a_nil))))) (g_name sc__law_scopes.nd rfl (by first | exact Or.inl rfl | exact Or.inr rfl)) (ss_tidy [4, 5, 6] (ss_cons (s_setLc (own := [("_law_variable", 6)]) lcFin_ok rfl rfl sc__law_scopes.nd rfl rfl (sw_true rfl rfl rfl (by decide +kernel)) (i_rg1 G.n_range (x_var 2)) (blkOk_by (by kernel_rfl)) (fun _ _ _ _ _ => (g_name sc__law_scopes.nd rfl (by first | exact Or.inl rfl | exact Or.inr rfl))) (fun _ _ _ _ _ => (ts_one (b_cmp (op_eqD hr.units) eqM_ok (x_call o__law_next (hr.mono (by omega)) takes0 (a_cons (x_var 0) (a_cons x_int a_nil))) x_int))) (fun _ _ _ _ _ => (x_var 6)))
  (ss_one (s_expr (x_lm PySem.F.slot_list_append PySem.F.type_list_append mt_append appendM_ok (x_var 3) (a_cons (x_callTy call_tuple_of tupleM_ok G.n_tuple rfl (a_cons (x_cut (x_var 5) o_none (o_some x_int)) a_nil)) a_nil)))))))
  (ss_one (s_ret (x_callTy call_tuple_of tupleM_ok G.n_tuple rfl (a_cons (x_var 3) a_nil))))))
theorem sc__law_can_go : FnScope ["_law_scopes_here", "_law_remaining", "_law_node", "_law_other", "_law_others", "_law_shared", "_law_near", "_law_variable"] ["_law_scopes_here", "_law_remaining", "_law_node", "_law_other"] (defScope (top 27)) := ⟨rfl, rfl, rfl, by decide +kernel, rfl, by decide +kernel, by decide +kernel⟩
def m__law_can_go : SX := (sSeq (sSet 4 (eLc lcFin (iSeq (eVar 1)) (.n 6) (bVal (eOp2 (eqM true) (eVar 6) (eVar 2))) (eVar 6) [6]))
  (sSeq (sSet 5 (eLc lcFin (iSeq (eOp2 idxM (eVar 0) (eVar 2))) (.n 7) (bTru (eCB (allM false) (aCons (eLc lcFin (iSeq (eVar 4)) (.n 6) bYes (eOp2 (inM false) (eVar 7) (eOp2 idxM (eVar 0) (eVar 6))) [6]) aNil))) (eVar 7) [7]))
  (sRet (eCB (allM true) (aCons (eLc lcFin (iSeq (eVar 5)) (.n 7) bYes (eOp2 (inM false) (eVar 7) (eOp2 idxM (eVar 0) (eVar 3))) [7]) aNil)))))
def F__law_can_go : FF := mkFn true 4 8 m__law_can_go
theorem ok__law_can_go (G : Globs mg) (F : FnP K "_law_can_go" (top 27) f fd) (hm : mg "_law_can_go" = some (.ref f))  : OkD P w K mg base 1 "_law_can_go" F__law_can_go ["_law_scopes_here", "_law_remaining", "_law_node", "_law_other"] := by
  refine OkD.mk F hm (FunD.bindsN F fun _ _ _ _ _ _ us hl => match us, hl with | [_, _, _, _], _ => rfl) sc__law_can_go rfl rfl fun cd A outer s H E hr => ?_
  have tk := takes_cx (P := P) (w := w) (K := K) (mg := mg) (base := base) (N := ["_law_scopes_here", "_law_remaining", "_law_node", "_law_other", "_law_others", "_law_shared", "_law_near", "_law_variable"]) (qual := "_law_can_go") (scope := defScope (top 27)) (f := f) (cd := cd) (A := A) (outer := outer) (s := s) (H := H) (E := E)
  exact (ss_cons (s_set sc__law_can_go.nd rfl (by first | exact Or.inl rfl | exact Or.inr rfl) (x_lc (own := [("_law_near", 6)]) lcFin_ok rfl rfl sc__law_can_go.nd (i_seq (x_var 1)) (blkOk_by (by kernel_rfl)) (fun _ _ _ _ _ => (g_name sc__law_can_go.nd rfl (by first | exact Or.inl rfl | exact Or.inr rfl))) (fun _ _ _ _ _ => (ts_one (b_cmp (op_neD hr.units) neM_ok (x_var 6) (x_var 2)))) (fun _ _ _ _ _ => (x_var 6))))
  (ss_cons (s_setLc (own := [("_law_variable", 7)]) lcFin_ok rfl rfl sc__law_can_go.nd rfl rfl (sw_true rfl rfl rfl (by decide +kernel)) (i_seq (x_ix (x_var 0) (x_var 2))) (blkOk_by (by kernel_rfl)) (fun _ _ _ _ _ => (g_name sc__law_can_go.nd rfl (by first | exact Or.inl rfl | exact Or.inr rfl))) (fun _ _ _ _ _ => (ts_one (b_tru (x_callB (cr_any rfl) anyM_ok G.n_any rfl (a_cons (x_lc (own := [("_law_near", 6)]) lcFin_ok rfl rfl sc__law_can_go.nd (i_seq (x_var 4)) (blkOk_by (by kernel_rfl)) (fun _ _ _ _ _ => (g_name sc__law_can_go.nd rfl (by first | exact Or.inl rfl | exact Or.inr rfl))) (fun _ _ _ _ _ => ts_nil) (fun _ _ _ _ _ => (x_cmp (op_inAll (u65 hr)) inM_ok (x_var 7) (x_ix (x_var 0) (x_var 6))))) a_nil))))) (fun _ _ _ _ _ => (x_var 7)))
  (ss_one (s_ret (x_callB (cr_all rfl) allM_ok G.n_all rfl (a_cons (x_lc (own := [("_law_variable", 7)]) lcFin_ok rfl rfl sc__law_can_go.nd (i_seq (x_var 5)) (blkOk_by (by kernel_rfl)) (fun _ _ _ _ _ => (g_name sc__law_can_go.nd rfl (by first | exact Or.inl rfl | exact Or.inr rfl))) (fun _ _ _ _ _ => ts_nil) (fun _ _ _ _ _ => (x_cmp (op_inAll (u65 hr)) inM_ok (x_var 7) (x_ix (x_var 0) (x_var 3))))) a_nil))))))
theorem sc__law_moves : FnScope ["_law_scopes_here", "_law_remaining", "_law_found", "_law_node", "_law_other"] ["_law_scopes_here", "_law_remaining"] (defScope (top 28)) := ⟨rfl, rfl, rfl, by decide +kernel, rfl, by decide +kernel, by decide +kernel⟩
def m__law_moves : SX := (sSeq (sSet 2 (eLst aNil))
  (sSeq (sFor (iSeq (eVar 1)) (.n 3) (sTidy [3, 4] (sSet 2 (eOp2 addM (eVar 2) (eLc lcFin (iSeq (eVar 1)) (.n 4) (bAnd (bVal (eOp2 (eqM true) (eVar 4) (eVar 3))) (bTru (eCall 4 F__law_can_go (aCons (eVar 0) (aCons (eVar 1) (aCons (eVar 3) (aCons (eVar 4) aNil))))))) (eTup (aCons (eVar 3) (aCons (eVar 4) aNil))) [4])))))
  (sRet (eVar 2))))
def F__law_moves : FF := mkFn true 2 5 m__law_moves
theorem ok__law_moves (G : Globs mg) (F : FnP K "_law_moves" (top 28) f fd) (hm : mg "_law_moves" = some (.ref f)) (o__law_can_go : OkD P w K mg base 1 "_law_can_go" F__law_can_go ["_law_scopes_here", "_law_remaining", "_law_node", "_law_other"]) : OkD P w K mg base 2 "_law_moves" F__law_moves ["_law_scopes_here", "_law_remaining"] := by
  refine OkD.mk F hm (FunD.bindsN F fun _ _ _ _ _ _ us hl => match us, hl with | [_, _], _ => rfl) sc__law_moves rfl rfl fun cd A outer s H E hr => ?_
  have tk := takes_cx (P := P) (w := w) (K := K) (mg := mg) (base := base) (N := ["_law_scopes_here", "_law_remaining", "_law_found", "_law_node", "_law_other"]) (qual := "_law_moves") (scope := defScope (top 28)) (f := f) (cd := cd) (A := A) (outer := outer) (s := s) (H := H) (E := E)
  exact (ss_cons (s_set sc__law_moves.nd rfl (by first | exact Or.inl rfl | exact Or.inr rfl) (x_lst a_nil))
  (ss_cons (s_for owns_cx rfl (i_seq (x_var 1)) (g_name sc__law_moves.nd rfl (by first | exact Or.inl rfl | exact Or.inr rfl)) (ss_tidy [3, 4] (ss_one (s_set sc__law_moves.nd rfl (by first | exact Or.inl rfl | exact Or.inr rfl) (x_op op_addAll addM_ok (x_var 2) (x_lc (own := [("_law_other", 4)]) lcFin_ok rfl rfl sc__law_moves.nd (i_seq (x_var 1)) (blkOk_by (by kernel_rfl)) (fun _ _ _ _ _ => (g_name sc__law_moves.nd rfl (by first | exact Or.inl rfl | exact Or.inr rfl))) (fun _ _ _ _ _ => (ts_one (PW.pt (b_and (b_cmp (op_neD hr.units) neM_ok (x_var 4) (x_var 3)) (b_and1 (b_tru (x_call o__law_can_go (hr.mono (by omega)) takes0 (a_cons (x_var 0) (a_cons (x_var 1) (a_cons (x_var 3) (a_cons (x_var 4) a_nil))))))))))) (fun _ _ _ _ _ => (x_tup (a_cons (x_var 3) (a_cons (x_var 4) a_nil))))))))))
  (ss_one (s_ret (x_var 2)))))
theorem sc__law_is_evidence : FnScope ["_law_scopes_here", "_law_value", "_law_remaining", "_law_pair", "_law_one", "_law_node"] ["_law_scopes_here", "_law_value"] (defScope (top 29)) := ⟨rfl, rfl, rfl, by decide +kernel, rfl, by decide +kernel, by decide +kernel⟩
def m__law_is_evidence : SX := (sSeq (sIf (bOr (bNot (bTru (eOp1 (isiM "tuple") (eVar 1)))) (bOr (bVal (eOp2 (eqM true) (eCB lenM (aCons (eVar 1) aNil)) (eC (.int 2)))) (bNot (bTru (eOp1 (isiM "tuple") (eOp2 idxM (eVar 1) (eC (.int 1)))))))) (sRet (eC (.bool false))) sSkip)
  (sSeq (sSet 2 (eRg1 .l (eCB lenM (aCons (eVar 0) aNil))))
  (sSeq (sFor (iSeq (eOp2 idxM (eVar 1) (eC (.int 1)))) (.n 3) (sTidy [3, 4, 5] (sSeq (sIf (bOr (bNot (bTru (eOp1 (isiM "tuple") (eVar 3)))) (bOr (bVal (eOp2 (eqM true) (eCB lenM (aCons (eVar 3) aNil)) (eC (.int 2)))) (bNot (bTru (eCB (allM true) (aCons (eLc lcFin (iSeq (eVar 3)) (.n 4) bYes (eAnd (eCall 1 F__law_is_integer (aCons (eVar 4) aNil)) (eOp2 (inM false) (eVar 4) (eVar 2))) [4]) aNil)))))) (sRet (eC (.bool false))) sSkip)
  (sSeq (sIf (bOr (bVal (eOp2 (eqM false) (eOp2 idxM (eVar 3) (eC (.int 0))) (eOp2 idxM (eVar 3) (eC (.int 1))))) (bNot (bTru (eCall 4 F__law_can_go (aCons (eVar 0) (aCons (eVar 2) (aCons (eOp2 idxM (eVar 3) (eC (.int 0))) (aCons (eOp2 idxM (eVar 3) (eC (.int 1))) aNil)))))))) (sRet (eC (.bool false))) sSkip)
  (sSet 2 (eLc lcFin (iSeq (eVar 2)) (.n 5) (bVal (eOp2 (eqM true) (eVar 5) (eOp2 idxM (eVar 3) (eC (.int 0))))) (eVar 5) [5]))))))
  (sSeq (sIf (bVal (eOp2 (eqM false) (eOp2 idxM (eVar 1) (eC (.int 0))) (eC (.str "edges")))) (sRet (eOp2 (eqM false) (eCB lenM (aCons (eVar 2) aNil)) (eC (.int 1)))) sSkip)
  (sRet (eAnd (eOp2 (eqM false) (eOp2 idxM (eVar 1) (eC (.int 0))) (eC (.str "stuck"))) (eAnd (eOp2 gtM (eCB lenM (aCons (eVar 2) aNil)) (eC (.int 1))) (eOp2 (eqM false) (eCall 2 F__law_moves (aCons (eVar 0) (aCons (eVar 2) aNil))) (eLst aNil)))))))))
def F__law_is_evidence : FF := mkFn true 2 6 m__law_is_evidence
theorem ok__law_is_evidence (G : Globs mg) (F : FnP K "_law_is_evidence" (top 29) f fd) (hm : mg "_law_is_evidence" = some (.ref f)) (o__law_is_integer : OkD P w K mg base 1 "_law_is_integer" F__law_is_integer ["_law_actual"]) (o__law_can_go : OkD P w K mg base 1 "_law_can_go" F__law_can_go ["_law_scopes_here", "_law_remaining", "_law_node", "_law_other"]) (o__law_moves : OkD P w K mg base 2 "_law_moves" F__law_moves ["_law_scopes_here", "_law_remaining"]) : OkD P w K mg base 3 "_law_is_evidence" F__law_is_evidence ["_law_scopes_here", "_law_value"] := by
  refine OkD.mk F hm (FunD.bindsN F fun _ _ _ _ _ _ us hl => match us, hl with | [_, _], _ => rfl) sc__law_is_evidence rfl rfl fun cd A outer s H E hr => ?_
  have tk := takes_cx (P := P) (w := w) (K := K) (mg := mg) (base := base) (N := ["_law_scopes_here", "_law_value", "_law_remaining", "_law_pair", "_law_one", "_law_node"]) (qual := "_law_is_evidence") (scope := defScope (top 29)) (f := f) (cd := cd) (A := A) (outer := outer) (s := s) (H := H) (E := E)
  exact (ss_cons (s_if (PW.pt (b_or (b_not (b_tru (x_isi (by decide) G.n_isinstance G.n_tuple rfl (x_var 1)))) (b_or (b_cmp (op_neD hr.units) neM_ok (x_callB call_len lenM_ok G.n_len rfl (a_cons (x_var 1) a_nil)) x_int) (b_or1 (b_not (b_tru (x_isi (by decide) G.n_isinstance G.n_tuple rfl (x_ix (x_var 1) x_int)))))))) (ss_one (s_ret x_bl)) ss_nil)
  (ss_cons (s_set sc__law_is_evidence.nd rfl (by first | exact Or.inl rfl | exact Or.inr rfl) (x_listRg1 rfl G.n_list G.n_range (x_callB call_len lenM_ok G.n_len rfl (a_cons (x_var 0) a_nil))))
  (ss_cons (s_for owns_cx rfl (i_seq (x_ix (x_var 1) x_int)) (g_name sc__law_is_evidence.nd rfl (by first | exact Or.inl rfl | exact Or.inr rfl)) (ss_tidy [3, 4, 5] (ss_cons (s_if (PW.pt (b_or (b_not (b_tru (x_isi (by decide) G.n_isinstance G.n_tuple rfl (x_var 3)))) (b_or (b_cmp (op_neD hr.units) neM_ok (x_callB call_len lenM_ok G.n_len rfl (a_cons (x_var 3) a_nil)) x_int) (b_or1 (b_not (b_tru (x_callB (cr_all rfl) allM_ok G.n_all rfl (a_cons (x_lc (own := [("_law_one", 4)]) lcFin_ok rfl rfl sc__law_is_evidence.nd (i_seq (x_var 3)) (blkOk_by (by kernel_rfl)) (fun _ _ _ _ _ => (g_name sc__law_is_evidence.nd rfl (by first | exact Or.inl rfl | exact Or.inr rfl))) (fun _ _ _ _ _ => ts_nil) (fun _ _ _ _ _ => (x_and (x_call o__law_is_integer (hr.mono (by omega)) takes0 (a_cons (x_var 4) a_nil)) (x_one (x_cmp (op_inAll (u65 hr)) inM_ok (x_var 4) (x_var 2)))))) a_nil)))))))) (ss_one (s_ret x_bl)) ss_nil)
  (ss_cons (s_if (PW.pt (b_or (b_cmp (op_eqD hr.units) eqM_ok (x_ix (x_var 3) x_int) (x_ix (x_var 3) x_int)) (b_or1 (b_not (b_tru (x_call o__law_can_go (hr.mono (by omega)) tk (a_cons (x_var 0) (a_cons (x_var 2) (a_cons (x_ix (x_var 3) x_int) (a_cons (x_ix (x_var 3) x_int) a_nil)))))))))) (ss_one (s_ret x_bl)) ss_nil)
  (ss_one (s_set sc__law_is_evidence.nd rfl (by first | exact Or.inl rfl | exact Or.inr rfl) (x_lc (own := [("_law_node", 5)]) lcFin_ok rfl rfl sc__law_is_evidence.nd (i_seq (x_var 2)) (blkOk_by (by kernel_rfl)) (fun _ _ _ _ _ => (g_name sc__law_is_evidence.nd rfl (by first | exact Or.inl rfl | exact Or.inr rfl))) (fun _ _ _ _ _ => (ts_one (b_cmp (op_neD hr.units) neM_ok (x_var 5) (x_ix (x_var 3) x_int)))) (fun _ _ _ _ _ => (x_var 5)))))))))
  (ss_cons (s_if (b_cmp (op_eqD hr.units) eqM_ok (x_ix (x_var 1) x_int) x_str) (ss_one (s_ret (x_cmp (op_eqD hr.units) eqM_ok (x_callB call_len lenM_ok G.n_len rfl (a_cons (x_var 2) a_nil)) x_int))) ss_nil)
  (ss_one (s_ret (x_and (x_cmp (op_eqD hr.units) eqM_ok (x_ix (x_var 1) x_int) x_str) (x_and (x_cmp op_gt gtM_ok (x_callB call_len lenM_ok G.n_len rfl (a_cons (x_var 2) a_nil)) x_int) (x_one (x_cmp (op_eqD hr.units) eqM_ok (x_call o__law_moves (hr.mono (by omega)) tk (a_cons (x_var 0) (a_cons (x_var 2) a_nil))) (x_lst a_nil)))))))))))
theorem sc__law_drawn : FnScope ["_law_stream_here", "_law_scopes_here", "_law_remaining", "_law_gone", "_law_step", "_law_moves_here", "_law_pair", "_law_node"] ["_law_stream_here", "_law_scopes_here"] (defScope (top 30)) := ⟨rfl, rfl, rfl, by decide +kernel, rfl, by decide +kernel, by decide +kernel⟩
def m__law_drawn : SX := (sSeq (sSet 2 (eRg1 .l (eCB lenM (aCons (eVar 1) aNil))))
  (sSeq (sSet 3 (eTup aNil))
  (sSeq (sFor (iRg1 (eOp2 subM (eOp2 subM (eCB lenM (aCons (eVar 1) aNil)) (eC (.int 1))) (eCB intM1 (aCons (eOp2 (eqM false) (eCall 2 F__law_next (aCons (eVar 0) (aCons (eC (.int 4)) aNil))) (eC (.int 0))) aNil)))) (.n 4) (sTidy [4, 5, 6, 7] (sSeq (sSet 5 (eCall 2 F__law_moves (aCons (eVar 1) (aCons (eVar 2) aNil))))
  (sIf (bTru (eVar 5)) (sSeq (sSet 6 (eOp2 idxM (eVar 5) (eCall 2 F__law_next (aCons (eVar 0) (aCons (eCB lenM (aCons (eVar 5) aNil)) aNil)))))
  (sSeq (sSet 3 (eOp2 addM (eVar 3) (eTup (aCons (eVar 6) aNil))))
  (sSet 2 (eLc lcFin (iSeq (eVar 2)) (.n 7) (bVal (eOp2 (eqM true) (eVar 7) (eOp2 idxM (eVar 6) (eC (.int 0))))) (eVar 7) [7])))) sSkip))))
  (sRet (eTup (aCons (eOp2 idxM (eLst (aCons (eC (.str "stuck")) (aCons (eC (.str "edges")) aNil))) (eCB intM1 (aCons (eOp2 (eqM false) (eCB lenM (aCons (eVar 2) aNil)) (eC (.int 1))) aNil))) (aCons (eVar 3) aNil)))))))
def F__law_drawn : FF := mkFn true 2 8 m__law_drawn
theorem ok__law_drawn (G : Globs mg) (F : FnP K "_law_drawn" (top 30) f fd) (hm : mg "_law_drawn" = some (.ref f)) (o__law_next : OkD P w K mg base 1 "_law_next" F__law_next ["_law_stream_here", "_law_many"]) (o__law_moves : OkD P w K mg base 2 "_law_moves" F__law_moves ["_law_scopes_here", "_law_remaining"]) : OkD P w K mg base 3 "_law_drawn" F__law_drawn ["_law_stream_here", "_law_scopes_here"] := by
  refine OkD.mk F hm (FunD.bindsN F fun _ _ _ _ _ _ us hl => match us, hl with | [_, _], _ => rfl) sc__law_drawn rfl rfl fun cd A outer s H E hr => ?_
  have tk := takes_cx (P := P) (w := w) (K := K) (mg := mg) (base := base) (N := ["_law_stream_here", "_law_scopes_here", "_law_remaining", "_law_gone", "_law_step", "_law_moves_here", "_law_pair", "_law_node"]) (qual := "_law_drawn") (scope := defScope (top 30)) (f := f) (cd := cd) (A := A) (outer := outer) (s := s) (H := H) (E := E)
  exact (ss_cons (s_set sc__law_drawn.nd rfl (by first | exact Or.inl rfl | exact Or.inr rfl) (x_listRg1 rfl G.n_list G.n_range (x_callB call_len lenM_ok G.n_len rfl (a_cons (x_var 1) a_nil))))
  (ss_cons (s_set sc__law_drawn.nd rfl (by first | exact Or.inl rfl | exact Or.inr rfl) (x_tup a_nil))
  (ss_cons (s_for owns_cx rfl (i_rg1 G.n_range (x_op op_sub subM_ok (x_op op_sub subM_ok (x_callB call_len lenM_ok G.n_len rfl (a_cons (x_var 1) a_nil)) x_int) (x_callTy call_int1 intM1_ok G.n_int rfl (a_cons (x_cmp (op_eqD hr.units) eqM_ok (x_call o__law_next (hr.mono (by omega)) tk (a_cons (x_var 0) (a_cons x_int a_nil))) x_int) a_nil)))) (g_name sc__law_drawn.nd rfl (by first | exact Or.inl rfl | exact Or.inr rfl)) (ss_tidy [4, 5, 6, 7] (ss_cons (s_set sc__law_drawn.nd rfl (by first | exact Or.inl rfl | exact Or.inr rfl) (x_call o__law_moves (hr.mono (by omega)) tk (a_cons (x_var 1) (a_cons (x_var 2) a_nil))))
  (ss_one (s_if (b_tru (x_var 5)) (ss_cons (s_set sc__law_drawn.nd rfl (by first | exact Or.inl rfl | exact Or.inr rfl) (x_ix (x_var 5) (x_call o__law_next (hr.mono (by omega)) tk (a_cons (x_var 0) (a_cons (x_callB call_len lenM_ok G.n_len rfl (a_cons (x_var 5) a_nil)) a_nil)))))
  (ss_cons (s_set sc__law_drawn.nd rfl (by first | exact Or.inl rfl | exact Or.inr rfl) (x_op op_addAll addM_ok (x_var 3) (x_tup (a_cons (x_var 6) a_nil))))
  (ss_one (s_setLc (own := [("_law_node", 7)]) lcFin_ok rfl rfl sc__law_drawn.nd rfl rfl (sw_true rfl rfl rfl (by decide +kernel)) (i_seq (x_var 2)) (blkOk_by (by kernel_rfl)) (fun _ _ _ _ _ => (g_name sc__law_drawn.nd rfl (by first | exact Or.inl rfl | exact Or.inr rfl))) (fun _ _ _ _ _ => (ts_one (b_cmp (op_neD hr.units) neM_ok (x_var 7) (x_ix (x_var 6) x_int)))) (fun _ _ _ _ _ => (x_var 7)))))) ss_nil)))))
  (ss_one (s_ret (x_tup (a_cons (x_ix (x_lst (a_cons x_str (a_cons x_str a_nil))) (x_callTy call_int1 intM1_ok G.n_int rfl (a_cons (x_cmp (op_eqD hr.units) eqM_ok (x_callB call_len lenM_ok G.n_len rfl (a_cons (x_var 2) a_nil)) x_int) a_nil))) (a_cons (x_var 3) a_nil))))))))
theorem sc__law_turned : FnScope ["_law_stream_here", "_law_scopes_here", "_law_value", "_law_pick", "_law_word", "_law_rows", "_law_node", "_law_odd", "_law_at", "_law_options"] ["_law_stream_here", "_law_scopes_here", "_law_value"] (defScope (top 31)) := ⟨rfl, rfl, rfl, by decide +kernel, rfl, by decide +kernel, by decide +kernel⟩
def m__law_turned : SX := (sSeq (sSet 3 (eCall 2 F__law_next (aCons (eVar 0) (aCons (eC (.int 4)) aNil))))
  (sSeq (sPut (.t [(.n 4), (.n 5)]) (eVar 2))
  (sSeq (sSet 6 (eCall 2 F__law_next (aCons (eVar 0) (aCons (eCB lenM (aCons (eVar 1) aNil)) aNil))))
  (sSeq (sIf (bVal (eOp2 (eqM false) (eVar 3) (eC (.int 0)))) (sSeq (sSet 7 (eLst (aCons (eC .none) (aCons (eCB listM (aCons (eVar 2) aNil)) (aCons (eTup (aCons (eVar 4) aNil)) (aCons (eOp2 addM (eVar 2) (eTup (aCons (eC (.int 0)) aNil))) (aCons (eTup (aCons (eVar 5) (aCons (eVar 4) aNil))) (aCons (eTup (aCons (eVar 4) (aCons (eCB listM (aCons (eVar 5) aNil)) aNil))) (aCons (eTup (aCons (eVar 4) (aCons (eC .none) aNil))) (aCons (eTup (aCons (eC (.str "Edges")) (aCons (eVar 5) aNil))) (aCons (eTup (aCons (eOp2 idxM (eLst (aCons (eC (.str "edges")) (aCons (eC (.str "stuck")) aNil))) (eCB intM1 (aCons (eOp2 (eqM false) (eVar 4) (eC (.str "edges"))) aNil))) (aCons (eVar 5) aNil))) (aCons (eTup (aCons (eC .none) (aCons (eVar 5) aNil))) aNil))))))))))))
  (sRet (eOp2 idxM (eVar 7) (eCall 2 F__law_next (aCons (eVar 0) (aCons (eC (.int 10)) aNil)))))) sSkip)
  (sSeq (sIf (bAnd (bVal (eOp2 (eqM false) (eVar 3) (eC (.int 1)))) (bTru (eVar 5))) (sSeq (sSet 8 (eOp2 idxM (eLst (aCons (eC (.int 0)) (aCons (eOp2 divM (eCB lenM (aCons (eVar 5) aNil)) (eC (.int 2))) (aCons (eOp2 subM (eCB lenM (aCons (eVar 5) aNil)) (eC (.int 1))) aNil)))) (eCall 2 F__law_next (aCons (eVar 0) (aCons (eC (.int 3)) aNil)))))
  (sSeq (sSet 7 (eLst (aCons (eC .none) (aCons (eOp1 (revM none) (eOp2 idxM (eVar 5) (eVar 8))) (aCons (eTup (aCons (eOp2 idxM (eOp2 idxM (eVar 5) (eVar 8)) (eC (.int 0))) (aCons (eVar 6) aNil))) (aCons (eTup (aCons (eVar 6) (aCons (eOp2 idxM (eOp2 idxM (eVar 5) (eVar 8)) (eC (.int 1))) aNil))) (aCons (eTup (aCons (eVar 6) (aCons (eVar 6) aNil))) (aCons (eCB listM (aCons (eOp2 idxM (eVar 5) (eVar 8)) aNil)) (aCons (eTup (aCons (eOp2 idxM (eOp2 idxM (eVar 5) (eVar 8)) (eC (.int 0))) aNil)) (aCons (eTup (aCons (eC (.bool true)) (aCons (eVar 6) aNil))) (aCons (eTup (aCons (eVar 6) (aCons (eC .none) aNil))) (aCons (eTup (aCons (eOp2 idxM (eOp2 idxM (eVar 5) (eVar 8)) (eC (.int 0))) (aCons (eC (.int 9)) aNil))) (aCons (eTup (aCons (eOp1 negM (eC (.int 1))) (aCons (eVar 6) aNil))) aNil)))))))))))))
  (sSeq (sSet 9 (eLst (aCons (eCut (eVar 5) (oSome (eC (.int 1))) oNone) (aCons (eCut (eVar 5) oNone (oSome (eOp1 negM (eC (.int 1))))) (aCons (eOp1 (revM none) (eVar 5)) (aCons (eOp2 addM (eVar 5) (eCut (eVar 5) (oSome (eOp1 negM (eC (.int 1)))) oNone)) (aCons (eTup aNil) (aCons (eOp2 addM (eOp2 addM (eCut (eVar 5) oNone (oSome (eVar 8))) (eTup (aCons (eOp2 idxM (eVar 7) (eCall 2 F__law_next (aCons (eVar 0) (aCons (eC (.int 11)) aNil)))) aNil))) (eCut (eVar 5) (oSome (eOp2 addM (eVar 8) (eC (.int 1)))) oNone)) aNil))))))))
  (sRet (eTup (aCons (eVar 4) (aCons (eOp2 idxM (eVar 9) (eCall 2 F__law_next (aCons (eVar 0) (aCons (eC (.int 6)) aNil)))) aNil))))))) sSkip)
  (sRet (eVar 2)))))))
def F__law_turned : FF := mkFn true 3 10 m__law_turned
theorem ok__law_turned (G : Globs mg) (F : FnP K "_law_turned" (top 31) f fd) (hm : mg "_law_turned" = some (.ref f)) (o__law_next : OkD P w K mg base 1 "_law_next" F__law_next ["_law_stream_here", "_law_many"]) : OkD P w K mg base 2 "_law_turned" F__law_turned ["_law_stream_here", "_law_scopes_here", "_law_value"] := by
  refine OkD.mk F hm (FunD.bindsN F fun _ _ _ _ _ _ us hl => match us, hl with | [_, _, _], _ => rfl) sc__law_turned rfl rfl fun cd A outer s H E hr => ?_
  have tk := takes_cx (P := P) (w := w) (K := K) (mg := mg) (base := base) (N := ["_law_stream_here", "_law_scopes_here", "_law_value", "_law_pick", "_law_word", "_law_rows", "_law_node", "_law_odd", "_law_at", "_law_options"]) (qual := "_law_turned") (scope := defScope (top 31)) (f := f) (cd := cd) (A := A) (outer := outer) (s := s) (H := H) (E := E)
  exact (ss_cons (s_set sc__law_turned.nd rfl (by first | exact Or.inl rfl | exact Or.inr rfl) (x_call o__law_next (hr.mono (by omega)) tk (a_cons (x_var 0) (a_cons x_int a_nil))))
  (ss_cons (s_put (x_var 2) (g_tup rfl (g_cons (g_name sc__law_turned.nd rfl (by first | exact Or.inl rfl | exact Or.inr rfl)) (g_cons (g_name sc__law_turned.nd rfl (by first | exact Or.inl rfl | exact Or.inr rfl)) g_nil))))
  (ss_cons (s_set sc__law_turned.nd rfl (by first | exact Or.inl rfl | exact Or.inr rfl) (x_call o__law_next (hr.mono (by omega)) tk (a_cons (x_var 0) (a_cons (x_callB call_len lenM_ok G.n_len rfl (a_cons (x_var 1) a_nil)) a_nil))))
  (ss_cons (s_if (b_cmp (op_eqD hr.units) eqM_ok (x_var 3) x_int) (ss_cons (s_set sc__law_turned.nd rfl (by first | exact Or.inl rfl | exact Or.inr rfl) (x_lst (a_cons x_non (a_cons (x_callTy call_list_of listM_ok G.n_list rfl (a_cons (x_var 2) a_nil)) (a_cons (x_tup (a_cons (x_var 4) a_nil)) (a_cons (x_op op_addAll addM_ok (x_var 2) (x_tup (a_cons x_int a_nil))) (a_cons (x_tup (a_cons (x_var 5) (a_cons (x_var 4) a_nil))) (a_cons (x_tup (a_cons (x_var 4) (a_cons (x_callTy call_list_of listM_ok G.n_list rfl (a_cons (x_var 5) a_nil)) a_nil))) (a_cons (x_tup (a_cons (x_var 4) (a_cons x_non a_nil))) (a_cons (x_tup (a_cons x_str (a_cons (x_var 5) a_nil))) (a_cons (x_tup (a_cons (x_ix (x_lst (a_cons x_str (a_cons x_str a_nil))) (x_callTy call_int1 intM1_ok G.n_int rfl (a_cons (x_cmp (op_eqD hr.units) eqM_ok (x_var 4) x_str) a_nil))) (a_cons (x_var 5) a_nil))) (a_cons (x_tup (a_cons x_non (a_cons (x_var 5) a_nil))) a_nil))))))))))))
  (ss_one (s_ret (x_ix (x_var 7) (x_call o__law_next (hr.mono (by omega)) tk (a_cons (x_var 0) (a_cons x_int a_nil))))))) ss_nil)
  (ss_cons (s_if (PW.pt (b_and (b_cmp (op_eqD hr.units) eqM_ok (x_var 3) x_int) (b_and1 (b_tru (x_var 5))))) (ss_cons (s_set sc__law_turned.nd rfl (by first | exact Or.inl rfl | exact Or.inr rfl) (x_ix (x_lst (a_cons x_int (a_cons (x_op op_fdiv divM_ok (x_callB call_len lenM_ok G.n_len rfl (a_cons (x_var 5) a_nil)) x_int) (a_cons (x_op op_sub subM_ok (x_callB call_len lenM_ok G.n_len rfl (a_cons (x_var 5) a_nil)) x_int) a_nil)))) (x_call o__law_next (hr.mono (by omega)) tk (a_cons (x_var 0) (a_cons x_int a_nil)))))
  (ss_cons (s_set sc__law_turned.nd rfl (by first | exact Or.inl rfl | exact Or.inr rfl) (x_lst (a_cons x_non (a_cons (x_rev (x_ix (x_var 5) (x_var 8))) (a_cons (x_tup (a_cons (x_ix (x_ix (x_var 5) (x_var 8)) x_int) (a_cons (x_var 6) a_nil))) (a_cons (x_tup (a_cons (x_var 6) (a_cons (x_ix (x_ix (x_var 5) (x_var 8)) x_int) a_nil))) (a_cons (x_tup (a_cons (x_var 6) (a_cons (x_var 6) a_nil))) (a_cons (x_callTy call_list_of listM_ok G.n_list rfl (a_cons (x_ix (x_var 5) (x_var 8)) a_nil)) (a_cons (x_tup (a_cons (x_ix (x_ix (x_var 5) (x_var 8)) x_int) a_nil)) (a_cons (x_tup (a_cons x_bl (a_cons (x_var 6) a_nil))) (a_cons (x_tup (a_cons (x_var 6) (a_cons x_non a_nil))) (a_cons (x_tup (a_cons (x_ix (x_ix (x_var 5) (x_var 8)) x_int) (a_cons x_int a_nil))) (a_cons (x_tup (a_cons (x_neg x_int) (a_cons (x_var 6) a_nil))) a_nil)))))))))))))
  (ss_cons (s_set sc__law_turned.nd rfl (by first | exact Or.inl rfl | exact Or.inr rfl) (x_lst (a_cons (x_cut (x_var 5) (o_some x_int) o_none) (a_cons (x_cut (x_var 5) o_none (o_some (x_neg x_int))) (a_cons (x_rev (x_var 5)) (a_cons (x_op op_addAll addM_ok (x_var 5) (x_cut (x_var 5) (o_some (x_neg x_int)) o_none)) (a_cons (x_tup a_nil) (a_cons (x_op op_addAll addM_ok (x_op op_addAll addM_ok (x_cut (x_var 5) o_none (o_some (x_var 8))) (x_tup (a_cons (x_ix (x_var 7) (x_call o__law_next (hr.mono (by omega)) tk (a_cons (x_var 0) (a_cons x_int a_nil)))) a_nil))) (x_cut (x_var 5) (o_some (x_op op_addAll addM_ok (x_var 8) x_int)) o_none)) a_nil))))))))
  (ss_one (s_ret (x_tup (a_cons (x_var 4) (a_cons (x_ix (x_var 9) (x_call o__law_next (hr.mono (by omega)) tk (a_cons (x_var 0) (a_cons x_int a_nil)))) a_nil)))))))) ss_nil)
  (ss_one (s_ret (x_var 2))))))))
theorem sc_law : FnScope ["_law_script", "_law_stream_here", "_law_scopes_here", "_law_told", "_law_turn", "_law_value", "_law_answer"] ["_law_script"] (defScope (top 32)) := ⟨rfl, rfl, rfl, by decide +kernel, rfl, by decide +kernel, by decide +kernel⟩
def m_law : SX := (sSeq (sSet 1 (eCall 1 F__law_stream (aCons (eVar 0) aNil)))
  (sSeq (sSet 2 (eCall 3 F__law_scopes (aCons (eVar 1) (aCons (eC (.int 5)) (aCons (eC (.int 5)) aNil)))))
  (sSeq (sSet 3 (eCall 1 F_edge_evidence (aCons (eVar 2) aNil)))
  (sSeq (sIf (bVal (eOp2 (isBlM true) (eCall 2 F_accepts_removal (aCons (eVar 2) (aCons (eVar 3) aNil))) (eC (.bool true)))) (sRet (eC (.bool false))) sSkip)
  (sSeq (sFor (iRg1 (eC (.int 6))) (.n 4) (sTidy [4, 5, 6] (sSeq (sSet 5 (eCall 3 F__law_turned (aCons (eVar 1) (aCons (eVar 2) (aCons (eOp2 idxM (eLst (aCons (eVar 3) (aCons (eCall 2 F__law_drawn (aCons (eVar 1) (aCons (eVar 2) aNil))) aNil))) (eCall 2 F__law_next (aCons (eVar 1) (aCons (eC (.int 2)) aNil)))) aNil)))))
  (sSeq (sSet 6 (eCall 2 F_accepts_removal (aCons (eVar 2) (aCons (eVar 5) aNil))))
  (sIf (bOr (bNot (bTru (eCall 2 (F__law_equal 5) (aCons (eVar 6) (aCons (eCall 2 F__law_is_evidence (aCons (eVar 2) (aCons (eVar 5) aNil))) aNil))))) (bAnd (bTru (eVar 6)) (bVal (eOp2 (eqM true) (eOp2 idxM (eVar 5) (eC (.int 0))) (eOp2 idxM (eVar 3) (eC (.int 0))))))) (sRet (eC (.bool false))) sSkip)))))
  (sRet (eC (.bool true))))))))
def F_law : FF := mkFn true 1 7 m_law
theorem ok_law (G : Globs mg) (F : FnP K "law" (top 32) f fd) (o__law_stream : OkD P w K mg base 1 "_law_stream" F__law_stream ["_law_script"]) (o__law_scopes : OkD P w K mg base 2 "_law_scopes" F__law_scopes ["_law_stream_here", "_law_most", "_law_variables"]) (o_edge_evidence : OkD P w K mg base 6 "edge_evidence" F_edge_evidence ["scopes"]) (o_accepts_removal : OkD P w K mg base 6 "accepts_removal" F_accepts_removal ["scopes", "value"]) (o__law_turned : OkD P w K mg base 2 "_law_turned" F__law_turned ["_law_stream_here", "_law_scopes_here", "_law_value"]) (o__law_drawn : OkD P w K mg base 3 "_law_drawn" F__law_drawn ["_law_stream_here", "_law_scopes_here"]) (o__law_next : OkD P w K mg base 1 "_law_next" F__law_next ["_law_stream_here", "_law_many"]) (o__law_equal : OkD P w K mg base 7 "_law_equal" (F__law_equal 5) ["_law_actual", "_law_due"]) (o__law_is_evidence : OkD P w K mg base 3 "_law_is_evidence" F__law_is_evidence ["_law_scopes_here", "_law_value"]) : FnOk P w K mg base (L2.CX P w) 8 f fd ["_law_script"] (SpF K F_law 1) := by
  refine fn_mk F sc_law rfl rfl fun cd A outer s H E hr => ?_
  have tk := takes_cx (P := P) (w := w) (K := K) (mg := mg) (base := base) (N := ["_law_script", "_law_stream_here", "_law_scopes_here", "_law_told", "_law_turn", "_law_value", "_law_answer"]) (qual := "law") (scope := defScope (top 32)) (f := f) (cd := cd) (A := A) (outer := outer) (s := s) (H := H) (E := E)
  exact (ss_cons (s_set sc_law.nd rfl (by first | exact Or.inl rfl | exact Or.inr rfl) (x_call o__law_stream (hr.mono (by omega)) tk (a_cons (x_var 0) a_nil)))
  (ss_cons (s_set sc_law.nd rfl (by first | exact Or.inl rfl | exact Or.inr rfl) (x_call o__law_scopes (hr.mono (by omega)) tk (a_cons (x_var 1) (a_cons x_int (a_cons x_int a_nil)))))
  (ss_cons (s_set sc_law.nd rfl (by first | exact Or.inl rfl | exact Or.inr rfl) (x_call o_edge_evidence (hr.mono (by omega)) tk (a_cons (x_var 2) a_nil)))
  (ss_cons (s_if (b_cmp op_isnot_bl isntBlM_ok (x_call o_accepts_removal (hr.mono (by omega)) tk (a_cons (x_var 2) (a_cons (x_var 3) a_nil))) x_bl) (ss_one (s_ret x_bl)) ss_nil)
  (ss_cons (s_for owns_cx rfl (i_rg1 G.n_range x_int) (g_name sc_law.nd rfl (by first | exact Or.inl rfl | exact Or.inr rfl)) (ss_tidy [4, 5, 6] (ss_cons (s_set sc_law.nd rfl (by first | exact Or.inl rfl | exact Or.inr rfl) (x_call o__law_turned (hr.mono (by omega)) tk (a_cons (x_var 1) (a_cons (x_var 2) (a_cons (x_ix (x_lst (a_cons (x_var 3) (a_cons (x_call o__law_drawn (hr.mono (by omega)) tk (a_cons (x_var 1) (a_cons (x_var 2) a_nil))) a_nil))) (x_call o__law_next (hr.mono (by omega)) tk (a_cons (x_var 1) (a_cons x_int a_nil)))) a_nil)))))
  (ss_cons (s_set sc_law.nd rfl (by first | exact Or.inl rfl | exact Or.inr rfl) (x_call o_accepts_removal (hr.mono (by omega)) tk (a_cons (x_var 2) (a_cons (x_var 5) a_nil))))
  (ss_one (s_if (PW.pt (b_or (b_not (b_tru (x_call o__law_equal (hr.mono (by omega)) tk (a_cons (x_var 6) (a_cons (x_call o__law_is_evidence (hr.mono (by omega)) tk (a_cons (x_var 2) (a_cons (x_var 5) a_nil))) a_nil))))) (b_or1 (PW.pt (b_and (b_tru (x_var 6)) (b_and1 (b_cmp (op_neD hr.units) neM_ok (x_ix (x_var 5) x_int) (x_ix (x_var 3) x_int)))))))) (ss_one (s_ret x_bl)) ss_nil))))))
  (ss_one (s_ret x_bl)))))))
end
end Mir.K56

namespace Mir.K56
/-! ### removals: any order leads to the same word. S: which values stand at a node; R: the nodes that are left -/
section
variable (S : Int → Int → Prop)
/-- a may go in favour of b -/
def Go (R : List Int) (a b : Int) : Prop := ∀ v, S a v → (∃ o ∈ R, o ≠ a ∧ S o v) → S b v
inductive Red1 : List Int → Prop
  | one {R : List Int} : R.length = 1 → Red1 R
  | step {R : List Int} {a b : Int} : a ∈ R → b ∈ R → b ≠ a → Go S R a b → Red1 (R.filter (· ≠ a)) → Red1 R
variable {S}
theorem Go.less {R R' : List Int} {a b : Int} (h : Go S R a b) (hs : ∀ x ∈ R', x ∈ R) : Go S R' a b := fun v hv ⟨o, ho, hn, hov⟩ => h v hv ⟨o, hs o ho, hn, hov⟩
theorem fil_sub {R : List Int} {c : Int} : ∀ x ∈ R.filter (· ≠ c), x ∈ R := fun x hx => (List.mem_filter.mp hx).1
theorem mem_fil {R : List Int} {c x : Int} : x ∈ R.filter (· ≠ c) ↔ x ∈ R ∧ x ≠ c := by simp [List.mem_filter]
/-- a → b, b → d: a → d where b is gone -/
theorem Go.trans {R : List Int} {a b d : Int} (h1 : Go S R a b) (h2 : Go S R b d) (ha : a ∈ R) (hn : a ≠ b) : Go S (R.filter (· ≠ b)) a d := fun v hv ⟨o, ho, hno, hov⟩ => by
  have hb : S b v := h1 v hv ⟨o, fil_sub o ho, hno, hov⟩
  exact h2 v hb ⟨a, ha, hn, hv⟩
/-- two nodes that look the same from the others, put one for the other -/
def sw (a b x : Int) : Int := if x = a then b else x
theorem Red1.swap {a b : Int} {R : List Int} (h : Red1 S R) : (∀ o ∈ R, o ≠ a → ∀ v, S o v → (S a v ↔ S b v)) → b ∉ R → Red1 S (R.map (sw a b)) := by
  induction h with
  | one h => exact fun _ _ => .one (by simpa using h)
  | @step R c d hc hd hdc go _ ih =>
    intro look hb
    have cb : c ≠ b := fun e => hb (e ▸ hc)
    have db : d ≠ b := fun e => hb (e ▸ hd)
    have ih' := ih (fun o ho => look o (fil_sub o ho)) fun h => hb (fil_sub b h)
    have inj : ∀ x ∈ R, (sw a b x ≠ sw a b c) = (x ≠ c) := fun x hx => by
      have xb : x ≠ b := fun e => hb (e ▸ hx)
      unfold sw
      by_cases h1 : x = a <;> by_cases h2 : c = a <;> simp [h1, h2] <;> omega
    have e1 : (R.map (sw a b)).filter (· ≠ sw a b c) = (R.filter (· ≠ c)).map (sw a b) := by
      rw [List.filter_map]
      congr 1
      apply List.filter_congr
      intro x hx
      have := inj x hx
      simp only [Function.comp]
      by_cases h : x = c
      · subst h; simp
      · have : sw a b x ≠ sw a b c := by rw [this]; exact h
        simp [h, this]
    refine .step (a := sw a b c) (b := sw a b d) (List.mem_map.mpr ⟨c, hc, rfl⟩) (List.mem_map.mpr ⟨d, hd, rfl⟩) (by rw [inj d hd]; exact hdc) ?_ (by rw [e1]; exact ih')
    rintro v hv ⟨o', ho', hno, hov⟩
    obtain ⟨o, ho, rfl⟩ := List.mem_map.mp ho'
    rw [inj o ho] at hno
    have ob : o ≠ b := fun e => hb (e ▸ ho)
    by_cases hca : c = a
    · have da : d ≠ a := fun e => hdc (e.trans hca.symm)
      have oa : o ≠ a := fun e => hno (e.trans hca.symm)
      have e1 : sw a b c = b := by simp [sw, hca]
      have e2 : sw a b d = d := by simp [sw, da]
      have e3 : sw a b o = o := by simp [sw, oa]
      rw [e1] at hv; rw [e3] at hov; rw [e2]
      exact go v (by rw [hca]; exact (look o ho oa v hov).mpr hv) ⟨o, ho, hno, hov⟩
    · have e1 : sw a b c = c := by simp [sw, hca]
      rw [e1] at hv
      have hov' : S o v := by
        by_cases oa : o = a
        · have e3 : sw a b o = b := by simp [sw, oa]
          rw [e3] at hov; rw [oa]
          exact (look c hc hca v hv).mpr hov
        · have e3 : sw a b o = o := by simp [sw, oa]
          rw [e3] at hov; exact hov
      have hd' := go v hv ⟨o, ho, hno, hov'⟩
      by_cases da : d = a
      · have e2 : sw a b d = b := by simp [sw, da]
        rw [e2]
        exact (look c hc hca v hv).mp (by rw [← da]; exact hd')
      · have e2 : sw a b d = d := by simp [sw, da]
        rw [e2]; exact hd'
/-- the order of the rest says nothing -/
theorem Red1.perm {R R' : List Int} (h : Red1 S R) : R.Perm R' → Red1 S R' := by
  intro hp
  induction h generalizing R' with
  | one h => exact .one (by rw [← hp.length_eq]; exact h)
  | step hc hd hdc go _ ih => exact .step (hp.mem_iff.mp hc) (hp.mem_iff.mp hd) hdc (go.less fun x hx => hp.mem_iff.mpr hx) (ih (hp.filter _))
theorem fil_fil {R : List Int} {a c : Int} : (R.filter (· ≠ c)).filter (· ≠ a) = (R.filter (· ≠ a)).filter (· ≠ c) := by
  rw [List.filter_filter, List.filter_filter]
  congr 1
  funext x
  exact Bool.and_comm _ _
theorem len_fil {R : List Int} {a : Int} (nd : R.Nodup) (ha : a ∈ R) : (R.filter (· ≠ a)).length + 1 = R.length := by
  have e := nd.erase_eq_filter a
  have h := List.length_erase_of_mem ha
  have p : 0 < R.length := List.length_pos_of_mem ha
  have e2 : R.filter (fun x => x != a) = R.filter (· ≠ a) := List.filter_congr fun x _ => by by_cases h : x = a <;> simp [h]
  rw [← e2, ← e, h]
  omega
/-- one that may go, gone -/
theorem Red1.gone {R : List Int} (h : Red1 S R) : ∀ {a b : Int}, R.Nodup → a ∈ R → b ∈ R → b ≠ a → Go S R a b → Red1 S (R.filter (· ≠ a)) := by
  induction h with
  | one h =>
    intro a b nd ha hb hba _
    obtain ⟨x, rfl⟩ := List.length_eq_one_iff.mp h
    simp at ha hb
    exact absurd (hb.trans ha.symm) hba
  | @step R c d hc hd hdc go hr ih =>
    intro a b nd ha hb hba gab
    by_cases hca : c = a
    · subst hca; exact hr
    have nd' : (R.filter (· ≠ c)).Nodup := nd.sublist List.filter_sublist
    have ha' : a ∈ R.filter (· ≠ c) := mem_fil.mpr ⟨ha, fun e => hca e.symm⟩
    have hc' : c ∈ R.filter (· ≠ a) := mem_fil.mpr ⟨hc, hca⟩
    by_cases hbc : b = c
    · subst hbc
      by_cases hda : d = a
      · subst hda
        -- each in favour of the other
        have look : ∀ o ∈ R.filter (· ≠ b), o ≠ d → ∀ v, S o v → (S d v ↔ S b v) := fun o ho hod v hov => by
          obtain ⟨ho, hob⟩ := mem_fil.mp ho
          exact ⟨fun h => gab v h ⟨o, ho, hod, hov⟩, fun h => go v h ⟨o, ho, hob, hov⟩⟩
        have := hr.swap (a := d) (b := b) look fun h => (mem_fil.mp h).2 rfl
        refine this.perm ?_
        refine (List.perm_ext_iff_of_nodup ?_ (nd.sublist List.filter_sublist)).mpr fun x => ?_
        · refine List.pairwise_map.mpr (nd'.imp_of_mem fun {x y} hx hy ne e => ne ?_)
          have hxb := (mem_fil.mp hx).2
          have hyb := (mem_fil.mp hy).2
          unfold sw at e
          split at e <;> split at e <;> omega
        · rw [List.mem_map, mem_fil]
          constructor
          · rintro ⟨y, hy, rfl⟩
            obtain ⟨hy, hyb⟩ := mem_fil.mp hy
            unfold sw
            split
            · exact ⟨hb, hba⟩
            · exact ⟨hy, by assumption⟩
          · rintro ⟨hx, hxd⟩
            by_cases hxb : x = b
            · exact ⟨d, ha', by simp [sw, hxb]⟩
            · exact ⟨x, mem_fil.mpr ⟨hx, hxb⟩, by simp [sw, hxd]⟩
      · have h1 := ih nd' ha' (mem_fil.mpr ⟨hd, hdc⟩) hda (gab.trans go ha fun e => hba e.symm)
        rw [fil_fil] at h1
        exact .step hc' (mem_fil.mpr ⟨hd, hda⟩) hdc (go.less fil_sub) h1
    · have h1 := ih nd' ha' (mem_fil.mpr ⟨hb, hbc⟩) hba (gab.less fil_sub)
      rw [fil_fil] at h1
      by_cases hda : d = a
      · subst hda
        exact .step hc' (mem_fil.mpr ⟨hb, hba⟩) hbc (go.trans gab hc hca) h1
      · exact .step hc' (mem_fil.mpr ⟨hd, hda⟩) hdc (go.less fil_sub) h1
theorem Red1.iff {R : List Int} {a b : Int} (nd : R.Nodup) (ha : a ∈ R) (hb : b ∈ R) (hba : b ≠ a) (g : Go S R a b) : Red1 S R ↔ Red1 S (R.filter (· ≠ a)) := ⟨fun h => h.gone nd ha hb hba g, fun h => .step ha hb hba g h⟩
/-- nothing may go: reduced to one exactly if it is one -/
theorem Red1.stuck {R : List Int} (h : ∀ a ∈ R, ∀ b ∈ R, b ≠ a → ¬ Go S R a b) : Red1 S R ↔ R.length = 1 := ⟨fun q => by
  cases q with
  | one q => exact q
  | step ha hb hba g _ => exact absurd g (h _ ha _ hb hba), .one⟩
end
end Mir.K56

namespace Mir.K56
open PySem PySem.Spec PyProof.Rows L2
/-! ### the small functions -/
def isW (d : PyData) (lo hi : Int) : Bool := match d with
  | .int i => decide (lo ≤ i) && decide (i ≤ hi)
  | _ => false
def nd : PyData → Bool
  | .dict _ => false
  | _ => true
theorem q_is_whole (d : PyData) (lo hi : Int) (m : Hm) (h : nd d = true) : F_is_whole [.p d, .p (.int lo), .p (.int hi)] m = .ok (.p (.bool (isW d lo hi))) m := by
  unfold F_is_whole mkFn m_is_whole
  cases d with
  | int i =>
    by_cases h1 : lo ≤ i <;> by_cases h2 : i ≤ hi <;> simp [startE, isiM, tyN, isiA, isW, h1, h2, endFn_p]
  | dict => cases h
  | _ => simp [startE, isiM, tyN, isiA, isW, endFn_p]
theorem bne_fil {a : Int} {R : List Int} : (R.filter fun o => !o == a) = R.filter (· ≠ a) := List.filter_congr fun x _ => by by_cases h : x = a <;> simp [h]
/-! scopes -/
abbrev sd (s : List Int) : PyData := .tuple (s.map .int)
abbrev sc (S : List (List Int)) : PyData := .tuple (S.map sd)
def nth (S : List (List Int)) (n : Int) : List Int := (S[n.toNat]?).getD []
theorem nth_at {S : List (List Int)} {n : Int} (h0 : 0 ≤ n) (h1 : n < S.length) : atI (S.map sd) n = some (sd (nth S n)) := by
  obtain ⟨k, rfl⟩ := Int.eq_ofNat_of_zero_le h0
  have hk : k < S.length := by omega
  rw [atI_lit]
  simp [nth, hk]
def shr (S : List (List Int)) (R : List Int) (a : Int) : List Int := (nth S a).filter fun v => (R.filter (· ≠ a)).any fun o => decide (v ∈ nth S o)
def cg (S : List (List Int)) (R : List Int) (a b : Int) : Bool := (shr S R a).all fun v => decide (v ∈ nth S b)
structure Ok (S : List (List Int)) (R : List Int) : Prop where
  rng : ∀ x ∈ R, 0 ≤ x ∧ x < S.length
  len : R.length ≤ 64
  sh : ∀ s ∈ S, s.length ≤ 64
theorem nth_len {S : List (List Int)} {R : List Int} (k : Ok S R) (n : Int) : (nth S n).length ≤ 64 := by
  unfold nth
  cases h : S[n.toNat]? with
  | none => simp
  | some s => exact k.sh s (List.mem_of_getElem? h)
theorem q_shared {S : List (List Int)} {R : List Int} {m : Hm} {w : W} {a : Int} (k : Ok S R) (h : RL m w R) (ha0 : 0 ≤ a) (ha1 : a < S.length) : F_shared_with_others [.p (sc S), w, .p (.int a)] m = .ok (.p (.list ((shr S R a).map .int))) m := by
  obtain ⟨gs, hs, hg⟩ := h.src
  unfold F_shared_with_others mkFn m_shared_with_others
  simp [startE]
  rw [lc_data R (fun i => .p (.int i)) (fun o => !(o == a)) .int (gs := gs) (by simpa [iSeq] using hs) hg (by have := k.len; omega) fun x hx => ⟨_, rfl, by simp [wipeE], by simp [wipeE]⟩]
  simp
  rw [lc_data (nth S a) (fun i => .p (.int i)) (fun v => (R.filter fun o => !o == a).any fun o => decide (v ∈ nth S o)) .int (gs := []) (by simp [iSeq, nth_at ha0 ha1, srcOf, Function.comp_def]) rfl (by have := nth_len k a; omega) fun v hv => ⟨_, rfl, ?_, by simp [wipeE]⟩]
  · simp [shr, endFn_p, bne_fil]
  · simp [wipeE]
    rw [lc_map (R.filter fun o => !o == a) (fun i => .p (.int i)) (fun o => .bool (decide (v ∈ nth S o))) (gs := []) (by simp [iSeq, srcOf, Function.comp_def]) rfl (by have := List.length_filter_le (fun o => !o == a) R; have := k.len; omega) fun o ho => ⟨_, rfl, ?_⟩]
    · have := o_any (m := m) ((R.filter fun o => !o == a).map fun o => decide (v ∈ nth S o))
      simp [Function.comp_def] at this ⊢
      rw [this]; simp
    · have := k.rng o (List.mem_filter.mp ho).1
      simp [wipeE, nth_at this.1 this.2]
theorem q_can_go {S : List (List Int)} {R : List Int} {m : Hm} {w : W} {a b : Int} (k : Ok S R) (h : RL m w R) (ha : a ∈ R) (hb : b ∈ R) : F_can_go [.p (sc S), w, .p (.int a), .p (.int b)] m = .ok (.p (.bool (cg S R a b))) m := by
  unfold F_can_go mkFn m_can_go
  have ra := k.rng a ha
  have rb := k.rng b hb
  simp [startE]
  rw [lc_map (shr S R a) (fun i => .p (.int i)) (fun v => .bool (decide (v ∈ nth S b))) (gs := []) (by simp [iSeq, q_shared k h ra.1 ra.2, srcOf, Function.comp_def]) rfl (by have := List.length_filter_le (fun v => (R.filter (· ≠ a)).any fun o => decide (v ∈ nth S o)) (nth S a); have := nth_len k a; unfold shr; omega) fun v hv => ⟨_, rfl, by simp [wipeE, nth_at rb.1 rb.2]⟩]
  have := o_all (m := m) ((shr S R a).map fun v => decide (v ∈ nth S b))
  simp [Function.comp_def] at this ⊢
  rw [this]
  simp [endFn_p, cg]
abbrev pr (a b : Int) : W := .p (.tuple [.int a, .int b])
def np1 (S : List (List Int)) (R : List Int) (m : Hm) (a : Int) (_ : Unit) (b : Int) : Unit ⊕ (W × Hm) := if (!(b == a) && cg S R a b) = true then .inr (pr a b, m) else .inl ()
def np2 (S : List (List Int)) (R : List Int) (m : Hm) (_ : Unit) (a : Int) : Unit ⊕ (W × Hm) := loopE (np1 S R m a) R ()
theorem np_inr {S : List (List Int)} {R : List Int} {m : Hm} {q : W × Hm} (h : loopE (np2 S R m) R () = .inr q) : ∃ a ∈ R, ∃ b ∈ R, b ≠ a ∧ cg S R a b = true ∧ q = (pr a b, m) := by
  obtain ⟨a, ha, h⟩ := loopU_inr h
  obtain ⟨b, hb, h⟩ := loopU_inr h
  unfold np1 at h
  split at h
  · rename_i c
    rw [Bool.and_eq_true, Bool.not_eq_true', beq_eq_false_iff_ne] at c
    cases h
    exact ⟨a, ha, b, hb, c.1, c.2, rfl⟩
  · cases h
theorem np_inl {S : List (List Int)} {R : List Int} {m : Hm} {u : Unit} (h : loopE (np2 S R m) R () = .inl u) : ∀ a ∈ R, ∀ b ∈ R, b ≠ a → cg S R a b = false := by
  intro a ha b hb hba
  have h := loopU_inl (loopU_inl h a ha) b hb
  unfold np1 at h
  split at h
  · cases h
  · rename_i c
    simpa [hba] using c
theorem q_next_pair {S : List (List Int)} {R : List Int} {m : Hm} {w : W} (k : Ok S R) (h : RL m w R) : ((∀ a ∈ R, ∀ b ∈ R, b ≠ a → cg S R a b = false) ∧ F_next_pair [.p (sc S), w] m = .ok (.p .none) m) ∨
    ∃ a ∈ R, ∃ b ∈ R, b ≠ a ∧ cg S R a b = true ∧ F_next_pair [.p (sc S), w] m = .ok (pr a b) m := by
  obtain ⟨gs, hs, hg⟩ := h.src
  have e : F_next_pair [.p (sc S), w] m = (match loopE (np2 S R m) R () with
    | .inl _ => .ok (.p .none) m
    | .inr (w, m1) => endFn true m.length w m1) := by
    unfold F_next_pair mkFn m_next_pair
    simp [startE, iSeq, hs]
    rw [for_rw (np2 S R m) (fun _ : Unit => [some (.p (sc S)), some w, none, none]) (fun _ => m) (fun _ => True) () rfl rfl (fun _ _ => hg) (fun _ a ha _ => ⟨⟨_, rfl, ?_⟩, fun _ _ => trivial⟩) trivial]
    · cases loopE (np2 S R m) R () with
      | inl u => simp [outE, endFn_p]
      | inr p => simp [outE]
    · simp [iSeq, hs]
      rw [for_rw (np1 S R m a) (fun _ : Unit => [some (.p (sc S)), some w, some (.p (.int a)), none]) (fun _ => m) (fun _ => True) () rfl rfl (fun _ _ => hg) (fun _ b hb _ => ⟨⟨_, rfl, ?_⟩, fun _ _ => trivial⟩) trivial]
      · unfold np2
        cases loopE (np1 S R m a) R () with
        | inl u => simp [outE, wipeE]
        | inr p => simp [outE]
      · have e1 := q_can_go k h ha hb
        by_cases c1 : b = a
        · simp [np1, c1, outE, wipeE]
        · cases c2 : cg S R a b
          · simp [np1, c1, c2, outE, wipeE, e1]
          · simp [np1, c1, c2, outE, wipeE, e1, mkTup, sizeLine_eq]
  rw [e]
  cases q : loopE (np2 S R m) R () with
  | inl u => exact .inl ⟨np_inl q, rfl⟩
  | inr p =>
    obtain ⟨a, ha, b, hb, h1, h2, rfl⟩ := np_inr q
    exact .inr ⟨a, ha, b, hb, h1, h2, by simp [endFn_p]⟩
end Mir.K56

namespace Mir.K56
open PySem PySem.Spec PyProof.Rows L2
/-- one step of a removal -/
def stepB (S : List (List Int)) (R : List Int) (p : PyData) : Option (List Int) := match p with
  | .tuple [.int i, .int j] => if i ≠ j ∧ i ∈ R ∧ j ∈ R ∧ cg S R i j = true then some (R.filter (· ≠ i)) else none
  | _ => none
structure Okr (S : List (List Int)) (R : List Int) : Prop extends Ok S R where
  nd : R.Nodup
theorem Okr.fil {S : List (List Int)} {R : List Int} (k : Okr S R) (i : Int) : Okr S (R.filter (· ≠ i)) :=
  ⟨⟨fun x hx => k.rng x (List.mem_filter.mp hx).1, Nat.le_trans (List.length_filter_le _ _) k.len, k.sh⟩, k.nd.sublist List.filter_sublist⟩
theorem Okr.erase {S : List (List Int)} {R : List Int} (k : Okr S R) (i : Int) : R.erase i = R.filter (· ≠ i) := by
  rw [k.nd.erase_eq_filter i]
  exact List.filter_congr fun x _ => by by_cases h : x = i <;> simp [h]
theorem okr_rg {S : List (List Int)} (h : S.length ≤ 5) (hs : ∀ s ∈ S, s.length ≤ 64) : Okr S (rgI S.length) := by
  refine ⟨⟨fun x hx => ?_, by simp [rgI]; omega, hs⟩, ?_⟩
  · obtain ⟨i, hi, rfl⟩ := List.mem_map.mp hx
    have := List.mem_range.mp hi
    omega
  · exact List.pairwise_map.mpr (List.nodup_range.imp fun h e => h (by omega))
def pairsOf : PyData → List PyData
  | .tuple ps => ps
  | _ => []
def isTu : PyData → Bool
  | .tuple _ => true
  | _ => false
def remB (S : List (List Int)) (v : PyData) : Option (List Int) := match v with
  | .tuple ps => if ps.length < S.length then ps.foldlM (stepB S) (rgI S.length) else none
  | _ => none
def stL (S : List (List Int)) (x : Cell) (R : List Int) (p : PyData) : List Int ⊕ (W × Hm) := match stepB S R p with
  | some R' => .inl R'
  | none => .inr (.p .none, [x, .lst (R.map fun i => .p (.int i))])
theorem loop_stL {S : List (List Int)} {x : Cell} : ∀ (ps : List PyData) (R : List Int), (match ps.foldlM (stepB S) R with
    | some R' => loopE (stL S x) ps R = .inl R'
    | none => ∃ m, loopE (stL S x) ps R = .inr (.p .none, m) ∧ ∃ R' : List Int, m = [x, .lst (R'.map fun i => .p (.int i))]) := by
  intro ps
  induction ps with
  | nil => intro R; simp [loopE]
  | cons p ps ih =>
    intro R
    simp only [List.foldlM_cons, loopE, stL]
    cases h : stepB S R p with
    | some R' => exact ih R'
    | none => exact ⟨_, rfl, R, rfl⟩
theorem lay_mem {ps : List PyData} (h : PyData.canLayAll0 ps = true) : ∀ p ∈ ps, p.canLay0 = true := by
  induction ps with
  | nil => intro p hp; cases hp
  | cons q ps ih =>
    unfold PyData.canLayAll0 at h
    rw [Bool.and_eq_true] at h
    intro p hp
    rcases List.mem_cons.mp hp with rfl | hp
    · exact h.1
    · exact ih h.2 p hp
theorem nd_lay {p : PyData} (h : p.canLay0 = true) : nd p = true := by
  cases p with
  | dict => cases h
  | _ => rfl
def bodyR : SX := (sTidy [3, 4] (sSeq (sIf (bOr (bNot (bTru (eOp1 (isiM "tuple") (eVar 3)))) (bVal (eOp2 (eqM true) (eCB lenM (aCons (eVar 3) aNil)) (eC (.int 2))))) (sRet (eC .none)) sSkip)
  (sSeq (sIf (bNot (bTru (eCB (allM true) (aCons (eLc lcFin (iSeq (eVar 3)) (.n 4) bYes (eCall 3 F_is_whole (aCons (eVar 4) (aCons (eC (.int 0)) (aCons (eOp2 subM (eCB lenM (aCons (eVar 0) aNil)) (eC (.int 1))) aNil)))) [4]) aNil)))) (sRet (eC .none)) sSkip)
  (sSeq (sIf (bOr (bVal (eOp2 (eqM false) (eOp2 idxM (eVar 3) (eC (.int 0))) (eOp2 idxM (eVar 3) (eC (.int 1))))) (bOr (bVal (eOp2 (inM true) (eOp2 idxM (eVar 3) (eC (.int 0))) (eVar 2))) (bVal (eOp2 (inM true) (eOp2 idxM (eVar 3) (eC (.int 1))) (eVar 2))))) (sRet (eC .none)) sSkip)
  (sSeq (sIf (bNot (bTru (eCall 4 F_can_go (aCons (eVar 0) (aCons (eVar 2) (aCons (eOp2 idxM (eVar 3) (eC (.int 0))) (aCons (eOp2 idxM (eVar 3) (eC (.int 1))) aNil))))))) (sRet (eC .none)) sSkip)
  (sExpr (eLM removeM (eVar 2) (aCons (eOp2 idxM (eVar 3) (eC (.int 0))) aNil))))))))
abbrev hpR (x : Cell) (R : List Int) : Hm := [x, .lst (R.map fun i => .p (.int i))]
abbrev evR (S : List (List Int)) (v : PyData) : Ev := [some (.p (sc S)), some (.p v), some (.loc 1), none, none]
theorem body_R {S : List (List Int)} {x : Cell} {v p : PyData} {R : List Int} (k : Okr S R) (hp : p.canLay0 = true) : bodyR [some (.p (sc S)), some (.p v), some (.loc 1), some (.p p), none] (hpR x R) = outE (fun _ => evR S v) (hpR x) (stL S x R p) := by
  have rl : RL (hpR x R) (.loc 1) R := .inr ⟨1, rfl, rfl⟩
  unfold bodyR
  cases p with
  | tuple ps =>
    by_cases h2 : ps.length = 2
    · obtain ⟨d, e, rfl⟩ : ∃ d e, ps = [d, e] := by
        match ps, h2 with
        | [d, e], _ => exact ⟨d, e, rfl⟩
      have hd := nd_lay (lay_mem hp d (by simp))
      have he := nd_lay (lay_mem hp e (by simp))
      have e0 : eLc lcFin (iSeq (eVar 3)) (.n 4) bYes (eCall 3 F_is_whole (aCons (eVar 4) (aCons (eC (.int 0)) (aCons (eOp2 subM (eCB lenM (aCons (eVar 0) aNil)) (eC (.int 1))) aNil)))) [4] [some (.p (sc S)), some (.p v), some (.loc 1), some (.p (.tuple [d, e])), none] (hpR x R) =
          .ok (.p (.list ([d, e].map fun z => .bool (isW z 0 ((S.length : Int) - 1))))) (hpR x R) := lc_map [d, e] .p (fun z => .bool (isW z 0 ((S.length : Int) - 1))) (gs := []) (by simp) rfl (by simp) fun z hz => ⟨_, rfl, by
        have hz' : nd z = true := by simp at hz; rcases hz with rfl | rfl <;> assumption
        simp [wipeE, q_is_whole _ _ _ _ hz']⟩
      have e1 := o_all (m := hpR x R) ([d, e].map fun z => isW z 0 ((S.length : Int) - 1))
      simp only [List.map_map, Function.comp_def] at e1
      cases hb : (isW d 0 ((S.length : Int) - 1) && isW e 0 ((S.length : Int) - 1)) with
      | false =>
        have : stL S x R (.tuple [d, e]) = .inr (.p .none, hpR x R) := by
          unfold stL
          have : stepB S R (.tuple [d, e]) = none := by
            cases d <;> cases e <;> try rfl
            rename_i i j
            unfold stepB
            simp only
            rw [if_neg]
            rintro ⟨_, hi, hj, _⟩
            have := k.rng i hi
            have := k.rng j hj
            have : (isW (.int i) 0 ((S.length : Int) - 1) && isW (.int j) 0 ((S.length : Int) - 1)) = true := by simp [isW]; omega
            rw [this] at hb; cases hb
          rw [this]
        simp only [List.map_cons, List.map_nil] at e0 e1
        simp [isiM, tyN, isiA, e0, e1, hb, this, outE]
      | true =>
        obtain ⟨i, rfl⟩ : ∃ i, d = .int i := by
          cases d <;> first | exact ⟨_, rfl⟩ | (simp [isW] at hb)
        obtain ⟨j, rfl⟩ : ∃ i, e = .int i := by
          cases e <;> first | exact ⟨_, rfl⟩ | (simp [isW] at hb)
        simp only [List.map_cons, List.map_nil] at e0 e1
        obtain ⟨w1, w2⟩ := Bool.and_eq_true_iff.mp hb
        simp only [w1, w2] at e0 e1
        by_cases c1 : i = j
        · subst c1
          simp [isiM, tyN, isiA, e0, e1, outE, stL, stepB]
        · by_cases c2 : i ∈ R
          · by_cases c3 : j ∈ R
            · have c5 := q_can_go k.toOk rl c2 c3
              cases c4 : cg S R i j
              · simp [isiM, tyN, isiA, e0, e1, outE, stL, stepB, c1, c2, c3, c4, c5, (rl.inn i).2, (rl.inn j).2]
              · have c6 := o_remove (m := hpR x R) (n := 1) (ns := R) rfl c2
                simp [isiM, tyN, isiA, e0, e1, outE, stL, stepB, c1, c2, c3, c4, c5, c6, (rl.inn i).2, (rl.inn j).2, lstAt_loc (m := hpR x R) (n := 1) rfl, tidy_len, k.erase]
                rfl
            · simp [isiM, tyN, isiA, e0, e1, outE, stL, stepB, c1, c2, c3, (rl.inn i).2, (rl.inn j).2]
          · simp [isiM, tyN, isiA, e0, e1, outE, stL, stepB, c1, c2, (rl.inn i).2, (rl.inn j).2]
    · have : stL S x R (.tuple ps) = .inr (.p .none, hpR x R) := by
        match ps, h2 with
        | [], _ => simp [stL, stepB]
        | [_], _ => simp [stL, stepB]
        | _ :: _ :: _ :: _, _ => simp [stL, stepB]
      have h2' : ¬ (ps.length : Int) = 2 := by omega
      simp [isiM, tyN, isiA, h2', this, outE]
  | dict => cases hp
  | _ => simp [isiM, tyN, isiA, stL, stepB, outE]
theorem q_remaining {S : List (List Int)} {x : Cell} {v : PyData} (h5 : S.length ≤ 5) (hs : ∀ s ∈ S, s.length ≤ 64) (hx : okC 1 x = true) (hv : v.canLay0 = true) : F_remaining_behind [.p (sc S), .p v] [x] = .ok (match remB S v with
    | some R => .p (.list (R.map .int))
    | none => .p .none) [x] := by
  unfold F_remaining_behind mkFn m_remaining_behind
  cases v with
  | tuple ps =>
    by_cases hl : ps.length < S.length
    · have hl' : ¬ (S.length : Int) ≤ ps.length := by omega
      simp [startE, isiM, tyN, isiA, hl']
      rw [rg_c (by omega)]
      simp
      rw [← bodyR]
      rw [for_rw (stL S x) (fun _ => evR S (.tuple ps)) (hpR x) (Okr S) (rgI S.length) rfl rfl (fun _ _ => rfl) (fun R p hp k => ⟨⟨_, rfl, body_R k (lay_mem hv p hp)⟩, fun R' e => ?_⟩) (okr_rg h5 hs)]
      · have := loop_stL (S := S) (x := x) ps (rgI S.length)
        simp only [remB, hl, if_true]
        cases e : ps.foldlM (stepB S) (rgI S.length) with
        | some R' =>
          rw [e] at this
          simp [this, outE]
          exact end1_l (z := []) hx (Nat.le_refl _) rfl
        | none =>
          rw [e] at this
          obtain ⟨m, h1, R', rfl⟩ := this
          simp [h1, outE]
          exact end1_p hx
      · unfold stL at e
        cases h : stepB S R p with
        | none => rw [h] at e; cases e
        | some R2 =>
          rw [h] at e; cases e
          unfold stepB at h
          split at h
          · split at h
            · cases h; exact k.fil _
            · cases h
          · cases h
    · have hl' : (S.length : Int) ≤ ps.length := by omega
      simp [startE, isiM, tyN, isiA, hl', remB, hl]
      exact endFn_p (m := [x])
  | dict => cases hv
  | _ => simp [startE, isiM, tyN, isiA, remB]; exact endFn_p (m := [x])
end Mir.K56

namespace Mir.K56
open PySem PySem.Spec PyProof.Rows L2
/-! ### the scopes are scopes -/
structure GoodS (S : List (List Int)) : Prop where
  lo : 1 ≤ S.length
  hi : S.length ≤ 5
  len : ∀ s ∈ S, s.length ≤ 3
  up : ∀ s ∈ S, s.Pairwise (· < ·)
  rng : ∀ s ∈ S, ∀ v ∈ s, 0 ≤ v ∧ v ≤ 5
theorem all_true {m : Hm} {α : Type} (xs : List α) : allM true [.p (.list (xs.map fun _ => .bool true))] m = .ok (.p (.bool true)) m := by
  have := o_all (m := m) (xs.map fun _ => true)
  simp only [List.map_map, Function.comp_def] at this
  rw [this]
  simp
theorem q_climb {s : List Int} {m : Hm} (hs : s.Pairwise (· < ·)) (hl : s.length ≤ 64) : F_is_climbing [.p (sd s)] m = .ok (.p (.bool true)) m := by
  unfold F_is_climbing mkFn m_is_climbing
  cases s with
  | nil =>
    simp [startE]
    rw [lc_map ([] : List Int) (fun i => .p (.int i)) (fun _ => .bool true) (gs := []) (by simp [rgP]) rfl (by simp) fun z hz => by cases hz]
    simp [all_true]
    have := all_true (m := m) ([] : List Int)
    simp at this
    simp [this, endFn_p]
  | cons a s =>
    have e : ((s.length + 1 : Nat) : Int) - 1 = (s.length : Nat) := by omega
    have hl : s.length ≤ 63 := by simpa using hl
    simp [startE]
    rw [lc_map (rgI s.length) (fun i => .p (.int i)) (fun _ => .bool true) (gs := []) (by
      have := rg_it (n := s.length) (m := m) (by omega)
      simp at this ⊢
      exact this) rfl (by simp [rgI]; omega) fun z hz => ⟨_, rfl, ?_⟩]
    · simp [all_true, endFn_p]
    · obtain ⟨i, hi, rfl⟩ := List.mem_map.mp hz
      have hi := List.mem_range.mp hi
      have e1 : atI (.int a :: s.map PyData.int) (i : Int) = some (.int ((a :: s)[i]'(by simp; omega))) := by
        rw [atI_lit, ← List.map_cons, List.getElem?_map, List.getElem?_eq_getElem (by simp; omega)]; rfl
      have e2 : atI (.int a :: s.map PyData.int) ((i : Int) + 1) = some (.int ((a :: s)[i + 1]'(by simp; omega))) := by
        rw [show (i : Int) + 1 = ((i + 1 : Nat) : Int) from rfl, atI_lit, ← List.map_cons, List.getElem?_map, List.getElem?_eq_getElem (by simp; omega)]; rfl
      have lt := List.pairwise_iff_getElem.mp hs i (i + 1) (by simp; omega) (by simp; omega) (by omega)
      simp [wipeE, e1, e2]
      simpa using lt
theorem q_vars {s : List Int} {m : Hm} (hs : s.Pairwise (· < ·)) (hl : s.length ≤ 64) (hr : ∀ v ∈ s, 0 ≤ v ∧ v ≤ 5) : F_are_variables [.p (sd s)] m = .ok (.p (.bool true)) m := by
  unfold F_are_variables mkFn m_are_variables
  simp [startE, isiM, tyN, isiA]
  rw [lc_map s (fun i => .p (.int i)) (fun _ => .bool true) (gs := []) (by simp [Function.comp_def]) rfl (by omega) fun z hz => ⟨_, rfl, by
    have := hr z hz
    simp [wipeE, q_is_whole (.int z) 0 5 m rfl, isW, this.1, this.2]⟩]
  simp [all_true, q_climb hs hl, endFn_p]
theorem q_scope {s : List Int} {m : Hm} (hs : s.Pairwise (· < ·)) (hl : s.length ≤ 3) (hr : ∀ v ∈ s, 0 ≤ v ∧ v ≤ 5) : F_is_scope [.p (sd s)] m = .ok (.p (.bool true)) m := by
  unfold F_is_scope mkFn m_is_scope
  have : (s.length : Int) ≤ 3 := by omega
  simp [startE, q_vars hs (by omega) hr, this, endFn_p]
theorem q_check {S : List (List Int)} {m : Hm} (g : GoodS S) : F_check_scopes [.p (sc S)] m = .ok (.p .none) m := by
  have e : F_are_scopes [.p (sc S)] m = .ok (.p (.bool true)) m := by
    unfold F_are_scopes mkFn m_are_scopes
    have h1 : (1 : Int) ≤ S.length := by have := g.lo; omega
    have h2 : (S.length : Int) ≤ 5 := by have := g.hi; omega
    simp [startE, isiM, tyN, isiA, h1, h2]
    rw [lc_map S (fun s => .p (sd s)) (fun _ => .bool true) (gs := []) (by simp [Function.comp_def]) rfl (by have := g.hi; omega) fun z hz => ⟨_, rfl, by
      simp [wipeE, q_scope (g.up z hz) (g.len z hz) (g.rng z hz)]⟩]
    simp [all_true, endFn_p]
  unfold F_check_scopes mkFn m_check_scopes
  simp [startE, e, endFn_p]
theorem GoodS.sh {S : List (List Int)} (g : GoodS S) : ∀ s ∈ S, s.length ≤ 64 := fun s hs => by have := g.len s hs; omega
end Mir.K56

namespace Mir.K56
open PySem PySem.Spec PyProof.Rows L2
/-! ### the returned evidence -/
def Irr (S : List (List Int)) (R : List Int) : Prop := ∀ a ∈ R, ∀ b ∈ R, b ≠ a → cg S R a b = false
inductive Ch (S : List (List Int)) : List Int → List PyData → List Int → Prop
  | nil (R : List Int) : Ch S R [] R
  | cons {R T : List Int} {a b : Int} {ps : List PyData} : a ∈ R → b ∈ R → b ≠ a → cg S R a b = true → Ch S (R.filter (· ≠ a)) ps T → Ch S R (.tuple [.int a, .int b] :: ps) T
abbrev hpE (x : Cell) (R : List Int) (F : List PyData) : Hm := [x, .lst (R.map fun i => .p (.int i)), .lst (F.map .p)]
theorem wh_E {S : List (List Int)} {x : Cell} : ∀ (n : Nat) (R : List Int) (F : List PyData) (w : W), Okr S R → R.length ≤ n → F.length + R.length ≤ 64 → ((w = .p .none ∧ Irr S R) ∨ ∃ a ∈ R, ∃ b ∈ R, b ≠ a ∧ cg S R a b = true ∧ w = pr a b) →
    ∃ T ps, whGo (bVal (eOp2 (isNoneM true) (eVar 3) (eC .none))) (sTidy [] (sSeq (sExpr (eLM removeM (eVar 1) (aCons (eOp2 idxM (eVar 3) (eC (.int 0))) aNil)))
        (sSeq (sExpr (eLM appendM (eVar 2) (aCons (eVar 3) aNil))) (sSet 3 (eCall 2 F_next_pair (aCons (eVar 0) (aCons (eVar 1) aNil))))))) (n + 1) [some (.p (sc S)), some (.loc 1), some (.loc 2), some w] (hpE x R F) =
      some (.nx [some (.p (sc S)), some (.loc 1), some (.loc 2), some (.p .none)], hpE x T (F ++ ps)) ∧ Ch S R ps T ∧ Irr S T := by
  intro n
  induction n with
  | zero =>
    intro R F w k hl hf h
    rcases h with ⟨rfl, irr⟩ | ⟨a, ha, _⟩
    · exact ⟨R, [], by simp [whGo], .nil R, irr⟩
    · have := List.length_pos_of_mem ha; omega
  | succ n ih =>
    intro R F w k hl hf h
    rcases h with ⟨rfl, irr⟩ | ⟨a, ha, b, hb, hba, hc, rfl⟩
    · exact ⟨R, [], by simp [whGo], .nil R, irr⟩
    · have k' := k.fil a
      have l' := len_fil k.nd ha
      have e1 := o_remove (m := hpE x R F) (n := 1) (ns := R) rfl ha
      rw [k.erase] at e1
      have e2 := o_append (m := hpE x (R.filter (· ≠ a)) F) (n := 2) (ws := F.map .p) (y := pr a b) rfl (by simp; omega)
      have chc : ∀ {ps : List PyData} {T : List Int}, Ch S (R.filter (· ≠ a)) ps T → Ch S R (.tuple [.int a, .int b] :: ps) T := fun h => .cons ha hb hba hc h
      generalize R.filter (· ≠ a) = R' at k' l' e1 e2 chc
      have rl : RL (hpE x R' (F ++ [.tuple [.int a, .int b]])) (.loc 1) R' := .inr ⟨1, rfl, rfl⟩
      have np := q_next_pair k'.toOk rl
      obtain ⟨w', hw, e3⟩ : ∃ w', ((w' = .p .none ∧ Irr S R') ∨ ∃ a' ∈ R', ∃ b' ∈ R', b' ≠ a' ∧ cg S R' a' b' = true ∧ w' = pr a' b') ∧
          F_next_pair [.p (sc S), .loc 1] (hpE x R' (F ++ [.tuple [.int a, .int b]])) = .ok w' (hpE x R' (F ++ [.tuple [.int a, .int b]])) := by
        rcases np with ⟨h1, h2⟩ | ⟨a', h1, b', h2, h3, h4, h5⟩
        · exact ⟨_, .inl ⟨rfl, h1⟩, h2⟩
        · exact ⟨_, .inr ⟨a', h1, b', h2, h3, h4, rfl⟩, h5⟩
      obtain ⟨T, ps, q1, q2, q3⟩ := ih R' (F ++ [.tuple [.int a, .int b]]) w' k' (by omega) (by simp; omega) hw
      refine ⟨T, .tuple [.int a, .int b] :: ps, ?_, chc q2, q3⟩
      rw [show F ++ PyData.tuple [.int a, .int b] :: ps = (F ++ [.tuple [.int a, .int b]]) ++ ps by simp, ← q1]
      rw [whGo]
      have s1 : ∀ (ws : List W), (hpE x R F).set 1 (.lst ws) = [x, .lst ws, .lst (F.map .p)] := fun _ => rfl
      have s2 : ∀ (ws : List W), (hpE x R' F).set 2 (.lst ws) = [x, .lst (R'.map fun i => .p (.int i)), .lst ws] := fun _ => rfl
      rw [s1] at e1
      rw [s2] at e2
      have e3' : F_next_pair [.p (sc S), .loc 1] [x, .lst (R'.map fun i => .p (.int i)), .lst (F.map .p ++ [pr a b])] = .ok w' [x, .lst (R'.map fun i => .p (.int i)), .lst (F.map .p ++ [pr a b])] := by
        have := e3
        simp only [hpE, List.map_append, List.map_cons, List.map_nil] at this
        exact this
      simp only [isNone_t, r_bval, r_op2, r_var, r_c, List.getElem?_cons_succ, List.getElem?_cons_zero, bind_ok, o_isNone, Bool.not_false, if_true, r_boolOf, st_ok, q_tidy, q_seq, q_expr, r_lm, lstAt_loc (m := hpE x R F) (n := 1) rfl, r_acons, r_anil, o_ixT, atI_0, e1,
        lstAt_loc (m := hpE x R' F) (n := 2) rfl, e2, q_set, r_call, e3', List.length_cons, List.length_nil, decide_true, List.set_cons_succ, List.set_cons_zero]
      have td := fun (s : Ev) (m : Hm) (h : m.length = 0 + 1 + 1 + 1) => tidy_len (mask := []) (s := s) h
      rw [td _ _ rfl]
      simp only [wipeE, hpE, List.map_append, List.map_cons, List.map_nil]
def word (T : List Int) : Str := if T.length = 1 then "edges" else "stuck"
theorem q_edge {S : List (List Int)} {x : Cell} (g : GoodS S) (hx : okC 1 x = true) : ∃ T ps, F_edge_evidence [.p (sc S)] [x] = .ok (.p (.tuple [.str (word T), .tuple ps])) [x] ∧ Ch S (rgI S.length) ps T ∧ Irr S T := by
  have k := okr_rg g.hi g.sh
  have rl : RL (hpE x (rgI S.length) []) (.loc 1) (rgI S.length) := .inr ⟨1, rfl, rfl⟩
  obtain ⟨w', hw, e3⟩ : ∃ w', ((w' = .p .none ∧ Irr S (rgI S.length)) ∨ ∃ a' ∈ rgI S.length, ∃ b' ∈ rgI S.length, b' ≠ a' ∧ cg S (rgI S.length) a' b' = true ∧ w' = pr a' b') ∧
      F_next_pair [.p (sc S), .loc 1] (hpE x (rgI S.length) []) = .ok w' (hpE x (rgI S.length) []) := by
    rcases q_next_pair k.toOk rl with ⟨h1, h2⟩ | ⟨a', h1, b', h2, h3, h4, h5⟩
    · exact ⟨_, .inl ⟨rfl, h1⟩, h2⟩
    · exact ⟨_, .inr ⟨a', h1, b', h2, h3, h4, rfl⟩, h5⟩
  obtain ⟨T, ps, q1, q2, q3⟩ := wh_E (x := x) 39 (rgI S.length) [] w' k (by have := g.hi; simp [rgI]; omega) (by have := g.hi; simp [rgI]; omega) hw
  refine ⟨T, ps, ?_, q2, q3⟩
  unfold F_edge_evidence mkFn m_edge_evidence sWhile
  simp [startE, q_check g]
  rw [rg_c (by have := g.hi; omega)]
  simp [sizeLine_eq]
  rw [show ([x, .lst ((rgI S.length).map fun i => .p (.int i)), .lst []] : Hm) = hpE x (rgI S.length) [] from rfl, e3]
  simp
  simp at q1
  rw [q1]
  have l1 : lenM [.loc 1] (hpE x T ps) = .ok (.p (.int T.length)) (hpE x T ps) := by simp [lenM, seqW]
  have l2 : tupleM [.loc 2] (hpE x T ps) = .ok (.p (.tuple ps)) (hpE x T ps) := by simp [tupleM, seqW]
  simp [l1, l2]
  by_cases ht : T.length = 1
  · simp [ht, mkTup, sizeLine_eq, word, l2]
    exact end1_p hx
  · have ht' : ¬ (T.length : Int) = 1 := by omega
    simp [ht, ht', mkTup, sizeLine_eq, word, l2]
    exact end1_p hx
end Mir.K56

namespace Mir.K56
open PySem PySem.Spec PyProof.Rows L2
def irrB (S : List (List Int)) (R : List Int) : Bool := R.all fun a => R.all fun b => decide (b = a) || !cg S R a b
theorem irrB_iff {S : List (List Int)} {R : List Int} : irrB S R = true ↔ Irr S R := by
  unfold irrB Irr
  simp only [List.all_eq_true, Bool.or_eq_true, decide_eq_true_eq, Bool.not_eq_true']
  exact ⟨fun h a ha b hb hba => (h a ha b hb).resolve_left hba, fun h a ha b hb => by by_cases e : b = a; exact .inl e; exact .inr (h a ha b hb e)⟩
def fin (S : List (List Int)) (h : PyData) (R : List Int) : Bool := if PyData.eqv h (.str "edges") = true then R.length == 1 else (PyData.eqv h (.str "stuck") && (decide (1 < R.length) && irrB S R))
/-- what is accepted -/
def acc (S : List (List Int)) (v : PyData) : Bool := match v with
  | .tuple [.str h, r] => (match remB S r with
    | some R => fin S (.str h) R
    | none => false)
  | _ => false
theorem step_len {S : List (List Int)} {R R' : List Int} {p : PyData} (nd : R.Nodup) (h : stepB S R p = some R') : R'.length + 1 = R.length ∧ 1 ≤ R'.length ∧ R'.Nodup ∧ ∃ a, a ∈ R ∧ ∃ b, b ∈ R ∧ b ≠ a ∧ cg S R a b = true ∧ R' = R.filter (· ≠ a) := by
  unfold stepB at h
  split at h
  · split at h
    · rename_i i j c
      cases h
      have := len_fil nd c.2.1
      exact ⟨this, List.length_pos_of_mem (mem_fil.mpr ⟨c.2.2.1, fun e => c.1 e.symm⟩), nd.sublist List.filter_sublist, i, c.2.1, j, c.2.2.1, fun e => c.1 e.symm, c.2.2.2, rfl⟩
    · cases h
  · cases h
theorem fold_len {S : List (List Int)} : ∀ {ps : List PyData} {R R' : List Int}, R.Nodup → ps.foldlM (stepB S) R = some R' → R'.length + ps.length = R.length ∧ (1 ≤ R.length → 1 ≤ R'.length) ∧ R'.Nodup ∧ ∀ x ∈ R', x ∈ R
  | [], R, R', nd, h => by simp at h; subst h; simp [nd]
  | p :: ps, R, R', nd, h => by
    rw [List.foldlM_cons] at h
    cases e : stepB S R p with
    | none => rw [e] at h; cases h
    | some R2 =>
      rw [e] at h
      obtain ⟨h1, h2, h3, a, _, b, _, _, _, rfl⟩ := step_len nd e
      obtain ⟨q1, q2, q3, q4⟩ := fold_len h3 (show ps.foldlM (stepB S) _ = some R' from h)
      refine ⟨by simp; omega, fun _ => q2 h2, q3, fun x hx => (mem_fil.mp (q4 x hx)).1⟩
theorem rgI_len (n : Nat) : (rgI n).length = n := by simp [rgI]
theorem remB_fold {S : List (List Int)} (k : Okr S (rgI S.length)) (h1 : 1 ≤ S.length) (ps : List PyData) : remB S (.tuple ps) = ps.foldlM (stepB S) (rgI S.length) := by
  unfold remB
  simp only
  split
  · rfl
  · cases e : ps.foldlM (stepB S) (rgI S.length) with
    | none => rfl
    | some R =>
      obtain ⟨q1, q2, _⟩ := fold_len k.nd e
      rw [rgI_len] at q1 q2
      have := q2 h1
      omega
theorem remB_ok {S : List (List Int)} (k : Okr S (rgI S.length)) {v : PyData} {R : List Int} (h : remB S v = some R) : Okr S R := by
  unfold remB at h
  split at h
  · split at h
    · obtain ⟨q1, q2, q3, q4⟩ := fold_len k.nd h
      exact ⟨⟨fun x hx => k.rng x (q4 x hx), by have := k.len; omega, k.sh⟩, q3⟩
    · cases h
  · cases h
theorem sh_str {z : Str} (h : (PyData.str z).canLay0 = true) : SeqAt.shaped (.str z) = true := by
  unfold SeqAt.shaped
  rw [h]; rfl
theorem eq_str {m : Hm} {z z' : Str} (h : (PyData.str z).canLay0 = true) (h' : (PyData.str z').canLay0 = true) : eqM false (.p (.str z)) (.p (.str z')) m = .ok (.p (.bool (PyData.eqv (.str z) (.str z')))) m := by
  simp [eqM, sh_str h, sh_str h']
theorem q_accepts {S : List (List Int)} {x : Cell} {v : PyData} (g : GoodS S) (hx : okC 1 x = true) (hv : v.canLay0 = true) : F_accepts_removal [.p (sc S), .p v] [x] = .ok (.p (.bool (acc S v))) [x] := by
  have k := okr_rg g.hi g.sh
  unfold F_accepts_removal mkFn m_accepts_removal
  cases v with
  | tuple ds =>
    by_cases h2 : ds.length = 2
    · obtain ⟨h, r, rfl⟩ : ∃ d e, ds = [d, e] := by
        match ds, h2 with
        | [d, e], _ => exact ⟨d, e, rfl⟩
      have hr := lay_mem hv r (by simp)
      have hh := lay_mem hv h (by simp)
      have e1 := q_remaining (x := x) g.hi g.sh hx hr
      have ep : ∀ d, endFn true 1 (.p d) [x] = .ok (.p d) [x] := fun d => end1_p hx
      cases h with
      | str z =>
        cases e2 : remB S r with
        | none =>
          rw [e2] at e1
          simp [startE, q_check g, isiM, tyN, isiA, e1, acc, e2, ep]
        | some R =>
          rw [e2] at e1
          have rl : RL [x] (.p (.list (R.map .int))) R := .inl rfl
          have okR := remB_ok k e2
          have n1 := q_next_pair okR.toOk rl
          have ee : (PyData.str "edges").canLay0 = true := by decide +kernel
          have es : (PyData.str "stuck").canLay0 = true := by decide +kernel
          have np : F_next_pair [.p (sc S), .p (.list (R.map .int))] [x] = .ok (.p .none) [x] ∧ irrB S R = true ∨ (∃ a b, F_next_pair [.p (sc S), .p (.list (R.map .int))] [x] = .ok (pr a b) [x]) ∧ irrB S R = false := by
            rcases n1 with ⟨h1, h2⟩ | ⟨a, ha, b, hb, hba, hc, h2⟩
            · exact .inl ⟨h2, irrB_iff.mpr h1⟩
            · refine .inr ⟨⟨a, b, h2⟩, ?_⟩
              cases q : irrB S R with
              | false => rfl
              | true => have := irrB_iff.mp q a ha b hb hba; rw [hc] at this; cases this
          have e4 := eq_str (m := [x]) hh ee
          have e5 := eq_str (m := [x]) hh es
          have e6 : ((R.length : Int) == 1) = (R.length == 1) := by rw [Bool.eq_iff_iff]; simp; omega
          simp only [acc, e2, fin]
          generalize PyData.eqv (.str z) (.str "edges") = b1 at e4
          generalize PyData.eqv (.str z) (.str "stuck") = b2 at e5
          cases b1 with
          | true => simp [startE, q_check g, isiM, tyN, isiA, e1, e4, e6, ep]
          | false =>
            cases b2 with
            | false => simp [startE, q_check g, isiM, tyN, isiA, e1, e4, e5, ep]
            | true =>
              by_cases c3 : 1 < R.length
              · have c4 : (1 : Int) < R.length := by omega
                rcases np with ⟨n1, n2⟩ | ⟨⟨a, b, n1⟩, n2⟩
                · simp [startE, q_check g, isiM, tyN, isiA, e1, e4, e5, ep, c3, c4, n1, n2]
                · simp [startE, q_check g, isiM, tyN, isiA, e1, e4, e5, ep, c3, c4, n1, n2]
              · have c4 : ¬ (1 : Int) < R.length := by omega
                simp [startE, q_check g, isiM, tyN, isiA, e1, e4, e5, ep, c3, c4]
      | dict => cases hh
      | _ => simp [startE, q_check g, isiM, tyN, isiA, acc, ep]
    · have h2' : ¬ (ds.length : Int) = 2 := by omega
      have : acc S (.tuple ds) = false := by
        match ds, h2 with
        | [], _ => rfl
        | [_], _ => simp [acc]
        | _ :: _ :: _ :: _, _ => simp [acc]
      simp [startE, q_check g, isiM, tyN, isiA, h2', this]
      exact end1_p hx
  | dict => cases hv
  | _ => simp [startE, q_check g, isiM, tyN, isiA, acc]; exact end1_p hx
end Mir.K56

namespace Mir.K56
open PySem PySem.Spec PyProof.Rows L2
/-! ### the law's own reckoning -/
theorem q_lgo {S : List (List Int)} {R : List Int} {m : Hm} {w : W} {a b : Int} (k : Ok S R) (h : RL m w R) (ha : a ∈ R) (hb : b ∈ R) : F__law_can_go [.p (sc S), w, .p (.int a), .p (.int b)] m = .ok (.p (.bool (cg S R a b))) m := by
  obtain ⟨gs, hs, hg⟩ := h.src
  have ra := k.rng a ha
  have rb := k.rng b hb
  unfold F__law_can_go mkFn m__law_can_go
  simp [startE]
  rw [lc_data R (fun i => .p (.int i)) (fun o => !(o == a)) .int (gs := gs) (by simpa [iSeq] using hs) hg (by have := k.len; omega) fun x hx => ⟨_, rfl, by simp [wipeE], by simp [wipeE]⟩]
  simp
  rw [lc_data (nth S a) (fun i => .p (.int i)) (fun v => (R.filter fun o => !o == a).any fun o => decide (v ∈ nth S o)) .int (gs := []) (by simp [iSeq, nth_at ra.1 ra.2, srcOf, Function.comp_def]) rfl (by have := nth_len k a; omega) fun v hv => ⟨_, rfl, ?_, by simp [wipeE]⟩]
  · have e : ((nth S a).filter fun v => (R.filter fun o => !o == a).any fun o => decide (v ∈ nth S o)) = shr S R a := by simp [shr, bne_fil]
    rw [e]
    simp
    rw [lc_map (shr S R a) (fun i => .p (.int i)) (fun v => .bool (decide (v ∈ nth S b))) (gs := []) (by simp [iSeq, srcOf, Function.comp_def]) rfl (by have := List.length_filter_le (fun v => (R.filter (· ≠ a)).any fun o => decide (v ∈ nth S o)) (nth S a); have := nth_len k a; unfold shr; omega) fun v hv => ⟨_, rfl, by simp [wipeE, nth_at rb.1 rb.2]⟩]
    have := o_all (m := m) ((shr S R a).map fun v => decide (v ∈ nth S b))
    simp [Function.comp_def] at this ⊢
    rw [this]
    simp [endFn_p, cg]
  · simp [wipeE]
    rw [lc_map (R.filter fun o => !o == a) (fun i => .p (.int i)) (fun o => .bool (decide (v ∈ nth S o))) (gs := []) (by simp [iSeq, srcOf, Function.comp_def]) rfl (by have := List.length_filter_le (fun o => !o == a) R; have := k.len; omega) fun o ho => ⟨_, rfl, ?_⟩]
    · have := o_any (m := m) ((R.filter fun o => !o == a).map fun o => decide (v ∈ nth S o))
      simp [Function.comp_def] at this ⊢
      rw [this]; simp
    · have := k.rng o (List.mem_filter.mp ho).1
      simp [wipeE, nth_at this.1 this.2]
def mv (S : List (List Int)) (R : List Int) (a : Int) : List PyData := (R.filter fun b => !(b == a) && cg S R a b).map fun b => .tuple [.int a, .int b]
def mvs (S : List (List Int)) (R : List Int) : List PyData := R.flatMap (mv S R)
theorem mv_len {S : List (List Int)} {R : List Int} (k : Ok S R) (a : Int) : (mv S R a).length ≤ 64 := by
  have := List.length_filter_le (fun b => !(b == a) && cg S R a b) R
  have := k.len
  simp [mv]; omega
theorem q_moves {S : List (List Int)} {R : List Int} {m : Hm} (k : Ok S R) : F__law_moves [.p (sc S), .p (.list (R.map .int))] m = .ok (.p (.list (mvs S R))) m := by
  have rl : RL m (.p (.list (R.map .int))) R := .inl rfl
  unfold F__law_moves mkFn m__law_moves
  simp [startE, sizeLine_eq]
  have key := for_rwP (gs := []) (t := .n 3) (e := fun i => W.p (.int i)) (xs := R) (s := [some (.p (sc S)), some (.p (.list (R.map .int))), some (.p (.list [])), none, none]) (m := m)
    (body := sTidy [3, 4] (sSet 2 (eOp2 addM (eVar 2) (eLc lcFin (iSeq (eVar 1)) (.n 4) (bAnd (bVal (eOp2 (eqM true) (eVar 4) (eVar 3))) (bTru (eCall 4 F__law_can_go (aCons (eVar 0) (aCons (eVar 1) (aCons (eVar 3) (aCons (eVar 4) aNil))))))) (eTup (aCons (eVar 3) (aCons (eVar 4) aNil))) [4]))))
    (fun acc a => .inl (acc ++ mv S R a)) (fun acc => [some (.p (sc S)), some (.p (.list (R.map .int))), some (.p (.list acc)), none, none]) (fun _ => m) (fun pre acc => acc = pre.flatMap (mv S R)) [] rfl rfl (fun _ _ _ => rfl) (fun pre a post acc hx hi => ⟨⟨_, rfl, ?_⟩, fun b' e => ?_⟩) rfl
  · obtain ⟨b', e⟩ := loopE_total (st := fun (acc : List PyData) (a : Int) => (Sum.inl (acc ++ mv S R a) : List PyData ⊕ (W × Hm))) (fun b x => ⟨_, rfl⟩) R []
    have k2 := key.2 b' e
    rw [e] at key
    simp only [Function.comp_def, key.1, outE]
    simp [k2, endFn_p, mvs]
  · have ha : a ∈ R := by rw [hx]; simp
    have l1 : acc.length ≤ 64 * 64 := by
      rw [hi]
      have := flat_len (mv_len k) pre
      have h2 : pre.length ≤ R.length := by rw [hx]; simp
      have := k.len
      omega
    have l2 := mv_len k a
    simp [wipeE]
    rw [lc_data R (fun i => .p (.int i)) (fun b => !(b == a) && cg S R a b) (fun b => .tuple [.int a, .int b]) (gs := []) (by simp [Function.comp_def]) rfl (by have := k.len; omega) fun b hb => ⟨_, rfl, ?_, fun _ => by simp [wipeE, sizeLine_eq, mkTup]⟩]
    · have := o_addL (xs := acc) (ys := mv S R a) (m := m) (by omega)
      unfold mv at this
      simp only [bind_ok, this]
      simp [outE, mv, wipeE]
    · have e1 := q_lgo k rl ha hb
      by_cases c : b = a
      · simp [wipeE, c]
      · simp [wipeE, c, e1]
  · cases e
    rw [hi]; simp
theorem mvs_nil {S : List (List Int)} {R : List Int} : mvs S R = [] ↔ Irr S R := by
  unfold mvs mv Irr
  simp only [List.flatMap_eq_nil_iff, List.map_eq_nil_iff, List.filter_eq_nil_iff, Bool.and_eq_true, Bool.not_eq_true', beq_eq_false_iff_ne, not_and, Bool.not_eq_true]
end Mir.K56

namespace Mir.K56
open PySem PySem.Spec PyProof.Rows L2
def isInt : PyData → Bool
  | .int _ => true
  | _ => false
theorem q_isint {d : PyData} {m : Hm} (h : nd d = true) : F__law_is_integer [.p d] m = .ok (.p (.bool (isInt d))) m := by
  unfold F__law_is_integer mkFn m__law_is_integer
  cases d with
  | dict => cases h
  | _ => simp [startE, isiM, tyN, isiA, isInt, endFn_p]
def inR (R : List Int) : PyData → Bool
  | .int i => decide (i ∈ R)
  | _ => false
def stV (S : List (List Int)) (m : Hm) (R : List Int) (p : PyData) : List Int ⊕ (W × Hm) := match stepB S R p with
  | some R' => .inl R'
  | none => .inr (.p (.bool false), m)
def bodyV : SX := (sTidy [3, 4, 5] (sSeq (sIf (bOr (bNot (bTru (eOp1 (isiM "tuple") (eVar 3)))) (bOr (bVal (eOp2 (eqM true) (eCB lenM (aCons (eVar 3) aNil)) (eC (.int 2)))) (bNot (bTru (eCB (allM true) (aCons (eLc lcFin (iSeq (eVar 3)) (.n 4) bYes (eAnd (eCall 1 F__law_is_integer (aCons (eVar 4) aNil)) (eOp2 (inM false) (eVar 4) (eVar 2))) [4]) aNil)))))) (sRet (eC (.bool false))) sSkip)
  (sSeq (sIf (bOr (bVal (eOp2 (eqM false) (eOp2 idxM (eVar 3) (eC (.int 0))) (eOp2 idxM (eVar 3) (eC (.int 1))))) (bNot (bTru (eCall 4 F__law_can_go (aCons (eVar 0) (aCons (eVar 2) (aCons (eOp2 idxM (eVar 3) (eC (.int 0))) (aCons (eOp2 idxM (eVar 3) (eC (.int 1))) aNil)))))))) (sRet (eC (.bool false))) sSkip)
  (sSet 2 (eLc lcFin (iSeq (eVar 2)) (.n 5) (bVal (eOp2 (eqM true) (eVar 5) (eOp2 idxM (eVar 3) (eC (.int 0))))) (eVar 5) [5])))))
abbrev evV (S : List (List Int)) (v : PyData) (R : List Int) : Ev := [some (.p (sc S)), some (.p v), some (.p (.list (R.map .int))), none, none, none]
theorem body_V {S : List (List Int)} {m : Hm} {v p : PyData} {R : List Int} (k : Okr S R) (hp : p.canLay0 = true) : bodyV [some (.p (sc S)), some (.p v), some (.p (.list (R.map .int))), some (.p p), none, none] m = outE (evV S v) (fun _ => m) (stV S m R p) := by
  have rl : RL m (.p (.list (R.map .int))) R := .inl rfl
  unfold bodyV
  cases p with
  | tuple ps =>
    by_cases h2 : ps.length = 2
    · obtain ⟨d, e, rfl⟩ : ∃ d e, ps = [d, e] := by
        match ps, h2 with
        | [d, e], _ => exact ⟨d, e, rfl⟩
      have hd := nd_lay (lay_mem hp d (by simp))
      have he := nd_lay (lay_mem hp e (by simp))
      have e0 : eLc lcFin (iSeq (eVar 3)) (.n 4) bYes (eAnd (eCall 1 F__law_is_integer (aCons (eVar 4) aNil)) (eOp2 (inM false) (eVar 4) (eVar 2))) [4] [some (.p (sc S)), some (.p v), some (.p (.list (R.map .int))), some (.p (.tuple [d, e])), none, none] m =
          .ok (.p (.list ([d, e].map fun z => .bool (inR R z)))) m := lc_map [d, e] .p (fun z => .bool (inR R z)) (gs := []) (by simp) rfl (by simp) fun z hz => ⟨_, rfl, by
        have hz' : nd z = true := by simp at hz; rcases hz with rfl | rfl <;> assumption
        cases z with
        | int i => simp [wipeE, q_isint hz', isInt, (rl.inn i).1, inR]
        | _ => simp [wipeE, q_isint hz', isInt, inR]⟩
      have e1 := o_all (m := m) ([d, e].map fun z => inR R z)
      simp only [List.map_map, Function.comp_def, List.map_cons, List.map_nil] at e0 e1
      cases hb : (inR R d && inR R e) with
      | false =>
        have : stV S m R (.tuple [d, e]) = .inr (.p (.bool false), m) := by
          unfold stV
          have : stepB S R (.tuple [d, e]) = none := by
            cases d <;> cases e <;> try rfl
            rename_i i j
            unfold stepB
            simp only
            rw [if_neg]
            rintro ⟨_, hi, hj, _⟩
            simp [inR, hi, hj] at hb
          rw [this]
        simp [isiM, tyN, isiA, e0, e1, hb, this, outE]
      | true =>
        obtain ⟨w1, w2⟩ := Bool.and_eq_true_iff.mp hb
        obtain ⟨i, rfl⟩ : ∃ i, d = .int i := by
          cases d <;> first | exact ⟨_, rfl⟩ | (simp [inR] at w1)
        obtain ⟨j, rfl⟩ : ∃ i, e = .int i := by
          cases e <;> first | exact ⟨_, rfl⟩ | (simp [inR] at w2)
        simp only [w1, w2] at e0 e1
        have c2 : i ∈ R := by simpa [inR] using w1
        have c3 : j ∈ R := by simpa [inR] using w2
        by_cases c1 : i = j
        · subst c1
          simp [isiM, tyN, isiA, e0, e1, outE, stV, stepB]
        · have c5 := q_lgo k.toOk rl c2 c3
          cases c4 : cg S R i j
          · simp [isiM, tyN, isiA, e0, e1, outE, stV, stepB, c1, c2, c3, c4, c5]
          · simp [isiM, tyN, isiA, e0, e1, outE, stV, stepB, c1, c2, c3, c4, c5]
            rw [lc_data R (fun i => .p (.int i)) (fun o => !(o == i)) .int (gs := []) (by simp [Function.comp_def]) rfl (by have := k.len; omega) fun x hx => ⟨_, rfl, by simp [wipeE], by simp [wipeE]⟩]
            simp [wipeE, bne_fil]
    · have : stV S m R (.tuple ps) = .inr (.p (.bool false), m) := by
        match ps, h2 with
        | [], _ => simp [stV, stepB]
        | [_], _ => simp [stV, stepB]
        | _ :: _ :: _ :: _, _ => simp [stV, stepB]
      have h2' : ¬ (ps.length : Int) = 2 := by omega
      simp [isiM, tyN, isiA, h2', this, outE]
  | dict => cases hp
  | _ => simp [isiM, tyN, isiA, stV, stepB, outE]
theorem loop_stV {S : List (List Int)} {m : Hm} : ∀ (ps : List PyData) (R : List Int), loopE (stV S m) ps R = (match ps.foldlM (stepB S) R with
    | some R' => .inl R'
    | none => .inr (.p (.bool false), m)) := by
  intro ps
  induction ps with
  | nil => intro R; simp [loopE]
  | cons p ps ih =>
    intro R
    simp only [List.foldlM_cons, loopE, stV]
    cases h : stepB S R p with
    | some R' => exact ih R'
    | none => rfl
theorem sh_mem {ds : List PyData} (h : SeqAt.shaped (.tuple ds) = true) : ∀ d ∈ ds, SeqAt.shaped d = true := by
  have h1 := SeqAt.canLay_of_shaped h
  have h2 := SeqAt.depth_of_shaped h
  intro d hd
  have h3 := lay_mem h1 d hd
  have h4 : d.depth ≤ PyData.depthAll ds := by
    clear h h1 h2 h3
    induction ds with
    | nil => cases hd
    | cons x ds ih =>
      unfold PyData.depthAll
      rcases List.mem_cons.mp hd with rfl | hd
      · omega
      · have := ih hd; omega
  unfold PyData.depth at h2
  unfold SeqAt.shaped
  rw [h3]
  simp
  omega
theorem eq_sh {m : Hm} {d e : PyData} (h : SeqAt.shaped d = true) (h' : SeqAt.shaped e = true) : eqM false (.p d) (.p e) m = .ok (.p (.bool (PyData.eqv d e))) m := by
  simp [eqM, h, h']
theorem lay_mvs {S : List (List Int)} {R : List Int} : SeqAt.shaped (.list (mvs S R)) = true := by
  have h : ∀ xs : List PyData, (∀ x ∈ xs, ∃ a b, x = .tuple [.int a, .int b]) → PyData.canLayAll0 xs = true ∧ PyData.depthAll xs ≤ 1 := by
    intro xs
    induction xs with
    | nil => intro _; exact ⟨rfl, by simp [PyData.depthAll]⟩
    | cons x xs ih =>
      intro h
      obtain ⟨a, b, rfl⟩ := h x List.mem_cons_self
      have := ih fun y hy => h y (List.mem_cons_of_mem _ hy)
      simp [PyData.canLayAll0, PyData.depthAll, PyData.canLay0, PyData.depth, this.1]
      have := this.2
      omega
  have := h (mvs S R) fun x hx => by
    unfold mvs mv at hx
    simp only [List.mem_flatMap, List.mem_map] at hx
    obtain ⟨a, _, b, _, rfl⟩ := hx
    exact ⟨a, b, rfl⟩
  simp [SeqAt.shaped, PyData.canLay0, PyData.depth, this.1]
  omega
theorem q_evid {S : List (List Int)} {m : Hm} {v : PyData} (g : GoodS S) (hv : SeqAt.shaped v = true) : F__law_is_evidence [.p (sc S), .p v] m = .ok (.p (.bool (acc S v))) m := by
  have k := okr_rg g.hi g.sh
  unfold F__law_is_evidence mkFn m__law_is_evidence
  cases v with
  | tuple ds =>
    by_cases h2 : ds.length = 2
    · obtain ⟨h, r, rfl⟩ : ∃ d e, ds = [d, e] := by
        match ds, h2 with
        | [d, e], _ => exact ⟨d, e, rfl⟩
      have hr := sh_mem hv r (by simp)
      have hh := sh_mem hv h (by simp)
      have ee : SeqAt.shaped (.str "edges") = true := by decide +kernel
      have es : SeqAt.shaped (.str "stuck") = true := by decide +kernel
      cases r with
      | tuple ps =>
        simp [startE, isiM, tyN, isiA]
        rw [rg_l (by have := g.hi; omega)]
        simp
        rw [← bodyV]
        rw [for_rw (stV S m) (evV S (.tuple [h, .tuple ps])) (fun _ => m) (Okr S) (rgI S.length) rfl rfl (fun _ _ => rfl) (fun R p hp k => ⟨⟨_, rfl, body_V k (lay_mem (SeqAt.canLay_of_shaped hr) p hp)⟩, fun R' e => ?_⟩) k]
        · rw [loop_stV, ← remB_fold k g.lo]
          cases e2 : remB S (.tuple ps) with
          | none =>
            cases h <;> simp [outE, acc, e2, endFn_p]
          | some R =>
            have okR := remB_ok k e2
            have e4 := eq_sh (m := m) hh ee
            have e5 := eq_sh (m := m) hh es
            have e6 : ((R.length : Int) == 1) = (R.length == 1) := by rw [Bool.eq_iff_iff]; simp; omega
            have ea : acc S (.tuple [h, .tuple ps]) = fin S h R := by
              cases h with
              | str z => simp [acc, e2]
              | _ => simp [acc, fin, PyData.eqv]
            have np : PyData.eqv (.list (mvs S R)) (.list []) = irrB S R := by
              rw [Bool.eq_iff_iff, irrB_iff, ← mvs_nil]
              cases mvs S R <;> simp [PyData.eqv, PyData.eqvAll]
            have e7 := eq_sh (m := m) (lay_mvs (S := S) (R := R)) (e := .list []) rfl
            rw [np] at e7
            rw [ea]
            simp only [fin]
            generalize PyData.eqv h (.str "edges") = b1 at e4
            generalize PyData.eqv h (.str "stuck") = b2 at e5
            cases b1 with
            | true => simp [outE, e4, e6, endFn_p]
            | false =>
              cases b2 with
              | false => simp [outE, e4, e5, endFn_p]
              | true =>
                by_cases c3 : 1 < R.length
                · have c4 : (1 : Int) < R.length := by omega
                  simp [outE, e4, e5, endFn_p, c3, c4, q_moves okR.toOk, sizeLine_eq, e7]
                · have c4 : ¬ (1 : Int) < R.length := by omega
                  simp [outE, e4, e5, endFn_p, c3, c4]
        · unfold stV at e
          cases h : stepB S R p with
          | none => rw [h] at e; cases e
          | some R2 =>
            rw [h] at e; cases e
            obtain ⟨_, _, _, a, _, b, _, _, _, rfl⟩ := step_len k.nd h
            exact k.fil _
      | dict => cases (SeqAt.canLay_of_shaped hr)
      | _ =>
        have : ∀ r, isTu r = false → acc S (.tuple [h, r]) = false := fun r hr => by
          have : remB S r = none := by cases r <;> first | rfl | cases hr
          cases h <;> simp [acc, this]
        simp [startE, isiM, tyN, isiA, endFn_p]
        exact this _ (by rfl)
    · have h2' : ¬ (ds.length : Int) = 2 := by omega
      have : acc S (.tuple ds) = false := by
        match ds, h2 with
        | [], _ => rfl
        | [_], _ => simp [acc]
        | _ :: _ :: _ :: _, _ => simp [acc]
      simp [startE, isiM, tyN, isiA, h2', this, endFn_p]
  | dict => cases (SeqAt.canLay_of_shaped hv)
  | _ => simp [startE, isiM, tyN, isiA, acc, endFn_p]
end Mir.K56

namespace Mir.K56
open PySem PySem.Spec PyProof.Rows L2
theorem ix31 : ixN 3 1 = some 1 := rfl
theorem ix32 : ixN 3 2 = some 2 := rfl
theorem q_stream (ns : List Int) : F__law_stream [.ro (ns.map .int)] [] = .ok (.loc 0) [strm ns 0 0] := by
  unfold F__law_stream mkFn m__law_stream
  have e : allP (ns.map (W.p ∘ PyData.int)) = some (ns.map .int) := allP_ints ns
  simp [startE, listM, seqW, sizeLine_eq, e, endFn, okM, okW, strm]
def draws : SX := (sSeq (sSet 4 (eOp2 modM (eCB intM1 (aCons (eOp2 idxM (eVar 0) (eC (.int 1))) aNil)) (eVar 1)))
  (sSeq (sSetIx (eVar 0) (eC (.int 1)) (eOp2 divM (eOp2 idxM (eVar 0) (eC (.int 1))) (eVar 1)))
  (sRet (eVar 4))))
theorem q_draws {ns : List Int} {c k many : Int} {r : Hm} {s2 s3 : Option W} (h : 0 < many) (h2 : many < 1073741824) : draws [some (.loc 0), some (.p (.int many)), s2, s3, none] (strm ns c k :: r) = some (.rt (.p (.int (c % many))), strm ns (c / many) k :: r) := by
  unfold draws
  simp [strm, o_mod h, o_div h h2, setIx, ix31, ix32]
def mix : SX := (sSeq (sSet 3 (eOp2 modM (eCB intM1 (aCons (eOp2 addM (eOp2 addM (eOp2 mulI (eVar 3) (eC (.int 48271))) (eOp2 mulI (eVar 2) (eC (.int 69621)))) (eC (.int 11))) aNil)) (eC (.int 2147483647))))
  (sSet 3 (eOp2 addM (eOp2 mulI (eOp2 modM (eCB intM1 (aCons (eOp2 addM (eOp2 mulI (eVar 3) (eC (.int 16807))) (eC (.int 13))) aNil)) (eC (.int 2147483647))) (eC (.int 65537))) (eVar 3))))
theorem ex_mul (i j : Int) (h : smallI j = true) (m : Hm) : ∃ f, mulI (.p (.int i)) (.p (.int j)) m = .ok (.p (.int f)) m := ⟨_, o_mulr h⟩
theorem ex_mod (i j : Int) (h : 0 < j) (m : Hm) : ∃ f, modM (.p (.int i)) (.p (.int j)) m = .ok (.p (.int f)) m := ⟨_, o_mod h⟩
theorem q_mix (a b : Option W) (k c : Int) (m : Hm) : ∃ f, mix [a, b, some (.p (.int k)), some (.p (.int c)), none] m = some (.nx [a, b, some (.p (.int k)), some (.p (.int f)), none], m) := by
  obtain ⟨f1, e1⟩ := ex_mul c 48271 rfl m
  obtain ⟨f2, e2⟩ := ex_mul k 69621 rfl m
  obtain ⟨f3, e3⟩ := ex_mod (f1 + f2 + 11) 2147483647 (by omega) m
  obtain ⟨f4, e4⟩ := ex_mul f3 16807 rfl m
  obtain ⟨f5, e5⟩ := ex_mod (f4 + 13) 2147483647 (by omega) m
  obtain ⟨f6, e6⟩ := ex_mul f5 65537 rfl m
  refine ⟨f6 + f3, ?_⟩
  unfold mix
  generalize (2147483647 : Int) = M at e3 e5 ⊢
  simp [e1, e2, e3, e4, e5, e6]
/-- a number below many is drawn; the stream goes on -/
def Draw (ns : List Int) (many : Int) (r : Hm) (x : Res W) : Prop := ∃ (d c' : Int) (k' : Nat), x = .ok (.p (.int d)) (strm ns c' k' :: r) ∧ 0 ≤ d ∧ d < many
theorem q_next {ns : List Int} {c : Int} {k : Nat} {r : Hm} {many : Int} (h : 0 < many) (h2 : many < 1073741824) : Draw ns many r (F__law_next [.loc 0, .p (.int many)] (strm ns c k :: r)) := by
  have fin : ∀ (c' : Int) (k' : Nat) (s2 s3 : Option W), Draw ns many r (retE true (r.length + 1) (draws [some (.loc 0), some (.p (.int many)), s2, s3, none] (strm ns c' k' :: r))) := by
    intro c' k' s2 s3
    rw [q_draws h h2]
    exact ⟨c' % many, c' / many, k', endFn_len rfl, Int.emod_nonneg _ (by omega), Int.emod_lt_of_pos _ h⟩
  unfold F__law_next mkFn m__law_next
  rw [← draws, ← mix]
  obtain ⟨P, hP, B, hB⟩ : ∃ P : EX W, eOp2 powM (eC (.int 10)) (eC (.int 18)) = P ∧ ∃ B : Int, ∀ s m, P s m = .ok (.p (.int B)) m := ⟨_, rfl, 1000000000000000000, fun s m => rfl⟩
  rw [hP]
  clear hP
  by_cases c0 : c = 0
  · subst c0
    by_cases hk : k < ns.length
    · have hk' : (k : Int) < ns.length := by omega
      obtain ⟨n, hn⟩ : ∃ n, ns[k]? = some n := ⟨_, List.getElem?_eq_getElem hk⟩
      have e1 : atI (ns.map PyData.int) (k : Int) = some (.int n) := by rw [atI_lit]; simp [hn]
      by_cases hb : (if n < 0 then -n else n) < B
      · obtain ⟨f, hf⟩ := q_mix (some (.loc 0)) (some (.p (.int many))) k (if n < 0 then -n else n) (strm ns 0 k :: r)
        simp [startE, strm, hk', e1, hB, hb] at hf ⊢
        simp [hf, setIx, ix31, ix32]
        exact fin _ (k + 1) _ _
      · simp [startE, strm, hk', e1, hB, hb, setIx, ix31, ix32]
        exact fin _ (k + 1) _ _
    · have hk' : ¬ (k : Int) < ns.length := by omega
      obtain ⟨c1, hc1⟩ : ∃ c1 : Int, (7 : Int) + k = c1 := ⟨_, rfl⟩
      by_cases hb : c1 < B
      · obtain ⟨f, hf⟩ := q_mix (some (.loc 0)) (some (.p (.int many))) k c1 (strm ns 0 k :: r)
        simp [startE, strm, hk', hB, hc1, hb] at hf ⊢
        simp [hf, setIx, ix31, ix32]
        exact fin _ (k + 1) _ _
      · simp [startE, strm, hk', hB, hc1, hb, setIx, ix31, ix32]
        exact fin _ (k + 1) _ _
  · simp [startE, strm, c0]
    exact fin _ k _ _
end Mir.K56

namespace Mir.K56
open PySem PySem.Spec PyProof.Rows L2
theorem rgI_up (n : Nat) : (rgI n).Pairwise (· < ·) := List.pairwise_map.mpr (List.pairwise_lt_range.imp fun h => by omega)
theorem rgI_mem {n : Nat} {v : Int} (h : v ∈ rgI n) : 0 ≤ v ∧ v < n := by
  obtain ⟨i, hi, rfl⟩ := List.mem_map.mp h
  have := List.mem_range.mp hi
  omega
def GoodL (s : List Int) : Prop := s.length ≤ 3 ∧ s.Pairwise (· < ·) ∧ ∀ v ∈ s, 0 ≤ v ∧ v ≤ 5
abbrev evS (m2 : Option W) : Ev := [some (.loc 0), some (.p (.int 5)), some (.p (.int 5)), some (.loc 1), none, none, none]
theorem one_scope {ns : List Int} {c : Int} {k : Nat} {F : List PyData} {x : Int} (hl : F.length < 100) : ∃ (s : List Int) (c' : Int) (k' : Nat), GoodL s ∧
    (sTidy [4, 5, 6] (sSeq (sSet 5 (eLc lcFin (iRg1 (eVar 2)) (.n 6) (bVal (eOp2 (eqM false) (eCall 2 F__law_next (aCons (eVar 0) (aCons (eC (.int 2)) aNil))) (eC (.int 1)))) (eVar 6) [6]))
      (sExpr (eLM appendM (eVar 3) (aCons (eCB tupleM (aCons (eCut (eVar 5) oNone (oSome (eC (.int 3)))) aNil)) aNil))))) [some (.loc 0), some (.p (.int 5)), some (.p (.int 5)), some (.loc 1), some (.p (.int x)), none, none] [strm ns c k, .lst (F.map .p)] =
      some (.nx [some (.loc 0), some (.p (.int 5)), some (.p (.int 5)), some (.loc 1), none, none, none], [strm ns c' k', .lst ((F ++ [sd s]).map .p)]) := by
  obtain ⟨sub, c', k', e, hs⟩ := lcGo_draw (t := .n 6) (g := (bVal (eOp2 (eqM false) (eCall 2 F__law_next (aCons (eVar 0) (aCons (eC (.int 2)) aNil))) (eC (.int 1))))) (f := eVar 6) (s := [some (.loc 0), some (.p (.int 5)), some (.p (.int 5)), some (.loc 1), some (.p (.int x)), none, none])
    (ns := ns) (r := [.lst (F.map .p)]) (e := fun i => W.p (.int i)) PyData.int (rgI 5) c k fun i hi => ⟨_, rfl, fun c k => by
      obtain ⟨d, c', k', h1, h2, h3⟩ := q_next (ns := ns) (c := c) (k := k) (r := [.lst (F.map .p)]) (many := 2) (by omega) (by omega)
      exact ⟨d == 1, c', k', by simp [h1]⟩, fun m => by simp⟩
  have ec : eLc lcFin (iRg1 (eVar 2)) (.n 6) (bVal (eOp2 (eqM false) (eCall 2 F__law_next (aCons (eVar 0) (aCons (eC (.int 2)) aNil))) (eC (.int 1)))) (eVar 6) [6] [some (.loc 0), some (.p (.int 5)), some (.p (.int 5)), some (.loc 1), some (.p (.int x)), none, none] [strm ns c k, .lst (F.map .p)] =
      .ok (.p (.list (sub.map .int))) [strm ns c' k', .lst (F.map .p)] := by
    have e5 : (rgP 0 5).map W.p = (rgI 5).map fun i => W.p (.int i) := by rw [show (5 : Int) = ((5 : Nat) : Int) from rfl, rgP_eq]; simp
    unfold eLc
    simp [sizeLine_eq, wipeE]
    rw [if_pos (by simp [rgP])]
    rw [e5, e]
    simp [lcFin]
    have := allP_map (sub.map PyData.int)
    simp at this
    rw [this]
  have up : sub.Pairwise (· < ·) := (rgI_up 5).sublist hs
  have l3 : (sub.take 3).length ≤ 3 := by simp; omega
  refine ⟨sub.take 3, c', k', ⟨l3, up.sublist (List.take_sublist ..), fun v hv => by have := rgI_mem (hs.subset (List.mem_of_mem_take hv)); omega⟩, ?_⟩
  have ct : cutA (sub.map PyData.int) none (some 3) = (sub.take 3).map .int := by
    rw [show (3 : Int) = ((3 : Nat) : Int) from rfl, cutA_to, List.map_take]
  have e2 := o_append (m := [strm ns c' k', .lst (F.map .p)]) (n := 1) (ws := F.map .p) (y := .p (sd (sub.take 3))) rfl (by simp; omega)
  have e3 : tupleM [.p (.list ((sub.take 3).map .int))] [strm ns c' k', .lst (F.map .p)] = .ok (.p (sd (sub.take 3))) [strm ns c' k', .lst (F.map .p)] := by simp only [tupleM, seqW, mkTup_map]
  simp only [q_tidy, q_seq, q_set, ec, st_ok, List.set_cons_succ, List.set_cons_zero, q_expr, r_lm, r_var, List.getElem?_cons_succ, List.getElem?_cons_zero, bind_ok, lstAt_loc (m := [strm ns c' k', .lst (F.map .p)]) (n := 1) rfl, if_true, r_acons, r_anil, r_cb, r_cut, r_none, r_some, r_c, cutM, ct, e3, e2]
  have td := fun (s : Ev) (m : Hm) (h : m.length = [strm ns c k, Cell.lst (F.map .p)].length) => tidy_len (mask := [4, 5, 6]) (s := s) h
  rw [td _ _ (by rfl)]
  simp [wipeE]
theorem q_scopes {ns : List Int} {c : Int} {k : Nat} : ∃ (S : List (List Int)) (c' : Int) (k' : Nat), F__law_scopes [.loc 0, .p (.int 5), .p (.int 5)] [strm ns c k] = .ok (.p (sc S)) [strm ns c' k'] ∧ GoodS S := by
  obtain ⟨d, c1, k1, h1, h2, h3⟩ := q_next (ns := ns) (c := c) (k := k) (r := [.lst []]) (many := 5) (by omega) (by omega)
  have key := for_ex (gs := []) (t := .n 4) (e := fun i => W.p (.int i)) (xs := rgI (1 + d).toNat) (s := [some (.loc 0), some (.p (.int 5)), some (.p (.int 5)), some (.loc 1), none, none, none]) (m := [strm ns c1 k1, .lst []])
    (body := (sTidy [4, 5, 6] (sSeq (sSet 5 (eLc lcFin (iRg1 (eVar 2)) (.n 6) (bVal (eOp2 (eqM false) (eCall 2 F__law_next (aCons (eVar 0) (aCons (eC (.int 2)) aNil))) (eC (.int 1)))) (eVar 6) [6]))
      (sExpr (eLM appendM (eVar 3) (aCons (eCB tupleM (aCons (eCut (eVar 5) oNone (oSome (eC (.int 3)))) aNil)) aNil))))))
    (fun pre s m => ∃ (S : List (List Int)) (c : Int) (k : Nat), s = [some (.loc 0), some (.p (.int 5)), some (.p (.int 5)), some (.loc 1), none, none, none] ∧ m = [strm ns c k, .lst ((S.map sd).map .p)] ∧ S.length = pre.length ∧ ∀ s ∈ S, GoodL s)
    (fun _ _ _ _ => rfl) (fun pre x post s m hx => by
      rintro ⟨S, c, k, rfl, rfl, hl, hS⟩
      have lx : pre.length < 100 := by
        have := congrArg List.length hx
        simp [rgI] at this
        omega
      obtain ⟨s, c', k', g, e⟩ := one_scope (ns := ns) (c := c) (k := k) (F := S.map sd) (x := x) (by simp; omega)
      refine ⟨_, rfl, _, _, e, S ++ [s], c', k', rfl, by simp, by simp [hl], fun z hz => ?_⟩
      rcases List.mem_append.mp hz with hz | hz
      · exact hS z hz
      · simp at hz; subst hz; exact g) ⟨[], c1, k1, rfl, rfl, rfl, by simp⟩
  obtain ⟨s', m', e, S, c2, k2, rfl, rfl, hl, hS⟩ := key
  rw [rgI_len] at hl
  refine ⟨S, c2, k2, ?_, ⟨by omega, by omega, fun s hs => (hS s hs).1, fun s hs => (hS s hs).2.1, fun s hs => (hS s hs).2.2⟩⟩
  have b1 : decide (-1000000 ≤ 1 + d) = true := by simp; omega
  have b2 : decide (1 + d ≤ 1000000) = true := by simp; omega
  unfold F__law_scopes mkFn m__law_scopes
  simp only [startE, List.length_cons, List.length_nil, List.map_cons, List.map_nil, decide_true, if_true, q_seq, q_set, r_lstL, r_anil, bind_ok, sizeLine_eq, Nat.zero_le, st_ok, List.cons_append, List.nil_append, List.replicate, List.set_cons_succ, List.set_cons_zero, q_for, r_irg1, r_op2, r_c, r_call, r_acons, r_var,
    List.getElem?_cons_succ, List.getElem?_cons_zero, h1, o_add, b1, b2, Bool.and_self]
  rw [show ((rgP 0 (1 + d)).map W.p) = (rgI (1 + d).toNat).map fun i => W.p (.int i) by rw [rgP_int]; simp, e]
  have e3 : tupleM [.loc 1] [strm ns c2 k2, .lst ((S.map sd).map .p)] = .ok (.p (sc S)) [strm ns c2 k2, .lst ((S.map sd).map .p)] := by simp only [tupleM, seqW, List.getElem?_cons_succ, List.getElem?_cons_zero, mkTup_map]
  simp only [q_ret, r_cb, r_acons, r_var, List.getElem?_cons_succ, List.getElem?_cons_zero, r_anil, bind_ok, e3, st_ok, ret_rt]
  exact end1_p rfl
end Mir.K56

namespace Mir.K56
open PySem PySem.Spec PyProof.Rows L2
def PR (ps : List PyData) : Prop := ∀ p ∈ ps, ∃ a b : Int, p = .tuple [.int a, .int b]
theorem PR.sh {ps : List PyData} (h : PR ps) : ∀ p ∈ ps, Sh 1 p := fun p hp => by
  obtain ⟨a, b, rfl⟩ := h p hp
  exact Sh.tup fun x hx => by simp at hx; rcases hx with rfl | rfl <;> exact Sh.int _
theorem mvs_len {S : List (List Int)} {R : List Int} (k : Ok S R) : (mvs S R).length ≤ 4096 := by
  have := flat_len (mv_len k) R
  have := k.len
  unfold mvs
  omega
theorem mvs_mem {S : List (List Int)} {R : List Int} {p : PyData} (h : p ∈ mvs S R) : ∃ a ∈ R, ∃ b, p = .tuple [.int a, .int b] := by
  unfold mvs mv at h
  simp only [List.mem_flatMap, List.mem_map] at h
  obtain ⟨a, ha, b, _, rfl⟩ := h
  exact ⟨a, ha, b, rfl⟩
theorem tru_l {ds : List PyData} {m : Hm} : tru (.p (.list ds)) m = .ok (!ds.isEmpty) m := by cases ds <;> rfl
theorem tru_t {ds : List PyData} {m : Hm} : tru (.p (.tuple ds)) m = .ok (!ds.isEmpty) m := by cases ds <;> rfl
def bodyD : SX := (sTidy [4, 5, 6, 7] (sSeq (sSet 5 (eCall 2 F__law_moves (aCons (eVar 1) (aCons (eVar 2) aNil))))
  (sIf (bTru (eVar 5)) (sSeq (sSet 6 (eOp2 idxM (eVar 5) (eCall 2 F__law_next (aCons (eVar 0) (aCons (eCB lenM (aCons (eVar 5) aNil)) aNil)))))
  (sSeq (sSet 3 (eOp2 addM (eVar 3) (eTup (aCons (eVar 6) aNil))))
  (sSet 2 (eLc lcFin (iSeq (eVar 2)) (.n 7) (bVal (eOp2 (eqM true) (eVar 7) (eOp2 idxM (eVar 6) (eC (.int 0))))) (eVar 7) [7])))) sSkip)))
abbrev evD (S : List (List Int)) (R : List Int) (ps : List PyData) : Ev := [some (.loc 0), some (.p (sc S)), some (.p (.list (R.map .int))), some (.p (.tuple ps)), none, none, none, none]
theorem body_D {S : List (List Int)} {R : List Int} {ps : List PyData} {ns : List Int} {c : Int} {k : Nat} {x : W} (ok : Okr S R) (hp : PR ps) (hl : ps.length < 1000) : ∃ (R' : List Int) (ps' : List PyData) (c' : Int) (k' : Nat), bodyD [some (.loc 0), some (.p (sc S)), some (.p (.list (R.map .int))), some (.p (.tuple ps)), some x, none, none, none] [strm ns c k] = some (.nx (evD S R' ps'), [strm ns c' k']) ∧ Okr S R' ∧ PR ps' ∧ ps'.length ≤ ps.length + 1 := by
  have e1 := q_moves (m := [strm ns c k]) ok.toOk
  have l1 := mvs_len ok.toOk
  cases hm : mvs S R with
  | nil =>
    rw [hm] at e1
    refine ⟨R, ps, c, k, ?_, ok, hp, by omega⟩
    unfold bodyD
    simp [e1, tru_l]
    rw [tidy_len (by rfl)]
    simp [wipeE]
  | cons q qs =>
    have hpos : 0 < (mvs S R).length := by rw [hm]; simp
    obtain ⟨d, c', k', h1, h2, h3⟩ := q_next (ns := ns) (c := c) (k := k) (r := []) (many := (mvs S R).length) (by omega) (by omega)
    obtain ⟨p, hpm, e2⟩ := atI_mem h2 h3
    obtain ⟨a, ha, b, rfl⟩ := mvs_mem hpm
    have e0 : (mvs S R).isEmpty = false := by rw [hm]; rfl
    refine ⟨R.filter (· ≠ a), ps ++ [.tuple [.int a, .int b]], c', k', ?_, ok.fil a, fun z hz => ?_, by simp⟩
    · unfold bodyD
      have ea := o_addT (xs := ps) (ys := [.tuple [.int a, .int b]]) (m := [strm ns c' k']) (by simp; omega)
      simp [e1, tru_l, e0, h1, e2, sizeLine_eq, mkTup, ea]
      rw [lc_data R (fun i => .p (.int i)) (fun o => !(o == a)) .int (gs := []) (by simp [Function.comp_def]) rfl (by have := ok.len; omega) fun x hx => ⟨_, rfl, by simp [wipeE], by simp [wipeE]⟩]
      simp
      rw [tidy_len (by rfl)]
      simp [wipeE, bne_fil]
    · rcases List.mem_append.mp hz with hz | hz
      · exact hp z hz
      · simp at hz; exact ⟨a, b, hz⟩
theorem q_drawn {S : List (List Int)} {ns : List Int} {c : Int} {k : Nat} (g : GoodS S) : ∃ (h : Str) (ps : List PyData) (c' : Int) (k' : Nat), F__law_drawn [.loc 0, .p (sc S)] [strm ns c k] = .ok (.p (.tuple [.str h, .tuple ps])) [strm ns c' k'] ∧ (h = "edges" ∨ h = "stuck") ∧ PR ps ∧ ps.length ≤ 10 := by
  have hi := g.hi
  have lo := g.lo
  obtain ⟨d, c1, k1, h1, h2, h3⟩ := q_next (ns := ns) (c := c) (k := k) (r := []) (many := 4) (by omega) (by omega)
  obtain ⟨n, hn, hnl⟩ : ∃ n : Int, (S.length : Int) - 1 - (if (d == 0) = true then 1 else 0) = n ∧ (-1 ≤ n ∧ n ≤ 4) := ⟨_, rfl, by split <;> omega⟩
  have key := for_ex (gs := []) (t := .n 4) (e := fun i => W.p (.int i)) (xs := rgI n.toNat) (s := evD S (rgI S.length) []) (m := [strm ns c1 k1]) (body := bodyD)
    (fun pre s m => ∃ (R : List Int) (ps : List PyData) (c : Int) (k : Nat), s = evD S R ps ∧ m = [strm ns c k] ∧ Okr S R ∧ PR ps ∧ ps.length ≤ pre.length) (fun _ _ _ _ => rfl) (fun pre x post s m hx => by
      rintro ⟨R, ps, c, k, rfl, rfl, ok, hp, hl⟩
      have lx : pre.length < 100 := by
        have := congrArg List.length hx
        simp [rgI] at this
        omega
      obtain ⟨R', ps', c', k', e, ok', hp', hl'⟩ := body_D (ns := ns) (c := c) (k := k) (x := .p (.int x)) ok hp (by omega)
      exact ⟨_, rfl, _, _, e, R', ps', c', k', rfl, rfl, ok', hp', by simp; omega⟩) ⟨_, [], c1, k1, rfl, rfl, okr_rg g.hi g.sh, fun p hp => by simp at hp, by simp⟩
  obtain ⟨s', m', e, R, ps, c2, k2, rfl, rfl, ok, hp, hl⟩ := key
  rw [rgI_len] at hl
  have e5 : (rgP 0 n).map W.p = (rgI n.toNat).map fun i => W.p (.int i) := by rw [rgP_int]; simp
  have b1 : (-1000000 ≤ n) := by omega
  have b2 : (n ≤ 1000000) := by omega
  refine ⟨if R.length = 1 then "edges" else "stuck", ps, c2, k2, ?_, by split <;> simp, hp, by omega⟩
  unfold F__law_drawn mkFn m__law_drawn
  rw [← bodyD]
  simp [startE]
  rw [rg_l (by omega)]
  simp [sizeLine_eq, mkTup, h1]
  have hn' : (S.length : Int) - 1 - (if d = 0 then 1 else 0) = n := by rw [← hn]; simp
  rw [hn']
  simp [b1, b2]
  have e6 : (rgP 0 n).map W.p = (rgI n.toNat).map fun i => W.p (.int i) := e5
  rw [e5, e]
  have e7 : ((R.length : Int) == 1) = (R.length == 1) := by rw [Bool.eq_iff_iff]; simp; omega
  by_cases hr : R.length = 1
  · simp [hr, mkTup, sizeLine_eq]
    exact end1_p rfl
  · have hr' : ¬ (R.length : Int) = 1 := by omega
    simp [hr, hr', mkTup, sizeLine_eq]
    exact end1_p rfl
end Mir.K56

namespace Mir.K56
open PySem PySem.Spec PyProof.Rows L2
theorem shStr {n : Nat} {h : Str} (e : h = "edges" ∨ h = "stuck") : Sh n (.str h) := by rcases e with rfl | rfl <;> exact ⟨by decide +kernel, Nat.zero_le _⟩
theorem sh_cons {n : Nat} {x : PyData} {xs : List PyData} (h : Sh n x) (t : ∀ y ∈ xs, Sh n y) : ∀ y ∈ x :: xs, Sh n y := fun y hy => by
  rcases List.mem_cons.mp hy with rfl | hy
  · exact h
  · exact t y hy
theorem sh_nil {n : Nat} : ∀ y ∈ ([] : List PyData), Sh n y := fun y hy => by cases hy
/-- what the change of a value gives: data of small depth -/
def Tur (ns : List Int) (x : Res W) : Prop := ∃ (v : PyData) (c' : Int) (k' : Nat), x = .ok (.p v) [strm ns c' k'] ∧ Sh 8 v
theorem q_pick {xs : List PyData} {ns : List Int} {c : Int} {k : Nat} {n : Nat} {Z : PyData → Prop} (hn : xs.length = n) (h0 : 0 < n) (h1 : n < 1000) (hz : ∀ x ∈ xs, Z x) : ∃ (v : PyData) (d c' : Int) (k' : Nat), F__law_next [.loc 0, .p (.int n)] [strm ns c k] = .ok (.p (.int d)) [strm ns c' k'] ∧ atI xs d = some v ∧ Z v := by
  obtain ⟨d, c', k', h1, h2, h3⟩ := q_next (ns := ns) (c := c) (k := k) (r := []) (many := n) (by omega) (by omega)
  obtain ⟨v, hv, e⟩ := atI_mem (xs := xs) h2 (by omega)
  exact ⟨v, d, c', k', h1, e, hz v hv⟩
theorem q_turned {S : List (List Int)} {ns : List Int} {c : Int} {k : Nat} {h : Str} {ps : List PyData} (g : GoodS S) (hh : h = "edges" ∨ h = "stuck") (hp : PR ps) (hl : ps.length ≤ 64) : Tur ns (F__law_turned [.loc 0, .p (sc S), .p (.tuple [.str h, .tuple ps])] [strm ns c k]) := by
  have hi := g.hi
  have lo := g.lo
  have sp : ∀ n, 1 ≤ n → ∀ p ∈ ps, Sh n p := fun n hn p h => (hp.sh p h).mono hn
  have sr : ∀ n, 2 ≤ n → Sh n (.tuple ps) := fun n hn => (Sh.tup hp.sh).mono hn
  have sh : ∀ n, Sh n (.str h) := fun n => shStr hh
  have sv : Sh 3 (.tuple [.str h, .tuple ps]) := Sh.tup (sh_cons (sh _) (sh_cons (sr _ (by omega)) sh_nil))
  obtain ⟨pk, c1, k1, e1, p0, p1⟩ := q_next (ns := ns) (c := c) (k := k) (r := []) (many := 4) (by omega) (by omega)
  obtain ⟨nd, c2, k2, e2, n0, n1⟩ := q_next (ns := ns) (c := c1) (k := k1) (r := []) (many := S.length) (by omega) (by omega)
  have ee : eqM false (.p (.str h)) (.p (.str "edges")) [strm ns c2 k2] = .ok (.p (.bool (decide (h = "edges")))) [strm ns c2 k2] := by
    rcases hh with rfl | rfl
    · rw [eq_sh (by decide +kernel) (by decide +kernel)]
      rfl
    · rw [eq_sh (by decide +kernel) (by decide +kernel)]
      rfl
  have sE : ∀ n, Sh n (.str "Edges") := fun n => ⟨by decide +kernel, Nat.zero_le _⟩
  have se : ∀ n, Sh n (.str "edges") := fun n => ⟨by decide +kernel, Nat.zero_le _⟩
  have ss : ∀ n, Sh n (.str "stuck") := fun n => ⟨by decide +kernel, Nat.zero_le _⟩
  unfold F__law_turned mkFn m__law_turned
  by_cases hp0 : pk = 0
  · obtain ⟨v, d, c3, k3, e3, ev, hv⟩ := q_pick (ns := ns) (c := c2) (k := k2) (n := 10) (Z := Sh 8) (xs := [.none, .list [.str h, .tuple ps], .tuple [.str h], .tuple [.str h, .tuple ps, .int 0], .tuple [.tuple ps, .str h], .tuple [.str h, .list ps], .tuple [.str h, .none], .tuple [.str "Edges", .tuple ps],
      .tuple [if h = "edges" then .str "stuck" else .str "edges", .tuple ps], .tuple [.none, .tuple ps]]) rfl (by omega) (by omega) (by
        refine sh_cons Sh.non (sh_cons ((Sh.lst (n := 2) ?_).mono (by omega)) (sh_cons ((Sh.tup (n := 2) ?_).mono (by omega)) (sh_cons ((Sh.tup (n := 2) ?_).mono (by omega)) (sh_cons ((Sh.tup (n := 2) ?_).mono (by omega)) (sh_cons ((Sh.tup (n := 2) ?_).mono (by omega)) (sh_cons ((Sh.tup (n := 2) ?_).mono (by omega)) (sh_cons ((Sh.tup (n := 2) ?_).mono (by omega)) (sh_cons ((Sh.tup (n := 2) ?_).mono (by omega)) (sh_cons ((Sh.tup (n := 2) ?_).mono (by omega)) sh_nil)))))))))
        · exact sh_cons (sh _) (sh_cons (sr _ (by omega)) sh_nil)
        · exact sh_cons (sh _) sh_nil
        · exact sh_cons (sh _) (sh_cons (sr _ (by omega)) (sh_cons (Sh.int _) sh_nil))
        · exact sh_cons (sr _ (by omega)) (sh_cons (sh _) sh_nil)
        · exact sh_cons (sh _) (sh_cons (Sh.lst hp.sh) sh_nil)
        · exact sh_cons (sh _) (sh_cons Sh.non sh_nil)
        · exact sh_cons (sE _) (sh_cons (sr _ (by omega)) sh_nil)
        · exact sh_cons (by split; exact ss _; exact se _) (sh_cons (sr _ (by omega)) sh_nil)
        · exact sh_cons Sh.non (sh_cons (sr _ (by omega)) sh_nil))
    refine ⟨v, c3, k3, ?_, hv⟩
    have l1 : listM [.p (.tuple [.str h, .tuple ps])] [strm ns c2 k2] = .ok (.p (.list [.str h, .tuple ps])) [strm ns c2 k2] := by simp [listM, seqW]
    have l2 : listM [.p (.tuple ps)] [strm ns c2 k2] = .ok (.p (.list ps)) [strm ns c2 k2] := by simp [listM, seqW]
    have l3 : addM (.p (.tuple [.str h, .tuple ps])) (.p (.tuple [.int 0])) [strm ns c2 k2] = .ok (.p (.tuple [.str h, .tuple ps, .int 0])) [strm ns c2 k2] := o_addT (by simp)
    have e3 : F__law_next [.loc 0, .p (.int 10)] [strm ns c2 k2] = .ok (.p (.int d)) [strm ns c3 k3] := e3
    subst hp0
    by_cases he : h = "edges"
    · subst he
      simp at ev
      simp [startE, e1, e2, Tg.put, Tg.puts, seqT, mkTup, sizeLine_eq, l1, l2, l3, ee, e3, ev]
      exact end1_p rfl
    · simp [he] at ev
      simp [startE, e1, e2, Tg.put, Tg.puts, seqT, mkTup, sizeLine_eq, l1, l2, l3, ee, he, e3, ev]
      exact end1_p rfl
  · have hp0' : (pk == 0) = false := by simpa using hp0
    by_cases hc : pk = 1 ∧ ps ≠ []
    · obtain ⟨rfl, hne⟩ := hc
      have hpos : 0 < ps.length := List.length_pos_iff.mpr hne
      have hem : ps.isEmpty = false := by simpa using hne
      obtain ⟨va, d3, c3, k3, e3, ea, a, rfl, a0, a1⟩ := q_pick (ns := ns) (c := c2) (k := k2) (n := 3) (Z := fun v => ∃ a : Int, v = .int a ∧ 0 ≤ a ∧ a < ps.length) (xs := [.int 0, .int ((ps.length : Int) / 2), .int ((ps.length : Int) - 1)]) rfl (by omega) (by omega)
        (fun v hv => by simp at hv; rcases hv with rfl | rfl | rfl; exact ⟨_, rfl, by omega, by omega⟩; exact ⟨_, rfl, by omega, by omega⟩; exact ⟨_, rfl, by omega, by omega⟩)
      obtain ⟨p, hpm, er⟩ := atI_mem a0 a1
      obtain ⟨x, y, rfl⟩ := hp p hpm
      have i2 : ∀ {u v : PyData}, Sh 0 u → Sh 0 v → Sh 2 (.tuple [u, v]) := fun hu hv => (Sh.tup (n := 1) (sh_cons (hu.mono (by omega)) (sh_cons (hv.mono (by omega)) sh_nil))).mono (by omega)
      obtain ⟨o, d4, c4, k4, e4, eo, ho⟩ := q_pick (ns := ns) (c := c3) (k := k3) (n := 11) (Z := Sh 2) (xs := [.none, .tuple [.int y, .int x], .tuple [.int x, .int nd], .tuple [.int nd, .int y], .tuple [.int nd, .int nd], .list [.int x, .int y], .tuple [.int x], .tuple [.bool true, .int nd], .tuple [.int nd, .none], .tuple [.int x, .int 9], .tuple [.int (-1), .int nd]]) rfl (by omega) (by omega) (by
        refine sh_cons Sh.non (sh_cons (i2 (Sh.int _) (Sh.int _)) (sh_cons (i2 (Sh.int _) (Sh.int _)) (sh_cons (i2 (Sh.int _) (Sh.int _)) (sh_cons (i2 (Sh.int _) (Sh.int _)) (sh_cons ?_ (sh_cons ?_ (sh_cons (i2 (Sh.bl _) (Sh.int _)) (sh_cons (i2 (Sh.int _) Sh.non) (sh_cons (i2 (Sh.int _) (Sh.int _)) (sh_cons (i2 (Sh.int _) (Sh.int _)) sh_nil))))))))))
        · exact (Sh.lst (n := 1) (sh_cons (Sh.int _) (sh_cons (Sh.int _) sh_nil))).mono (by omega)
        · exact (Sh.tup (n := 1) (sh_cons (Sh.int _) sh_nil)).mono (by omega))
      obtain ⟨v, d5, c5, k5, e5, ev, hv⟩ := q_pick (ns := ns) (c := c4) (k := k4) (n := 6) (Z := Sh 4) (xs := [.tuple (cutA ps (some 1) none), .tuple (cutA ps none (some (-1))), .tuple (ps.reverse.take ps.length), .tuple (ps ++ cutA ps (some (-1)) none), .tuple [], .tuple (cutA ps none (some a) ++ (o :: cutA ps (some (a + 1)) none))]) rfl (by omega) (by omega) (by
        have cm : ∀ lo hi, ∀ p ∈ cutA ps lo hi, Sh 3 p := fun lo hi p h => sp 3 (by omega) p (cutA_mem p h)
        refine sh_cons (Sh.tup (cm _ _)) (sh_cons (Sh.tup (cm _ _)) (sh_cons (Sh.tup fun p h => sp 3 (by omega) p (List.mem_reverse.mp (List.mem_of_mem_take h))) (sh_cons (Sh.tup fun p h => ?_) (sh_cons (Sh.tup sh_nil) (sh_cons (Sh.tup fun p h => ?_) sh_nil)))))
        · rcases List.mem_append.mp h with h | h
          · exact sp 3 (by omega) p h
          · exact cm _ _ p h
        · rcases List.mem_append.mp h with h | h
          · exact cm _ _ p h
          · rcases List.mem_cons.mp h with rfl | h
            · exact ho.mono (by omega)
            · exact cm _ _ p h)
      refine ⟨.tuple [.str h, v], c5, k5, ?_, (Sh.tup (n := 4) (sh_cons (sh _) (sh_cons hv sh_nil))).mono (by omega)⟩
      have e3 : F__law_next [.loc 0, .p (.int 3)] [strm ns c2 k2] = .ok (.p (.int d3)) [strm ns c3 k3] := e3
      have e4 : F__law_next [.loc 0, .p (.int 11)] [strm ns c3 k3] = .ok (.p (.int d4)) [strm ns c4 k4] := e4
      have e5 : F__law_next [.loc 0, .p (.int 6)] [strm ns c4 k4] = .ok (.p (.int d5)) [strm ns c5 k5] := e5
      have cl : ∀ lo hi, (cutA ps lo hi).length ≤ 64 := fun lo hi => by unfold cutA; simp; omega
      have l1 : listM [.p (.tuple [.int x, .int y])] [strm ns c3 k3] = .ok (.p (.list [.int x, .int y])) [strm ns c3 k3] := by simp [listM, seqW]
      have a1' := o_addT (xs := ps) (ys := cutA ps (some (-1)) none) (m := [strm ns c3 k3]) (by have := cl (some (-1)) none; omega)
      have a2 := o_addT (xs := cutA ps none (some a)) (ys := [o]) (m := [strm ns c4 k4]) (by have := cl none (some a); simp; omega)
      have a3 := o_addT (xs := cutA ps none (some a) ++ [o]) (ys := cutA ps (some (a + 1)) none) (m := [strm ns c4 k4]) (by have := cl none (some a); have := cl (some (a + 1)) none; simp; omega)
      have dv := o_div (i := ps.length) (j := 2) (m := [strm ns c2 k2]) (by omega) (by omega)
      have n1 : negM (.p (.int 1)) [strm ns c3 k3] = .ok (.p (.int (-1))) [strm ns c3 k3] := rfl
      have rv : ∀ ds, revM none (.p (.tuple ds)) [strm ns c3 k3] = .ok (.p (.tuple (ds.reverse.take ds.length))) [strm ns c3 k3] := fun _ => rfl
      simp [startE, e1, e2, Tg.put, Tg.puts, seqT, mkTup, sizeLine_eq, tru_t, hem, dv, e3, ea, er, rv, l1, n1, cutM, a1', e4, eo, a2, a3, e5, ev]
      exact end1_p rfl
    · refine ⟨.tuple [.str h, .tuple ps], c2, k2, ?_, sv.mono (by omega)⟩
      by_cases hp1 : pk = 1
      · have hps : ps = [] := by
          by_cases q : ps = []
          · exact q
          · exact absurd ⟨hp1, q⟩ hc
        subst hps
        subst hp1
        simp [startE, e1, e2, Tg.put, Tg.puts, seqT, tru_t]
        exact end1_p rfl
      · simp [startE, e1, e2, Tg.put, Tg.puts, seqT, hp0, hp1]
        exact end1_p rfl
end Mir.K56

namespace Mir.K56
open PySem PySem.Spec PyProof.Rows L2
/-! ### the same word, however the nodes go -/
abbrev St (S : List (List Int)) (n v : Int) : Prop := v ∈ nth S n
theorem cg_iff {S : List (List Int)} {R : List Int} {a b : Int} : cg S R a b = true ↔ Go (St S) R a b := by
  unfold cg shr Go St
  simp only [List.all_eq_true, List.mem_filter, decide_eq_true_eq, List.any_eq_true]
  constructor
  · rintro h v hv ⟨o, ho, hn, hov⟩
    exact h v ⟨hv, o, ⟨ho, by simpa using hn⟩, hov⟩
  · rintro h v ⟨hv, o, ⟨ho, hn⟩, hov⟩
    exact h v hv ⟨o, ho, by simpa using hn, hov⟩
theorem irr_iff {S : List (List Int)} {R : List Int} (h : Irr S R) : Red1 (St S) R ↔ R.length = 1 := Red1.stuck fun a ha b hb hba g => by
  have := h a ha b hb hba
  rw [cg_iff.mpr g] at this
  cases this
theorem ch_iff {S : List (List Int)} {R T : List Int} {ps : List PyData} (h : Ch S R ps T) : R.Nodup → (Red1 (St S) R ↔ Red1 (St S) T) := by
  induction h with
  | nil R => exact fun _ => Iff.rfl
  | cons ha hb hba hc _ ih => exact fun nd => (Red1.iff nd ha hb hba (cg_iff.mp hc)).trans (ih (nd.sublist List.filter_sublist))
theorem ch_fold {S : List (List Int)} {R T : List Int} {ps : List PyData} (h : Ch S R ps T) : ps.foldlM (stepB S) R = some T := by
  induction h with
  | nil R => rfl
  | @cons R T a b ps ha hb hba hc _ ih =>
    rw [List.foldlM_cons]
    have : stepB S R (.tuple [.int a, .int b]) = some (R.filter (· ≠ a)) := by
      unfold stepB
      simp only
      rw [if_pos ⟨fun e => hba e.symm, ha, hb, hc⟩]
    rw [this]
    exact ih
theorem ch_pr {S : List (List Int)} {R T : List Int} {ps : List PyData} (h : Ch S R ps T) : PR ps := by
  induction h with
  | nil R => exact fun p hp => by cases hp
  | cons ha hb hba hc _ ih =>
    intro p hp
    rcases List.mem_cons.mp hp with rfl | hp
    · exact ⟨_, _, rfl⟩
    · exact ih p hp
theorem fold_iff {S : List (List Int)} : ∀ {ps : List PyData} {R R' : List Int}, R.Nodup → ps.foldlM (stepB S) R = some R' → (Red1 (St S) R ↔ Red1 (St S) R')
  | [], R, R', nd, h => by simp at h; subst h; exact Iff.rfl
  | p :: ps, R, R', nd, h => by
    rw [List.foldlM_cons] at h
    cases e : stepB S R p with
    | none => rw [e] at h; cases h
    | some R2 =>
      rw [e] at h
      obtain ⟨h1, h2, h3, a, ha, b, hb, hba, hc, rfl⟩ := step_len nd e
      exact (Red1.iff nd ha hb hba (cg_iff.mp hc)).trans (fold_iff h3 h)
theorem eqv_str (h z : Str) : PyData.eqv (.str h) (.str z) = true ↔ h = z := by
  show (h == z) = true ↔ _
  exact beq_iff_eq
theorem acc_told {S : List (List Int)} {T : List Int} {ps : List PyData} (g : GoodS S) (h : Ch S (rgI S.length) ps T) (irr : Irr S T) : acc S (.tuple [.str (word T), .tuple ps]) = true := by
  have k := okr_rg g.hi g.sh
  have e := ch_fold h
  obtain ⟨q1, q2, _⟩ := fold_len k.nd e
  rw [rgI_len] at q1 q2
  have q2 := q2 g.lo
  simp only [acc, remB_fold k g.lo, e, fin]
  unfold word
  by_cases ht : T.length = 1
  · rw [if_pos ht, if_pos ((eqv_str _ _).mpr rfl)]
    simpa using ht
  · rw [if_neg ht, if_neg (by rw [eqv_str]; decide +kernel), (eqv_str _ _).mpr rfl, irrB_iff.mpr irr]
    simp; omega
theorem same_word {S : List (List Int)} {T : List Int} {ps : List PyData} {v : PyData} (g : GoodS S) (h : Ch S (rgI S.length) ps T) (irr : Irr S T) (hv : acc S v = true) : ∃ r, v = .tuple [.str (word T), r] := by
  have k := okr_rg g.hi g.sh
  unfold acc at hv
  split at hv
  · rename_i z r
    split at hv
    · rename_i R e
      refine ⟨r, ?_⟩
      have : z = word T := by
        have base : Red1 (St S) (rgI S.length) ↔ T.length = 1 := (ch_iff h k.nd).trans (irr_iff irr)
        have other : Red1 (St S) (rgI S.length) ↔ Red1 (St S) R := by
          cases r with
          | tuple qs => rw [remB_fold k g.lo] at e; exact fold_iff k.nd e
          | _ => cases e
        unfold fin at hv
        unfold word
        split at hv
        · rename_i c
          rw [(eqv_str _ _).mp c]
          have : R.length = 1 := by simpa using hv
          rw [if_pos (base.mp (other.mpr (.one this)))]
        · rw [Bool.and_eq_true, Bool.and_eq_true, decide_eq_true_eq, eqv_str] at hv
          obtain ⟨rfl, hl, hi⟩ := hv
          rw [if_neg]
          intro ht
          have := (irr_iff (irrB_iff.mp hi)).mp (other.mp (base.mpr ht))
          omega
      rw [this]
    · cases hv
  · cases hv
/-! ### the law -/
theorem q_equal {a : Bool} {m : Hm} : F__law_equal 5 [.p (.bool a), .p (.bool a)] m = .ok (.p (.bool true)) m := by
  have e : eqM false (.p (.bool a)) (.p (.bool a)) m = .ok (.p (.bool true)) m := by cases a <;> rfl
  unfold F__law_equal mkFn m__law_equal
  simp [startE, isiM, tyN, isiA, e, isNone, endFn_p]
theorem word_cases (T : List Int) : word T = "edges" ∨ word T = "stuck" := by unfold word; split <;> simp
theorem law_true : ∀ ns : List Int, ns.length ≤ 63 → ∃ m, F_law [.ro (ns.map .int)] [] = .ok (.p (.bool true)) m := by
  intro ns _
  obtain ⟨S, c1, k1, e1, g⟩ := q_scopes (ns := ns) (c := 0) (k := 0)
  have e1 : F__law_scopes [.loc 0, .p (.int 5), .p (.int 5)] [strm ns 0 0] = .ok (.p (sc S)) [strm ns c1 k1] := e1
  obtain ⟨T, ps, e2, hch, irr⟩ := q_edge (x := strm ns c1 k1) g rfl
  have k := okr_rg g.hi g.sh
  have hpr := ch_pr hch
  have hlen : ps.length ≤ 64 := by
    have := (fold_len k.nd (ch_fold hch)).1
    rw [rgI_len] at this
    have := g.hi
    omega
  have at_ := acc_told g hch irr
  have shT : Sh 8 (.tuple [.str (word T), .tuple ps]) := (Sh.tup (n := 2) (sh_cons (shStr (word_cases T)) (sh_cons (Sh.tup hpr.sh) sh_nil))).mono (by omega)
  have e3 := q_accepts (x := strm ns c1 k1) (v := .tuple [.str (word T), .tuple ps]) g rfl shT.1
  rw [at_] at e3
  have key := for_ex (gs := []) (t := .n 4) (e := fun i => W.p (.int i)) (xs := rgI 6) (s := [some (.ro (ns.map .int)), some (.loc 0), some (.p (sc S)), some (.p (.tuple [.str (word T), .tuple ps])), none, none, none]) (m := [strm ns c1 k1])
    (body := (sTidy [4, 5, 6] (sSeq (sSet 5 (eCall 3 F__law_turned (aCons (eVar 1) (aCons (eVar 2) (aCons (eOp2 idxM (eLst (aCons (eVar 3) (aCons (eCall 2 F__law_drawn (aCons (eVar 1) (aCons (eVar 2) aNil))) aNil))) (eCall 2 F__law_next (aCons (eVar 1) (aCons (eC (.int 2)) aNil)))) aNil)))))
      (sSeq (sSet 6 (eCall 2 F_accepts_removal (aCons (eVar 2) (aCons (eVar 5) aNil))))
      (sIf (bOr (bNot (bTru (eCall 2 (F__law_equal 5) (aCons (eVar 6) (aCons (eCall 2 F__law_is_evidence (aCons (eVar 2) (aCons (eVar 5) aNil))) aNil))))) (bAnd (bTru (eVar 6)) (bVal (eOp2 (eqM true) (eOp2 idxM (eVar 5) (eC (.int 0))) (eOp2 idxM (eVar 3) (eC (.int 0))))))) (sRet (eC (.bool false))) sSkip)))))
    (fun pre s m => ∃ (c : Int) (k : Nat), s = [some (.ro (ns.map .int)), some (.loc 0), some (.p (sc S)), some (.p (.tuple [.str (word T), .tuple ps])), none, none, none] ∧ m = [strm ns c k]) (fun _ _ _ _ => rfl) (fun pre x post s m hx => by
      rintro ⟨c, k, rfl, rfl⟩
      obtain ⟨hd, qs, c2, k2, d1, dh, dp, dl⟩ := q_drawn (ns := ns) (c := c) (k := k) g
      obtain ⟨v0, d, c3, k3, n1, n2, h0, q0, rfl, hh0, hp0, hl0⟩ := q_pick (ns := ns) (c := c2) (k := k2) (n := 2) (Z := fun v => ∃ (h : Str) (qs : List PyData), v = .tuple [.str h, .tuple qs] ∧ (h = "edges" ∨ h = "stuck") ∧ PR qs ∧ qs.length ≤ 64) (xs := [.tuple [.str (word T), .tuple ps], .tuple [.str hd, .tuple qs]]) rfl (by omega) (by omega)
        (fun v hv => by simp at hv; rcases hv with rfl | rfl; exact ⟨_, _, rfl, word_cases T, hpr, hlen⟩; exact ⟨_, _, rfl, dh, dp, by omega⟩)
      have n1 : F__law_next [.loc 0, .p (.int 2)] [strm ns c2 k2] = .ok (.p (.int d)) [strm ns c3 k3] := n1
      obtain ⟨v, c4, k4, t1, tv⟩ := q_turned (ns := ns) (c := c3) (k := k3) g hh0 hp0 hl0
      have a1 := q_accepts (x := strm ns c4 k4) g rfl tv.1
      have a2 := q_evid (m := [strm ns c4 k4]) g (tv.ok (by omega))
      refine ⟨_, rfl, [some (.ro (ns.map .int)), some (.loc 0), some (.p (sc S)), some (.p (.tuple [.str (word T), .tuple ps])), none, none, none], [strm ns c4 k4], ?_, c4, k4, rfl, rfl⟩
      cases ha : acc S v with
      | false =>
        rw [ha] at a1 a2
        have e9 := q_equal (a := false) (m := [strm ns c4 k4])
        simp [d1, sizeLine_eq, n1, n2, t1, a1, a2, e9]
        rw [tidy_len (by rfl)]
        simp [wipeE]
      | true =>
        rw [ha] at a1 a2
        obtain ⟨r, rfl⟩ := same_word g hch irr ha
        have e9 := q_equal (a := true) (m := [strm ns c4 k4])
        have ne : eqM true (.p (.str (word T))) (.p (.str (word T))) [strm ns c4 k4] = .ok (.p (.bool false)) [strm ns c4 k4] := by
          have s1 : SeqAt.shaped (.str (word T)) = true := (shStr (n := 0) (word_cases T)).ok (by omega)
          simp [eqM, s1, (eqv_str (word T) (word T)).mpr rfl]
        simp [d1, sizeLine_eq, n1, n2, t1, a1, a2, e9, ne]
        rw [tidy_len (by rfl)]
        simp [wipeE]) ⟨c1, k1, rfl, rfl⟩
  obtain ⟨s', m', e, c2, k2, rfl, rfl⟩ := key
  refine ⟨[], ?_⟩
  have e5 : (rgP 0 6).map W.p = (rgI 6).map fun i => W.p (.int i) := by rw [show (6 : Int) = ((6 : Nat) : Int) from rfl, rgP_eq]; simp
  have bl : isBlM true (.p (.bool true)) (.p (.bool true)) [strm ns c1 k1] = .ok (.p (.bool false)) [strm ns c1 k1] := rfl
  unfold F_law mkFn m_law
  simp [startE, q_stream, e1, e2, e3, bl]
  rw [e5, e]
  simp
  simp [endFn, okM, okW]
end Mir.K56

namespace Mir.K56
open PySem PySem.Spec PyProof.Rows L2
def dd (x : Str) (i : Nat) : He.DefD := ⟨(x, none), x, x, defArgs (top i), defBody (top i), defScope (top i), [], []⟩
def fn : List He.DefD := [dd "is_whole" 6, dd "is_climbing" 7, dd "are_variables" 8, dd "is_scope" 9, dd "are_scopes" 12, dd "check_scopes" 13, dd "shared_with_others" 15, dd "can_go" 16, dd "next_pair" 17, dd "edge_evidence" 18, dd "remaining_behind" 19, dd "accepts_removal" 20, dd "_law_stream" 22, dd "_law_next" 23, dd "_law_is_integer" 24, dd "_law_equal" 25, dd "_law_scopes" 26, dd "_law_can_go" 27, dd "_law_moves" 28, dd "_law_is_evidence" 29, dd "_law_drawn" 30, dd "_law_turned" 31, dd "law" 32]
def fa : List He.Fa := [.glo "is_whole", .glo "is_climbing", .glo "are_variables", .glo "is_scope", .glo "are_scopes", .glo "check_scopes", .glo "shared_with_others", .glo "can_go", .glo "next_pair", .glo "edge_evidence", .glo "remaining_behind", .glo "accepts_removal", .glo "_law_stream", .glo "_law_next", .glo "_law_is_integer", .glo "_law_equal", .glo "_law_scopes", .glo "_law_can_go", .glo "_law_moves", .glo "_law_is_evidence", .glo "_law_drawn", .glo "_law_turned", .glo "law", .free "abs", .free "all", .free "any", .free "bool", .free "int", .free "isinstance", .free "len", .free "list", .free "range", .free "str", .free "tuple", .int "MOST_NODES" 5, .int "MOST_VARIABLE" 5, .int "WIDEST_SCOPE" 3]
abbrev R : PySem.W.OpenRow := PySem.W.OpenLaw.row PySem.Challenge.rw_tabletalk_k56_whole_removals_by_whomever
abbrev hk : PySem.W.Hook := He.hookD 4 fa fn
def ob (s : PySem.W.SharedT) : He.AlD := He.obsDG 4 fa fn (HandSHeadRun.getT s)
theorem ob_eq (s : PySem.W.SharedT) : ob s = hk.obs s.abs := He.obsDG_eq (HandSHeadRun.getT_eq s)
def loose : List Str := ["TableError", "BadValue", "MOST_VARIABLE", "WIDEST_SCOPE", "is_whole", "is_climbing", "are_variables", "is_scope", "MOST_NODES", "are_scopes", "check_scopes", "shared_with_others", "can_go", "next_pair", "edge_evidence", "remaining_behind", "accepts_removal", "_law_stream", "_law_next", "_law_is_integer", "_law_equal", "_law_scopes", "_law_can_go", "_law_moves", "_law_is_evidence", "_law_drawn", "_law_turned"]
theorem run (w : World) : HandSHeadRun.RunEq R (PySem.W.view R.prog [32]) hk ob 4000 loose w := by
  intro os
  kernel_rfl
theorem facts {P : Program} {w : World} {K : PySem.W.Frag} {h : Heap} {mg : Str → Option Value} {f : Addr} (X : K.In h) (N : h.Ns mainGlobals mg) (hfa : mg ("law" : Str) = some (.ref f)) (c : He.SaysD fa fn K) :
    ∃ fd : FuncData, (∀ (s : Shared) (v : Value), BindsTo s fd ⟨[v], []⟩ [("_law_script", v)]) ∧ ∀ base : Heap, K.In base → base.Ns mainGlobals mg → FnOk P w K mg base (L2.CX P w) 8 f fd ["_law_script"] (SpF K F_law 1) := by
  have G : Globs mg := ⟨He.free_ok X N (c.fact 23 (f := .free "abs") rfl),
    He.free_ok X N (c.fact 24 (f := .free "all") rfl),
    He.free_ok X N (c.fact 25 (f := .free "any") rfl),
    He.free_ok X N (c.fact 26 (f := .free "bool") rfl),
    He.free_ok X N (c.fact 27 (f := .free "int") rfl),
    He.free_ok X N (c.fact 28 (f := .free "isinstance") rfl),
    He.free_ok X N (c.fact 29 (f := .free "len") rfl),
    He.free_ok X N (c.fact 30 (f := .free "list") rfl),
    He.free_ok X N (c.fact 31 (f := .free "range") rfl),
    He.free_ok X N (c.fact 32 (f := .free "str") rfl),
    He.free_ok X N (c.fact 33 (f := .free "tuple") rfl),
    He.int_ok X N (c.fact 34 (f := .int "MOST_NODES" 5) rfl),
    He.int_ok X N (c.fact 35 (f := .int "MOST_VARIABLE" 5) rfl),
    He.int_ok X N (c.fact 36 (f := .int "WIDEST_SCOPE" 3) rfl)⟩
  obtain ⟨fd_is_whole, A_is_whole⟩ := c.def_ 0 (d := dd "is_whole" 6) rfl
  have g_is_whole := He.glo_ok X N (c.fact 0 (f := .glo "is_whole") rfl)
  obtain ⟨fd_is_climbing, A_is_climbing⟩ := c.def_ 1 (d := dd "is_climbing" 7) rfl
  have g_is_climbing := He.glo_ok X N (c.fact 1 (f := .glo "is_climbing") rfl)
  obtain ⟨fd_are_variables, A_are_variables⟩ := c.def_ 2 (d := dd "are_variables" 8) rfl
  have g_are_variables := He.glo_ok X N (c.fact 2 (f := .glo "are_variables") rfl)
  obtain ⟨fd_is_scope, A_is_scope⟩ := c.def_ 3 (d := dd "is_scope" 9) rfl
  have g_is_scope := He.glo_ok X N (c.fact 3 (f := .glo "is_scope") rfl)
  obtain ⟨fd_are_scopes, A_are_scopes⟩ := c.def_ 4 (d := dd "are_scopes" 12) rfl
  have g_are_scopes := He.glo_ok X N (c.fact 4 (f := .glo "are_scopes") rfl)
  obtain ⟨fd_check_scopes, A_check_scopes⟩ := c.def_ 5 (d := dd "check_scopes" 13) rfl
  have g_check_scopes := He.glo_ok X N (c.fact 5 (f := .glo "check_scopes") rfl)
  obtain ⟨fd_shared_with_others, A_shared_with_others⟩ := c.def_ 6 (d := dd "shared_with_others" 15) rfl
  have g_shared_with_others := He.glo_ok X N (c.fact 6 (f := .glo "shared_with_others") rfl)
  obtain ⟨fd_can_go, A_can_go⟩ := c.def_ 7 (d := dd "can_go" 16) rfl
  have g_can_go := He.glo_ok X N (c.fact 7 (f := .glo "can_go") rfl)
  obtain ⟨fd_next_pair, A_next_pair⟩ := c.def_ 8 (d := dd "next_pair" 17) rfl
  have g_next_pair := He.glo_ok X N (c.fact 8 (f := .glo "next_pair") rfl)
  obtain ⟨fd_edge_evidence, A_edge_evidence⟩ := c.def_ 9 (d := dd "edge_evidence" 18) rfl
  have g_edge_evidence := He.glo_ok X N (c.fact 9 (f := .glo "edge_evidence") rfl)
  obtain ⟨fd_remaining_behind, A_remaining_behind⟩ := c.def_ 10 (d := dd "remaining_behind" 19) rfl
  have g_remaining_behind := He.glo_ok X N (c.fact 10 (f := .glo "remaining_behind") rfl)
  obtain ⟨fd_accepts_removal, A_accepts_removal⟩ := c.def_ 11 (d := dd "accepts_removal" 20) rfl
  have g_accepts_removal := He.glo_ok X N (c.fact 11 (f := .glo "accepts_removal") rfl)
  obtain ⟨fd__law_stream, A__law_stream⟩ := c.def_ 12 (d := dd "_law_stream" 22) rfl
  have g__law_stream := He.glo_ok X N (c.fact 12 (f := .glo "_law_stream") rfl)
  obtain ⟨fd__law_next, A__law_next⟩ := c.def_ 13 (d := dd "_law_next" 23) rfl
  have g__law_next := He.glo_ok X N (c.fact 13 (f := .glo "_law_next") rfl)
  obtain ⟨fd__law_is_integer, A__law_is_integer⟩ := c.def_ 14 (d := dd "_law_is_integer" 24) rfl
  have g__law_is_integer := He.glo_ok X N (c.fact 14 (f := .glo "_law_is_integer") rfl)
  obtain ⟨fd__law_equal, A__law_equal⟩ := c.def_ 15 (d := dd "_law_equal" 25) rfl
  have g__law_equal := He.glo_ok X N (c.fact 15 (f := .glo "_law_equal") rfl)
  obtain ⟨fd__law_scopes, A__law_scopes⟩ := c.def_ 16 (d := dd "_law_scopes" 26) rfl
  have g__law_scopes := He.glo_ok X N (c.fact 16 (f := .glo "_law_scopes") rfl)
  obtain ⟨fd__law_can_go, A__law_can_go⟩ := c.def_ 17 (d := dd "_law_can_go" 27) rfl
  have g__law_can_go := He.glo_ok X N (c.fact 17 (f := .glo "_law_can_go") rfl)
  obtain ⟨fd__law_moves, A__law_moves⟩ := c.def_ 18 (d := dd "_law_moves" 28) rfl
  have g__law_moves := He.glo_ok X N (c.fact 18 (f := .glo "_law_moves") rfl)
  obtain ⟨fd__law_is_evidence, A__law_is_evidence⟩ := c.def_ 19 (d := dd "_law_is_evidence" 29) rfl
  have g__law_is_evidence := He.glo_ok X N (c.fact 19 (f := .glo "_law_is_evidence") rfl)
  obtain ⟨fd__law_drawn, A__law_drawn⟩ := c.def_ 20 (d := dd "_law_drawn" 30) rfl
  have g__law_drawn := He.glo_ok X N (c.fact 20 (f := .glo "_law_drawn") rfl)
  obtain ⟨fd__law_turned, A__law_turned⟩ := c.def_ 21 (d := dd "_law_turned" 31) rfl
  have g__law_turned := He.glo_ok X N (c.fact 21 (f := .glo "_law_turned") rfl)
  obtain ⟨fd_law, A_law⟩ := c.def_ 22 (d := dd "law" 32) rfl
  have g_law := He.glo_ok X N (c.fact 22 (f := .glo "law") rfl)
  have e := hfa.symm.trans g_law
  cases e
  have b := FunD.bindsA (ps := ["_law_script"]) A_law fun _ _ _ _ _ _ us hl => match us, hl with | [_], _ => rfl
  refine ⟨fd_law, fun s v => b s [v] rfl, fun base _ _ => ?_⟩
  have o_is_whole := ok_is_whole (P := P) (w := w) (base := base) G A_is_whole g_is_whole 
  have o_is_climbing := ok_is_climbing (P := P) (w := w) (base := base) G A_is_climbing g_is_climbing 
  have o_are_variables := ok_are_variables (P := P) (w := w) (base := base) G A_are_variables g_are_variables o_is_whole o_is_climbing
  have o_is_scope := ok_is_scope (P := P) (w := w) (base := base) G A_is_scope g_is_scope o_are_variables
  have o_are_scopes := ok_are_scopes (P := P) (w := w) (base := base) G A_are_scopes g_are_scopes o_is_scope
  have o_check_scopes := ok_check_scopes (P := P) (w := w) (base := base) G A_check_scopes g_check_scopes o_are_scopes
  have o_shared_with_others := ok_shared_with_others (P := P) (w := w) (base := base) G A_shared_with_others g_shared_with_others 
  have o_can_go := ok_can_go (P := P) (w := w) (base := base) G A_can_go g_can_go o_shared_with_others
  have o_next_pair := ok_next_pair (P := P) (w := w) (base := base) G A_next_pair g_next_pair o_can_go
  have o_edge_evidence := ok_edge_evidence (P := P) (w := w) (base := base) G A_edge_evidence g_edge_evidence o_check_scopes o_next_pair
  have o_remaining_behind := ok_remaining_behind (P := P) (w := w) (base := base) G A_remaining_behind g_remaining_behind o_is_whole o_can_go
  have o_accepts_removal := ok_accepts_removal (P := P) (w := w) (base := base) G A_accepts_removal g_accepts_removal o_check_scopes o_remaining_behind o_next_pair
  have o__law_stream := ok__law_stream (P := P) (w := w) (base := base) G A__law_stream g__law_stream 
  have o__law_next := ok__law_next (P := P) (w := w) (base := base) G A__law_next g__law_next 
  have o__law_is_integer := ok__law_is_integer (P := P) (w := w) (base := base) G A__law_is_integer g__law_is_integer 
  have o__law_equal := ok__law_equal (P := P) (w := w) (base := base) G A__law_equal g__law_equal o__law_is_integer 5
  have o__law_scopes := ok__law_scopes (P := P) (w := w) (base := base) G A__law_scopes g__law_scopes o__law_next
  have o__law_can_go := ok__law_can_go (P := P) (w := w) (base := base) G A__law_can_go g__law_can_go 
  have o__law_moves := ok__law_moves (P := P) (w := w) (base := base) G A__law_moves g__law_moves o__law_can_go
  have o__law_is_evidence := ok__law_is_evidence (P := P) (w := w) (base := base) G A__law_is_evidence g__law_is_evidence o__law_is_integer o__law_can_go o__law_moves
  have o__law_drawn := ok__law_drawn (P := P) (w := w) (base := base) G A__law_drawn g__law_drawn o__law_next o__law_moves
  have o__law_turned := ok__law_turned (P := P) (w := w) (base := base) G A__law_turned g__law_turned o__law_next
  exact ok_law (P := P) (w := w) (base := base) G A_law o__law_stream o__law_scopes o_edge_evidence o_accepts_removal o__law_turned o__law_drawn o__law_next o__law_equal o__law_is_evidence
end Mir.K56
open PySem PySem.W PySem.Calls PyProof.Rows
theorem PySem.Challenge.cw_tabletalk_k56_whole_removals_by_whomever_holds : PySem.Challenge.rw_tabletalk_k56_whole_removals_by_whomever.Holds := by
  w_on; o_law
  refine HandSHeadRun.head_any (r := OpenLaw.row PySem.Challenge.rw_tabletalk_k56_whole_removals_by_whomever) (q := view (OpenLaw.row PySem.Challenge.rw_tabletalk_k56_whole_removals_by_whomever).prog [32]) (H := Mir.K56.hk) (ob := Mir.K56.ob) (M := 4000) (loose := Mir.K56.loose) (d := HandSHeadRun.topDef (OpenLaw.row PySem.Challenge.rw_tabletalk_k56_whole_removals_by_whomever).prog 32) (kwd := []) Mir.K56.ob_eq
    (by kernel_rfl) (fun s => by kernel_rfl) Mir.K56.run (by kernel_rfl) (by kernel_rfl) (by kernel_rfl) (by rfl) (by first | assumption | decide +kernel) (by decide +kernel) ⟨rfl, rfl, rfl, rfl, rfl, by decide +kernel⟩ ?hw ?hc
  case hw => w_witness2
  case hc =>
    refine Mir.walk_w (l := PySem.Challenge.rw_tabletalk_k56_whole_removals_by_whomever) (n := 63) (k := 8) (x := "_law_script") rfl (by decide) (by kernel_rfl) ⟨rfl, by decide, by decide⟩ ?F
    case F =>
      intro w mg fa h Y G hmg0
      obtain ⟨K, KX, c⟩ := Y
      have hmg : mg ("law" : PySem.Str) = some (.ref fa) := by
        have e : (HandSHeadRun.topDef (OpenLaw.row PySem.Challenge.rw_tabletalk_k56_whole_removals_by_whomever).prog 32).name = ("law" : PySem.Str) := by kernel_rfl
        rw [← e]
        exact hmg0
      obtain ⟨fd, hb, hF⟩ := Mir.K56.facts (P := (PySem.Challenge.rw_tabletalk_k56_whole_removals_by_whomever).prog) (w := w) KX G hmg c
      exact ⟨K, fd, Mir.SpF K Mir.K56.F_law 1, KX, hb, fun H a ns hl hS => Mir.law_sp Mir.K56.law_true H a ns hl hS, hF⟩


