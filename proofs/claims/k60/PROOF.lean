import PyProof.Rows.All
import Wide.All
import OpenK.AllK
import Wide.FinOn
import KE.KStateDown
import Lean
import HandS.ForMost
import HandS.ForExc
import HandS.More
import HandS.ExcInit
import HandS.IsInst
import HandS.Deep
import HandS.SetFor
import HandS.TupAny
import HandS.TupMul
import HandS.TupLe
import HandS.Style
import HandS.Zip
import HandS.DictTup
import HandS.Defaults
import HandS.Head0
import HandS.Head1
import HandS.Head2
import HandS.HeadEnd
import HandS.HeadHook1
import HandS.HeadHook2
import HandS.Conv
import KE.SortData
import HandS.Strs
import HandS.Dict
import HandS.DictComp
import KE.GoesMore
import KE.GoesZip
import PySem.Challenge.RW_tabletalk_k60_whole_evidence_of_verdicts
set_option Elab.async false
set_option linter.all false
set_option autoImplicit false
set_option maxRecDepth 100000
set_option maxHeartbeats 0
/-! # A mirror of a Python program as plain Lean functions over data, tied to the hand layer's judgements. -/
namespace Mir
open PySem PySem.Spec PyProof.Rows L2

/-! ### values, cells, results -/
inductive W where
  | p (d : PyData)
  | ro (ds : List PyData)
  | loc (n : Nat)
  | tw (ws : List W)
  | kt (ds : List PyData)
inductive Cell where
  | lst (ws : List W)
  | dct (kvs : List (Key × W))
  | dtt (kvs : List (List Key × W))
  | lck (kvs : List (Key × W))
  | ins (C : Str) (fs : List (Str × W))
abbrev Hm := List Cell
structure Exn where
  cls : Str
  fs : List (Str × W)
inductive Res (α : Type) where
  | stuck
  | ok (a : α) (m : Hm)
  | exc (x : Exn) (m : Hm)
abbrev Ev := List (Option W)
abbrev EX (α : Type) := Ev → Hm → Res α
def Res.bind {α β : Type} : Res α → (α → Hm → Res β) → Res β
  | .stuck, _ => .stuck
  | .ok a m, k => k a m
  | .exc x m, _ => .exc x m
@[simp] theorem bind_stuck {α β : Type} {k : α → Hm → Res β} : (Res.stuck : Res α).bind k = .stuck := rfl
@[simp] theorem bind_ok {α β : Type} {a : α} {m : Hm} {k : α → Hm → Res β} : (Res.ok a m).bind k = k a m := rfl
@[simp] theorem bind_exc {α β : Type} {x : Exn} {m : Hm} {k : α → Hm → Res β} : (Res.exc x m : Res α).bind k = .exc x m := rfl

/-- where the cells stand (rho), which further objects are out of reach, and what they hold (fb) -/
structure Cfg where
  fb : List (Addr × HO)
  rho : List Addr
abbrev Cfg.fa (c : Cfg) : List Addr := c.fb.map (·.1)

def TupAt (K : PySem.W.Frag) (c : Cfg) (H : Hp) (a : Addr) (xs : List V) : Prop :=
  (Rd H a (.tup xs) ∧ a ∉ c.fa ∧ a ∉ c.rho) ∨
    ∃ (o : Obj) (its : Array Value) (n : Nat), K.lookup a = some o ∧ o.cls = .type "tuple" ∧ o.data = .seq its n ∧ its.size ≤ sizeLine ∧ Vals xs its.toList
def LstAt (K : PySem.W.Frag) (c : Cfg) (H : Hp) (a : Addr) (xs : List V) : Prop :=
  (Rd H a (.lst xs) ∧ a ∉ c.fa ∧ a ∉ c.rho) ∨
    ∃ (o : Obj) (its : Array Value) (n : Nat), K.lookup a = some o ∧ o.cls = .type "list" ∧ o.dict = none ∧ o.data = .seq its n ∧ its.size ≤ sizeLine ∧ Vals xs its.toList

/-! ### what stands for what -/
mutual
inductive Rp (K : PySem.W.Frag) (c : Cfg) (H : Hp) : V → PyData → Prop
  | non : Rp K c H .non .none
  | bl (b : Bool) : Rp K c H (.bl b) (.bool b)
  | int (i : Int) : Rp K c H (.int i) (.int i)
  | str (x : Str) : Rp K c H (.str x) (.str x)
  | lst {a : Addr} {xs : List V} {ds : List PyData} : H a = some (.lst xs) → a ∉ c.fa → a ∉ c.rho → xs.length ≤ sizeLine → RpAll K c H xs ds → Rp K c H (.ref a) (.list ds)
  | tup {a : Addr} {xs : List V} {ds : List PyData} : TupAt K c H a xs → xs.length ≤ sizeLine → RpAll K c H xs ds → Rp K c H (.ref a) (.tuple ds)
inductive RpAll (K : PySem.W.Frag) (c : Cfg) (H : Hp) : List V → List PyData → Prop
  | nil : RpAll K c H [] []
  | cons {v : V} {vs : List V} {d : PyData} {ds : List PyData} : Rp K c H v d → RpAll K c H vs ds → RpAll K c H (v :: vs) (d :: ds)
end
mutual
inductive RpW (K : PySem.W.Frag) (c : Cfg) (H : Hp) : V → W → Prop
  | p {v : V} {d : PyData} : Rp K c H v d → RpW K c H v (.p d)
  | ro {a : Addr} {xs : List V} {ds : List PyData} : LstAt K c H a xs → xs.length ≤ sizeLine → RpAll K c H xs ds → RpW K c H (.ref a) (.ro ds)
  | loc {a : Addr} {n : Nat} : c.rho[n]? = some a → RpW K c H (.ref a) (.loc n)
  | tw {a : Addr} {xs : List V} {ws : List W} : TupAt K c H a xs → xs.length ≤ sizeLine → RpWs K c H xs ws → RpW K c H (.ref a) (.tw ws)
  | kt {a : Addr} {o : Obj} {xs : List V} {ds : List PyData} : H a = some (.frz o (.tup xs)) → o.dict = none → a ∉ c.fa → a ∉ c.rho → xs.length ≤ sizeLine → RpAll K c H xs ds → RpW K c H (.ref a) (.kt ds)
inductive RpWs (K : PySem.W.Frag) (c : Cfg) (H : Hp) : List V → List W → Prop
  | nil : RpWs K c H [] []
  | cons {v : V} {vs : List V} {d : W} {ds : List W} : RpW K c H v d → RpWs K c H vs ds → RpWs K c H (v :: vs) (d :: ds)
end

/-! ### growing -/
/-- what is needed for values to stay as they are -/
structure Sub (c : Cfg) (H : Hp) (c' : Cfg) (H' : Hp) : Prop where
  at_ : ∀ (n : Nat) (a : Addr), c.rho[n]? = some a → c'.rho[n]? = some a
  keep : ∀ a o, H a = some o → a ∉ c.fa → a ∉ c.rho → H' a = some o ∧ a ∉ c'.fa ∧ a ∉ c'.rho
structure Ext (c : Cfg) (H : Hp) (c' : Cfg) (H' : Hp) : Prop where
  fb : ∃ l, c'.fb = l ++ c.fb ∧ ∀ p ∈ l, H p.1 = none
  rho : ∃ l, c'.rho = c.rho ++ l ∧ ∀ a ∈ l, H a = none
  keep : ∀ a o, H a = some o → a ∉ c.fa → a ∉ c.rho → H' a = some o
  live : ∀ a, H' a = none → H a = none
theorem Ext.refl {c : Cfg} {H : Hp} : Ext c H c H := ⟨⟨[], by simp, fun _ h => nomatch h⟩, ⟨[], by simp, fun _ h => nomatch h⟩, fun _ _ h _ _ => h, fun _ h => h⟩
section
variable {K : PySem.W.Frag} {c c' c2 : Cfg} {H H' H2 : Hp} {m : Hm}
theorem Ext.notin (e : Ext c H c' H') {a : Addr} {o : HO} (h : H a = some o) (n : a ∉ c.rho) : a ∉ c'.rho := by
  obtain ⟨l, hl, hn⟩ := e.rho
  rw [hl]
  intro q
  rcases List.mem_append.mp q with q | q
  · exact n q
  · rw [hn a q] at h; cases h
theorem Ext.notfa (e : Ext c H c' H') {a : Addr} {o : HO} (h : H a = some o) (n : a ∉ c.fa) : a ∉ c'.fa := by
  obtain ⟨l, hl, hn⟩ := e.fb
  intro q
  obtain ⟨p, hp, rfl⟩ := List.mem_map.mp q
  rw [hl] at hp
  rcases List.mem_append.mp hp with q | q
  · rw [hn p q] at h; cases h
  · exact n (List.mem_map.mpr ⟨p, q, rfl⟩)
theorem Ext.sub_fb (e : Ext c H c' H') : ∀ p ∈ c.fb, p ∈ c'.fb := fun p hp => by
  obtain ⟨l, hl, hn⟩ := e.fb
  rw [hl]; exact List.mem_append_right _ hp
theorem Ext.at (e : Ext c H c' H') {n : Nat} {a : Addr} (h : c.rho[n]? = some a) : c'.rho[n]? = some a := by
  obtain ⟨l, hl, _⟩ := e.rho
  rw [hl, List.getElem?_append_left (List.getElem?_eq_some_iff.mp h).1]
  exact h
theorem Ext.sub (e : Ext c H c' H') : Sub c H c' H' := ⟨fun _ _ => e.at, fun a o h n n2 => ⟨e.keep a o h n n2, e.notfa h n, e.notin h n2⟩⟩
theorem Ext.trans (e : Ext c H c' H') (f : Ext c' H' c2 H2) : Ext c H c2 H2 := by
  obtain ⟨l, hl, hn⟩ := e.rho
  obtain ⟨l', hl', hn'⟩ := f.rho
  obtain ⟨k, hk, kn⟩ := e.fb
  obtain ⟨k', hk', kn'⟩ := f.fb
  refine ⟨⟨k' ++ k, by rw [hk', hk, List.append_assoc], fun p hp => ?_⟩, ⟨l ++ l', by rw [hl', hl, List.append_assoc], fun a ha => ?_⟩, fun a o h n n2 => f.keep a o (e.keep a o h n n2) (e.notfa h n) (e.notin h n2), fun a h => e.live a (f.live a h)⟩
  · rcases List.mem_append.mp hp with q | q
    · exact e.live _ (kn' p q)
    · exact kn p q
  · rcases List.mem_append.mp ha with q | q
    · exact hn a q
    · exact e.live a (hn' a q)
theorem Rd.some {H : Hp} {a : Addr} {u : HO} (h : Rd H a u) : ∃ o, H a = some o ∧ ∀ H' : Hp, H' a = some o → Rd H' a u := by
  rcases h with h | ⟨o, h⟩
  · exact ⟨_, h, fun _ q => .inl q⟩
  · exact ⟨_, h, fun _ q => .inr ⟨o, q⟩⟩
theorem TupAt.sub (e : Sub c H c' H') {a : Addr} {xs : List V} (h : TupAt K c H a xs) : TupAt K c' H' a xs := by
  rcases h with ⟨h, n, n2⟩ | h
  · obtain ⟨o, ho, hr⟩ := Mir.Rd.some h
    obtain ⟨q, n', n2'⟩ := e.keep a o ho n n2
    exact .inl ⟨hr _ q, n', n2'⟩
  · exact .inr h
theorem LstAt.sub (e : Sub c H c' H') {a : Addr} {xs : List V} (h : LstAt K c H a xs) : LstAt K c' H' a xs := by
  rcases h with ⟨h, n, n2⟩ | h
  · obtain ⟨o, ho, hr⟩ := Mir.Rd.some h
    obtain ⟨q, n', n2'⟩ := e.keep a o ho n n2
    exact .inl ⟨hr _ q, n', n2'⟩
  · exact .inr h
theorem TupAt.sq {a : Addr} {xs : List V} (h : TupAt K c H a xs) : SqT K H a xs := by
  rcases h with ⟨h, _⟩ | h
  · exact .inl h
  · exact .inr h
theorem LstAt.sq {a : Addr} {xs : List V} (h : LstAt K c H a xs) : SqL K H a xs := by
  rcases h with ⟨h, _⟩ | h
  · exact .inl h
  · exact .inr h
mutual
theorem Rp.sub (e : Sub c H c' H') : ∀ {v : V} {d : PyData}, Rp K c H v d → Rp K c' H' v d
  | _, _, .non => .non
  | _, _, .bl b => .bl b
  | _, _, .int i => .int i
  | _, _, .str x => .str x
  | _, _, .lst h n n2 z r => .lst (e.keep _ _ h n n2).1 (e.keep _ _ h n n2).2.1 (e.keep _ _ h n n2).2.2 z (RpAll.sub e r)
  | _, _, .tup h z r => .tup (h.sub e) z (RpAll.sub e r)
theorem RpAll.sub (e : Sub c H c' H') : ∀ {vs : List V} {ds : List PyData}, RpAll K c H vs ds → RpAll K c' H' vs ds
  | _, _, .nil => .nil
  | _, _, .cons r t => .cons (Rp.sub e r) (RpAll.sub e t)
end
mutual
theorem RpW.sub (e : Sub c H c' H') : ∀ {v : V} {w : W}, RpW K c H v w → RpW K c' H' v w
  | _, _, .p r => .p (r.sub e)
  | _, _, .ro h z r => .ro (h.sub e) z (r.sub e)
  | _, _, .loc h => .loc (e.at_ _ _ h)
  | _, _, .tw h z r => .tw (h.sub e) z (RpWs.sub e r)
  | _, _, .kt h d n n2 z r => .kt (e.keep _ _ h n n2).1 d (e.keep _ _ h n n2).2.1 (e.keep _ _ h n n2).2.2 z (r.sub e)
theorem RpWs.sub (e : Sub c H c' H') : ∀ {vs : List V} {ws : List W}, RpWs K c H vs ws → RpWs K c' H' vs ws
  | _, _, .nil => .nil
  | _, _, .cons r t => .cons (RpW.sub e r) (RpWs.sub e t)
end
theorem RpW.ktI {v : V} {ds : List PyData} (h : RpW K c H v (.kt ds)) : RpW K c H v (.p (.tuple ds)) := by
  cases h with | kt h d n n2 z r =>
  exact .p (.tup (.inl ⟨.inr ⟨_, h⟩, n, n2⟩) z r)
theorem Rp.mono (e : Ext c H c' H') {v : V} {d : PyData} (r : Rp K c H v d) : Rp K c' H' v d := r.sub e.sub
theorem RpAll.mono (e : Ext c H c' H') {v : List V} {d : List PyData} (r : RpAll K c H v d) : RpAll K c' H' v d := r.sub e.sub
theorem RpW.mono (e : Ext c H c' H') {v : V} {d : W} (r : RpW K c H v d) : RpW K c' H' v d := r.sub e.sub
theorem RpWs.mono (e : Ext c H c' H') {v : List V} {d : List W} (r : RpWs K c H v d) : RpWs K c' H' v d := r.sub e.sub
theorem RpAll.length : ∀ {vs : List V} {ds : List PyData}, RpAll K c H vs ds → vs.length = ds.length
  | _, _, .nil => rfl
  | _, _, .cons _ t => by simp [RpAll.length t]
theorem RpWs.length : ∀ {vs : List V} {ds : List W}, RpWs K c H vs ds → vs.length = ds.length
  | _, _, .nil => rfl
  | _, _, .cons _ t => by simp [RpWs.length t]
theorem RpAll.get : ∀ {vs : List V} {ds : List PyData} {i : Nat} {d : PyData}, RpAll K c H vs ds → ds[i]? = some d → ∃ v, vs[i]? = some v ∧ Rp K c H v d
  | _, _, _, _, .nil, h => by simp at h
  | _, _, 0, _, .cons r t, h => by simp at h; subst h; exact ⟨_, rfl, r⟩
  | _, _, i + 1, _, .cons r t, h => by
    obtain ⟨v, e, q⟩ := RpAll.get (i := i) t (by simpa using h)
    exact ⟨v, by simpa using e, q⟩
theorem RpWs.get : ∀ {vs : List V} {ds : List W} {i : Nat} {d : W}, RpWs K c H vs ds → ds[i]? = some d → ∃ v, vs[i]? = some v ∧ RpW K c H v d
  | _, _, _, _, .nil, h => by simp at h
  | _, _, 0, _, .cons r t, h => by simp at h; subst h; exact ⟨_, rfl, r⟩
  | _, _, i + 1, _, .cons r t, h => by
    obtain ⟨v, e, q⟩ := RpWs.get (i := i) t (by simpa using h)
    exact ⟨v, by simpa using e, q⟩
theorem RpAll.toWs : ∀ {vs : List V} {ds : List PyData}, RpAll K c H vs ds → RpWs K c H vs (ds.map W.p)
  | _, _, .nil => .nil
  | _, _, .cons r t => .cons (.p r) (RpAll.toWs t)
theorem RpAll.append : ∀ {vs vs' : List V} {ds ds' : List PyData}, RpAll K c H vs ds → RpAll K c H vs' ds' → RpAll K c H (vs ++ vs') (ds ++ ds')
  | _, _, _, _, .nil, t => t
  | _, _, _, _, .cons r t, t' => .cons r (RpAll.append t t')
theorem RpWs.append : ∀ {vs vs' : List V} {ds ds' : List W}, RpWs K c H vs ds → RpWs K c H vs' ds' → RpWs K c H (vs ++ vs') (ds ++ ds')
  | _, _, _, _, .nil, t => t
  | _, _, _, _, .cons r t, t' => .cons r (RpWs.append t t')
theorem RpAll.take : ∀ {vs : List V} {ds : List PyData} (n : Nat), RpAll K c H vs ds → RpAll K c H (vs.take n) (ds.take n)
  | _, _, 0, _ => .nil
  | _, _, _ + 1, .nil => .nil
  | _, _, n + 1, .cons r t => .cons r (RpAll.take n t)
theorem RpAll.drop : ∀ {vs : List V} {ds : List PyData} (n : Nat), RpAll K c H vs ds → RpAll K c H (vs.drop n) (ds.drop n)
  | _, _, 0, t => t
  | _, _, _ + 1, .nil => .nil
  | _, _, n + 1, .cons r t => RpAll.drop n t
theorem RpWs.take : ∀ {vs : List V} {ds : List W} (n : Nat), RpWs K c H vs ds → RpWs K c H (vs.take n) (ds.take n)
  | _, _, 0, _ => .nil
  | _, _, _ + 1, .nil => .nil
  | _, _, n + 1, .cons r t => .cons r (RpWs.take n t)
theorem RpWs.drop : ∀ {vs : List V} {ds : List W} (n : Nat), RpWs K c H vs ds → RpWs K c H (vs.drop n) (ds.drop n)
  | _, _, 0, t => t
  | _, _, _ + 1, .nil => .nil
  | _, _, n + 1, .cons r t => RpWs.drop n t
theorem RpWs.set : ∀ {vs : List V} {ds : List W} (n : Nat) {v : V} {d : W}, RpW K c H v d → RpWs K c H vs ds → RpWs K c H (vs.set n v) (ds.set n d)
  | _, _, _, _, _, _, .nil => .nil
  | _, _, 0, _, _, r, .cons _ t => .cons r t
  | _, _, n + 1, _, _, r, .cons q t => .cons q (RpWs.set n r t)
theorem RpWs.eraseIdx : ∀ {vs : List V} {ds : List W} (n : Nat), RpWs K c H vs ds → RpWs K c H (vs.eraseIdx n) (ds.eraseIdx n)
  | _, _, _, .nil => .nil
  | _, _, 0, .cons _ t => t
  | _, _, n + 1, .cons q t => .cons q (RpWs.eraseIdx n t)
theorem RpAll.reverse {vs : List V} {ds : List PyData} (h : RpAll K c H vs ds) : RpAll K c H vs.reverse ds.reverse := by
  induction vs generalizing ds with
  | nil => cases h; exact .nil
  | cons v vs ih =>
    cases h with
    | cons r t =>
      rw [List.reverse_cons, List.reverse_cons]
      exact RpAll.append (ih t) (.cons r .nil)
/-- plain data among values: all of it plain? -/
def allP : List W → Option (List PyData)
  | [] => some []
  | .p d :: r => (allP r).map (d :: ·)
  | _ :: _ => none
theorem allP_rp : ∀ {vs : List V} {ws : List W} {ds : List PyData}, RpWs K c H vs ws → allP ws = some ds → RpAll K c H vs ds
  | _, _, _, .nil, e => by cases e; exact .nil
  | _, _, ds, .cons (.p r) t, e => by
    unfold allP at e
    obtain ⟨ds', e', rfl⟩ := Option.map_eq_some_iff.mp e
    exact .cons r (allP_rp t e')
  | _, _, _, .cons (.ro _ _ _) t, e => by cases e
  | _, _, _, .cons (.loc _) t, e => by cases e
  | _, _, _, .cons (.tw _ _ _) t, e => by cases e
@[simp] theorem allP_nil : allP [] = some [] := rfl
@[simp] theorem allP_cons (d : PyData) (r : List W) : allP (.p d :: r) = (allP r).map (d :: ·) := rfl
@[simp] theorem allP_map (ds : List PyData) : allP (ds.map W.p) = some ds := by
  induction ds with
  | nil => rfl
  | cons d r ih => simp [ih]

/-! ### the cells -/
def CellOk (K : PySem.W.Frag) (c : Cfg) (H : Hp) (a : Addr) : Cell → Prop
  | .lst ws => ∃ xs, H a = some (.lst xs) ∧ xs.length ≤ sizeLine ∧ RpWs K c H xs ws
  | .dct kvs => ∃ vs : List (Key × V), H a = some (.dK vs) ∧ vs.length ≤ sizeLine ∧ vs.map (·.1) = kvs.map (·.1) ∧ RpWs K c H (vs.map (·.2)) (kvs.map (·.2))
  | .dtt kvs => ∃ vs : List (List Key × V), H a = some (.dT vs) ∧ vs.length ≤ sizeLine ∧ vs.map (·.1) = kvs.map (·.1) ∧ RpWs K c H (vs.map (·.2)) (kvs.map (·.2))
  | .lck kvs => ∃ (o : Obj) (vs : List (Key × V)), H a = some (.frz o (.dK vs)) ∧ vs.length ≤ sizeLine ∧ vs.map (·.1) = kvs.map (·.1) ∧ RpWs K c H (vs.map (·.2)) (kvs.map (·.2))
  | .ins C fs => ∃ (dx : Addr) (vs : List (Str × V)), H a = some (.ins (He.ga K C) dx vs) ∧ vs.map (·.1) = fs.map (·.1) ∧ RpWs K c H (vs.map (·.2)) (fs.map (·.2))
structure HRel (K : PySem.W.Frag) (c : Cfg) (m : Hm) (H : Hp) : Prop where
  len : c.rho.length = m.length
  nd : c.rho.Nodup
  fb : ∀ p ∈ c.fb, H p.1 = some p.2
  dj : ∀ a ∈ c.fa, a ∉ c.rho
  at_ : ∀ (n : Nat) (x : Cell), m[n]? = some x → ∃ a, c.rho[n]? = some a ∧ CellOk K c H a x
def SRel (K : PySem.W.Frag) (c : Cfg) (H : Hp) (s : Ev) (σ : L2.St) : Prop :=
  s.length = σ.length ∧ ∀ (i : Nat) (w : W), s[i]? = some (some w) → ∃ v, σ[i]? = some (some v) ∧ RpW K c H v w
theorem CellOk.live {a : Addr} {x : Cell} (h : CellOk K c H a x) : H a ≠ none := by
  cases x with
  | lst ws => obtain ⟨xs, e, _⟩ := h; rw [e]; simp
  | dct kvs => obtain ⟨vs, e, _⟩ := h; rw [e]; simp
  | dtt kvs => obtain ⟨vs, e, _⟩ := h; rw [e]; simp
  | lck kvs => obtain ⟨o, vs, e, _⟩ := h; rw [e]; simp
  | ins C fs => obtain ⟨dx, vs, e, _⟩ := h; rw [e]; simp
theorem HRel.live (h : HRel K c m H) {a : Addr} (ha : a ∈ c.rho) : H a ≠ none := by
  obtain ⟨n, hn, e⟩ := List.mem_iff_getElem.mp ha
  have hm : n < m.length := by rw [← h.len]; exact hn
  obtain ⟨b, hb, ok⟩ := h.at_ n _ (List.getElem?_eq_getElem hm)
  rw [List.getElem?_eq_getElem hn, e] at hb
  cases hb
  exact ok.live
theorem HRel.fas (h : HRel K c m H) {a : Addr} (ha : a ∈ c.fa) : ∃ o, H a = some o := by
  obtain ⟨p, hp, rfl⟩ := List.mem_map.mp ha
  exact ⟨_, h.fb p hp⟩
theorem SRel.sub (e : Sub c H c' H') {s : Ev} {σ : L2.St} (h : SRel K c H s σ) : SRel K c' H' s σ :=
  ⟨h.1, fun i w q => let ⟨v, e1, r⟩ := h.2 i w q; ⟨v, e1, r.sub e⟩⟩
theorem SRel.mono (e : Ext c H c' H') {s : Ev} {σ : L2.St} (h : SRel K c H s σ) : SRel K c' H' s σ := h.sub e.sub
theorem SRel.set {s : Ev} {σ : L2.St} (h : SRel K c H s σ) {i : Nat} {w : W} {v : V} (r : RpW K c H v w) : SRel K c H (s.set i (some w)) (σ.set i (some v)) := by
  refine ⟨by simp [h.1], fun j w' q => ?_⟩
  by_cases e : i = j
  · subst e
    by_cases hi : i < s.length
    · rw [List.getElem?_set_self hi] at q
      cases q
      exact ⟨v, by rw [List.getElem?_set_self (by rw [← h.1]; exact hi)], r⟩
    · rw [List.getElem?_eq_none (by simpa using hi)] at q; cases q
  · rw [List.getElem?_set_ne e] at q
    obtain ⟨v', e1, r'⟩ := h.2 j w' q
    exact ⟨v', by rw [List.getElem?_set_ne e]; exact e1, r'⟩
theorem SRel.forget {s s' : Ev} {σ : L2.St} (h : SRel K c H s σ) (hl : s'.length = s.length) (hf : ∀ (i : Nat) (w : W), s'[i]? = some (some w) → s[i]? = some (some w)) : SRel K c H s' σ :=
  ⟨hl.trans h.1, fun i w q => h.2 i w (hf i w q)⟩
/-- a new object that is out of the cells -/
theorem Ext.new {p : Addr} {o : HO} (hp : H p = none) : Ext c H c (upd H p o) := by
  refine ⟨⟨[], by simp, fun _ h => nomatch h⟩, ⟨[], by simp, fun _ h => nomatch h⟩, fun a u h _ _ => ?_, fun a h => ?_⟩
  · rw [upd_ne (ne_of_none h hp)]; exact h
  · by_cases e : a = p
    · subst e; exact hp
    · rw [upd_ne e] at h; exact h
theorem CellOk.sub (e : Sub c H c' H') {a : Addr} {x : Cell} (h : CellOk K c H a x) (ha : H' a = H a) : CellOk K c' H' a x := by
  cases x with
  | lst ws => obtain ⟨xs, e1, z, r⟩ := h; exact ⟨xs, ha.trans e1, z, r.sub e⟩
  | dct kvs => obtain ⟨vs, e1, z, k, r⟩ := h; exact ⟨vs, ha.trans e1, z, k, r.sub e⟩
  | dtt kvs => obtain ⟨vs, e1, z, k, r⟩ := h; exact ⟨vs, ha.trans e1, z, k, r.sub e⟩
  | lck kvs => obtain ⟨o, vs, e1, z, k, r⟩ := h; exact ⟨o, vs, ha.trans e1, z, k, r.sub e⟩
  | ins C fs => obtain ⟨dx, vs, e1, k, r⟩ := h; exact ⟨dx, vs, ha.trans e1, k, r.sub e⟩
/-- the cells stay, the rest may grow -/
theorem HRel.sub (h : HRel K c m H) (e : Sub c H c' H') (er : c'.rho = c.rho) (same : ∀ a ∈ c.rho, H' a = H a) (fb : ∀ p ∈ c'.fb, H' p.1 = some p.2) (dj : ∀ a ∈ c'.fa, a ∉ c.rho) : HRel K c' m H' := by
  refine ⟨by rw [er]; exact h.len, by rw [er]; exact h.nd, fb, by rw [er]; exact dj, fun n x hx => ?_⟩
  obtain ⟨a, ha, ok⟩ := h.at_ n x hx
  exact ⟨a, by rw [er]; exact ha, ok.sub e (same a (List.mem_of_getElem? ha))⟩
theorem HRel.new (h : HRel K c m H) {p : Addr} {o : HO} (hp : H p = none) : HRel K c m (upd H p o) :=
  h.sub (Ext.new hp).sub rfl (fun a ha => upd_ne fun e => by subst e; exact h.live ha hp) (fun q hq => by
    rw [upd_ne fun e => by have := h.fb q hq; rw [e, hp] at this; cases this]
    exact h.fb q hq) h.dj
theorem HRel.free (h : HRel K c m H) {p : Addr} (hp : H p = none) : p ∉ c.fa ∧ p ∉ c.rho := by
  refine ⟨fun q => ?_, fun q => h.live q hp⟩
  obtain ⟨o, e⟩ := h.fas q
  rw [hp] at e
  cases e
/-- a new cell -/
theorem Ext.cell {p : Addr} {o : HO} (hp : H p = none) : Ext c H ⟨c.fb, c.rho ++ [p]⟩ (upd H p o) := by
  refine ⟨⟨[], by simp, fun _ h => nomatch h⟩, ⟨[p], rfl, fun a ha => by simp at ha; subst ha; exact hp⟩, fun a u h _ _ => ?_, fun a h => ?_⟩
  · rw [upd_ne (ne_of_none h hp)]; exact h
  · by_cases e : a = p
    · subst e; exact hp
    · rw [upd_ne e] at h; exact h
theorem HRel.cell (h : HRel K c m H) {p : Addr} {o : HO} {x : Cell} (hp : H p = none) (ok : CellOk K ⟨c.fb, c.rho ++ [p]⟩ (upd H p o) p x) : HRel K ⟨c.fb, c.rho ++ [p]⟩ (m ++ [x]) (upd H p o) := by
  have e : Ext c H ⟨c.fb, c.rho ++ [p]⟩ (upd H p o) := Ext.cell hp
  have fr := h.free hp
  refine ⟨by simp [h.len], ?_, fun q hq => ?_, fun a ha q => ?_, fun n y hy => ?_⟩
  · rw [List.nodup_append]
    exact ⟨h.nd, by simp, fun a ha b hb => by simp at hb; subst hb; intro q; subst q; exact fr.2 ha⟩
  · rw [upd_ne fun e => by have := h.fb q hq; rw [e, hp] at this; cases this]
    exact h.fb q hq
  · rcases List.mem_append.mp q with q | q
    · exact h.dj a ha q
    · simp at q; subst q; exact fr.1 ha
  · by_cases hn : n < m.length
    · rw [List.getElem?_append_left hn] at hy
      obtain ⟨a, ha, ok'⟩ := h.at_ n y hy
      exact ⟨a, e.at ha, ok'.sub e.sub (upd_ne fun q => by subst q; exact ok'.live hp)⟩
    · rw [List.getElem?_append_right (by omega)] at hy
      have hl : n - m.length = 0 := by
        cases q : n - m.length with
        | zero => rfl
        | succ k => rw [q] at hy; simp at hy
      rw [hl] at hy
      simp at hy
      subst hy
      have hn' : n = c.rho.length := by have := h.len; omega
      exact ⟨p, by subst hn'; simp, ok⟩
/-- a cell is written -/
theorem Ext.write {a : Addr} {o : HO} {n : Nat} (ha : c.rho[n]? = some a) : Ext c H c (upd H a o) := by
  refine ⟨⟨[], by simp, fun _ h => nomatch h⟩, ⟨[], by simp, fun _ h => nomatch h⟩, fun b u h _ nb => ?_, fun b h => ?_⟩
  · rw [upd_ne fun e => by subst e; exact nb (List.mem_of_getElem? ha)]; exact h
  · by_cases e : b = a
    · subst e; rw [upd_same] at h; cases h
    · rw [upd_ne e] at h; exact h
theorem HRel.write (h : HRel K c m H) {a : Addr} {o : HO} {n : Nat} {x : Cell} (ha : c.rho[n]? = some a) (ok : CellOk K c (upd H a o) a x) : HRel K c (m.set n x) (upd H a o) := by
  have e : Ext c H c (upd H a o) := Ext.write ha
  refine ⟨by simp [h.len], h.nd, fun p hp => ?_, h.dj, fun k y hy => ?_⟩
  · rw [upd_ne fun e => h.dj p.1 (List.mem_map.mpr ⟨p, hp, rfl⟩) (by rw [e]; exact List.mem_of_getElem? ha)]
    exact h.fb p hp
  · by_cases hk : n = k
    · subst hk
      have hn : n < m.length := by rw [← h.len]; exact (List.getElem?_eq_some_iff.mp ha).1
      rw [List.getElem?_set_self hn] at hy
      cases hy
      exact ⟨a, ha, ok⟩
    · rw [List.getElem?_set_ne hk] at hy
      obtain ⟨b, hb, ok'⟩ := h.at_ k y hy
      refine ⟨b, hb, ok'.sub e.sub (upd_ne fun q => ?_)⟩
      subst q
      exact hk ((List.getElem?_inj (List.getElem?_eq_some_iff.mp ha).1 h.nd).mp (ha.trans hb.symm))
end

/-! ### readings -/
/-- what stands of an exception -/
def XRel (K : PySem.W.Frag) (c : Cfg) (H : Hp) (x : Exn) (cls : Value) (dx : Option Addr) : Prop :=
  cls = .ref (He.ga K x.cls) ∧ ∃ (d : Addr) (fs : List (Str × V)), dx = some d ∧ H d = some (.xd fs) ∧ fs.map (·.1) = x.fs.map (·.1) ∧ RpWs K c H (fs.map (·.2)) (x.fs.map (·.2))
def Post (K : PySem.W.Frag) (U : WX) (σ : L2.St) (c : Cfg) (H : Hp) {α : Type} (R : Cfg → Hp → α → Hm → Prop) : Res α → Prop
  | .stuck => False
  | .ok a m' => ∀ c' H', Ext c H c' H' → HRel K c' m' H' → R c' H' a m'
  | .exc x m' => ∀ c' H' cls dx, Ext c H c' H' → HRel K c' m' H' → XRel K c' H' x cls dx → U cls dx σ H'
/-- the wish of a value -/
abbrev RQ (K : PySem.W.Frag) (Q : VK) : Cfg → Hp → W → Hm → Prop := fun c' H' w _ => ∀ v, RpW K c' H' v w → Q v H'
def T (K : PySem.W.Frag) (U : WX) (f : EX W) : TE := fun σ H Q => ∃ c s m, SRel K c H s σ ∧ HRel K c m H ∧ Post K U σ c H (RQ K Q) (f s m)
def TB (K : PySem.W.Frag) (U : WX) (f : EX Bool) : TT := fun σ H Q => ∃ c s m, SRel K c H s σ ∧ HRel K c m H ∧ Post K U σ c H (fun _ H' b _ => Q b H') (f s m)
def TL (K : PySem.W.Frag) (U : WX) (f : EX (List W)) : TA := fun σ H Q => ∃ c s m, SRel K c H s σ ∧ HRel K c m H ∧ Post K U σ c H (fun c' H' ws _ => ∀ vs, RpWs K c' H' vs ws → Q vs H') (f s m)
section
variable {K : PySem.W.Frag} {U : WX} {σ : L2.St} {c c1 : Cfg} {H H1 : Hp} {m : Hm} {s : Ev} {α : Type}
theorem Post.ext {R : Cfg → Hp → α → Hm → Prop} {r : Res α} (e : Ext c H c1 H1) (h : Post K U σ c H R r) : Post K U σ c1 H1 R r := by
  cases r with
  | stuck => exact h
  | ok a m' => exact fun c' H' e' hm => h c' H' (e.trans e') hm
  | exc x m' => exact fun c' H' cls dx e' hm xr => h c' H' cls dx (e.trans e') hm xr
theorem Post.ok {R : Cfg → Hp → α → Hm → Prop} {a : α} (h : Post K U σ c H R (.ok a m)) (hm : HRel K c m H) : R c H a m := h c H Ext.refl hm
theorem T.run {f : EX W} {k : W → Hm → Res α} {R : Cfg → Hp → α → Hm → Prop} {Z : VK} (hs : SRel K c H s σ) (hm : HRel K c m H) (hp : Post K U σ c H R ((f s m).bind k))
    (h : ∀ c1 H1 w m1 v, Ext c H c1 H1 → SRel K c1 H1 s σ → HRel K c1 m1 H1 → RpW K c1 H1 v w → Post K U σ c1 H1 R (k w m1) → Z v H1) : T K U f σ H Z := by
  refine ⟨c, s, m, hs, hm, ?_⟩
  cases e : f s m with
  | stuck => rw [e] at hp; exact hp
  | ok a m' =>
    rw [e] at hp
    exact fun c' H' e' hm' v rv => h c' H' a m' v e' (hs.mono e') hm' rv (hp.ext e')
  | exc x m' => rw [e] at hp; exact hp
theorem TB.run {f : EX Bool} {k : Bool → Hm → Res α} {R : Cfg → Hp → α → Hm → Prop} {Z : Bool → Hp → Prop} (hs : SRel K c H s σ) (hm : HRel K c m H) (hp : Post K U σ c H R ((f s m).bind k))
    (h : ∀ c1 H1 b m1, Ext c H c1 H1 → SRel K c1 H1 s σ → HRel K c1 m1 H1 → Post K U σ c1 H1 R (k b m1) → Z b H1) : TB K U f σ H Z := by
  refine ⟨c, s, m, hs, hm, ?_⟩
  cases e : f s m with
  | stuck => rw [e] at hp; exact hp
  | ok a m' =>
    rw [e] at hp
    exact fun c' H' e' hm' => h c' H' a m' e' (hs.mono e') hm' (hp.ext e')
  | exc x m' => rw [e] at hp; exact hp
theorem TL.run {f : EX (List W)} {k : List W → Hm → Res α} {R : Cfg → Hp → α → Hm → Prop} {Z : List V → Hp → Prop} (hs : SRel K c H s σ) (hm : HRel K c m H) (hp : Post K U σ c H R ((f s m).bind k))
    (h : ∀ c1 H1 ws m1 vs, Ext c H c1 H1 → SRel K c1 H1 s σ → HRel K c1 m1 H1 → RpWs K c1 H1 vs ws → Post K U σ c1 H1 R (k ws m1) → Z vs H1) : TL K U f σ H Z := by
  refine ⟨c, s, m, hs, hm, ?_⟩
  cases e : f s m with
  | stuck => rw [e] at hp; exact hp
  | ok a m' =>
    rw [e] at hp
    exact fun c' H' e' hm' vs rv => h c' H' a m' vs e' (hs.mono e') hm' rv (hp.ext e')
  | exc x m' => rw [e] at hp; exact hp
end
section
variable {X : Cx} {e : Expr}
theorem imp {t t' : TE} (h : PE X e t) (i : ∀ σ H Q, t' σ H Q → t σ H Q) : PE X e t' := ⟨fun pins s σ H Q I hw => h.run pins s σ H Q I (i σ H Q hw)⟩
theorem impT {t t' : TT} (h : PT X e t) (i : ∀ σ H Q, t' σ H Q → t σ H Q) : PT X e t' := ⟨fun pins s σ H Q I hw => h.run pins s σ H Q I (i σ H Q hw)⟩
theorem impA {es : List Expr} {t t' : TA} (h : PA X es t) (i : ∀ σ H Q, t' σ H Q → t σ H Q) : PA X es t' := ⟨fun pos pins s σ H Q I hw => h.run pos pins s σ H Q I (i σ H Q hw)⟩
theorem impS {st : Stmt} {t t' : TS} (h : PS X st t) (i : ∀ D σ H, t' D σ H → t D σ H) : PS X st t' := ⟨fun pins s σ H D I hw => h.run pins s σ H D I (i D σ H hw)⟩
theorem impSs {st : List Stmt} {t t' : TS} (h : PSs X st t) (i : ∀ D σ H, t' D σ H → t D σ H) : PSs X st t' := ⟨fun pins s σ H D I hw => h.run pins s σ H D I (i D σ H hw)⟩
end
end Mir

namespace Mir
open PySem PySem.Spec PyProof.Rows L2

/-! ### equality of data, decided -/
mutual
def beqP : PyData → PyData → Bool
  | .none, .none => true
  | .bool a, .bool b => a == b
  | .int i, .int j => i == j
  | .str x, .str y => x == y
  | .list xs, .list ys => beqPs xs ys
  | .tuple xs, .tuple ys => beqPs xs ys
  | .dict xs, .dict ys => beqKs xs ys
  | _, _ => false
def beqPs : List PyData → List PyData → Bool
  | [], [] => true
  | x :: xs, y :: ys => beqP x y && beqPs xs ys
  | _, _ => false
def beqKs : List (PyData × PyData) → List (PyData × PyData) → Bool
  | [], [] => true
  | (k, x) :: xs, (l, y) :: ys => beqP k l && (beqP x y && beqKs xs ys)
  | _, _ => false
end
mutual
theorem beqP_eq : ∀ (a b : PyData), beqP a b = true → a = b
  | .none, b, h => by cases b <;> simp_all [beqP]
  | .bool a, b, h => by cases b <;> simp_all [beqP]
  | .int i, b, h => by cases b <;> simp_all [beqP]
  | .str x, b, h => by cases b <;> simp_all [beqP]
  | .list xs, b, h => by
    cases b with
    | list ys => rw [beqPs_eq xs ys (by simpa [beqP] using h)]
    | _ => simp [beqP] at h
  | .tuple xs, b, h => by
    cases b with
    | tuple ys => rw [beqPs_eq xs ys (by simpa [beqP] using h)]
    | _ => simp [beqP] at h
  | .dict xs, b, h => by
    cases b with
    | dict ys => rw [beqKs_eq xs ys (by simpa [beqP] using h)]
    | _ => simp [beqP] at h
theorem beqPs_eq : ∀ (a b : List PyData), beqPs a b = true → a = b
  | [], b, h => by cases b <;> simp_all [beqPs]
  | x :: xs, b, h => by
    cases b with
    | nil => simp [beqPs] at h
    | cons y ys =>
      simp only [beqPs, Bool.and_eq_true] at h
      rw [beqP_eq x y h.1, beqPs_eq xs ys h.2]
theorem beqKs_eq : ∀ (a b : List (PyData × PyData)), beqKs a b = true → a = b
  | [], b, h => by cases b <;> simp_all [beqKs]
  | (k, x) :: xs, b, h => by
    cases b with
    | nil => simp [beqKs] at h
    | cons y ys =>
      obtain ⟨l, y⟩ := y
      simp only [beqKs, Bool.and_eq_true] at h
      rw [beqP_eq k l h.1, beqP_eq x y h.2.1, beqKs_eq xs ys h.2.2]
end
mutual
@[simp] theorem beqP_refl : ∀ (a : PyData), beqP a a = true
  | .none => rfl
  | .bool a => by simp [beqP]
  | .int i => by simp [beqP]
  | .str x => by simp [beqP]
  | .list xs => by simp only [beqP]; exact beqPs_refl xs
  | .tuple xs => by simp only [beqP]; exact beqPs_refl xs
  | .dict xs => by simp only [beqP]; exact beqKs_refl xs
@[simp] theorem beqPs_refl : ∀ (a : List PyData), beqPs a a = true
  | [] => rfl
  | x :: xs => by simp only [beqPs, beqP_refl x, beqPs_refl xs, Bool.and_self]
@[simp] theorem beqKs_refl : ∀ (a : List (PyData × PyData)), beqKs a a = true
  | [] => rfl
  | (k, x) :: xs => by simp only [beqKs, beqP_refl k, beqP_refl x, beqKs_refl xs, Bool.and_self]
end
mutual
def beqW : W → W → Bool
  | .p a, .p b => beqP a b
  | .ro a, .ro b => beqPs a b
  | .loc n, .loc k => n == k
  | .tw a, .tw b => beqWs a b
  | .kt a, .kt b => beqPs a b
  | _, _ => false
def beqWs : List W → List W → Bool
  | [], [] => true
  | x :: xs, y :: ys => beqW x y && beqWs xs ys
  | _, _ => false
end
mutual
theorem beqW_eq : ∀ (a b : W), beqW a b = true → a = b
  | .p d, b, h => by
    cases b with
    | p e => rw [beqP_eq d e (by simpa [beqW] using h)]
    | _ => simp [beqW] at h
  | .ro d, b, h => by
    cases b with
    | ro e => rw [beqPs_eq d e (by simpa [beqW] using h)]
    | _ => simp [beqW] at h
  | .loc n, b, h => by cases b <;> simp_all [beqW]
  | .tw d, b, h => by
    cases b with
    | tw e => rw [beqWs_eq d e (by simpa [beqW] using h)]
    | _ => simp [beqW] at h
  | .kt d, b, h => by
    cases b with
    | kt e => rw [beqPs_eq d e (by simpa [beqW] using h)]
    | _ => simp [beqW] at h
theorem beqWs_eq : ∀ (a b : List W), beqWs a b = true → a = b
  | [], b, h => by cases b <;> simp_all [beqWs]
  | x :: xs, b, h => by
    cases b with
    | nil => simp [beqWs] at h
    | cons y ys =>
      simp only [beqWs, Bool.and_eq_true] at h
      rw [beqW_eq x y h.1, beqWs_eq xs ys h.2]
end
mutual
@[simp] theorem beqW_refl : ∀ (a : W), beqW a a = true
  | .p d => by simp [beqW]
  | .ro d => by simp [beqW]
  | .loc n => by simp [beqW]
  | .tw d => by simp only [beqW]; exact beqWs_refl d
  | .kt d => by simp [beqW]
@[simp] theorem beqWs_refl : ∀ (a : List W), beqWs a a = true
  | [] => rfl
  | x :: xs => by simp only [beqWs, beqW_refl x, beqWs_refl xs, Bool.and_self]
end

/-! ### what may be read -/
def rd (m : Hm) : W → Option PyData
  | .p d => some d
  | .ro ds => some (.list ds)
  | .loc n => match m[n]? with
    | some (.lst ws) => (allP ws).map .list
    | _ => none
  | .tw ws => (allP ws).map .tuple
  | .kt ds => some (.tuple ds)
@[simp] theorem rd_p {m : Hm} {d : PyData} : rd m (.p d) = some d := rfl
section
variable {K : PySem.W.Frag} {c : Cfg} {H : Hp} {m : Hm}
mutual
theorem Rp.dp : ∀ {v : V} {d : PyData}, Rp K c H v d → Dp K H v d
  | _, _, .non => .non
  | _, _, .bl b => .bl b
  | _, _, .int i => .int i
  | _, _, .str x => .str x
  | _, _, .lst h _ _ _ r => .lst (SqL.of h) (RpAll.dp r)
  | _, _, .tup h _ r => .tup h.sq (RpAll.dp r)
theorem RpAll.dp : ∀ {vs : List V} {ds : List PyData}, RpAll K c H vs ds → DpAll K H vs ds
  | _, _, .nil => .nil
  | _, _, .cons r t => .cons (Rp.dp r) (RpAll.dp t)
end
/-- a list that is read, with its items -/
theorem rd_list {v : V} {w : W} {ds : List PyData} (hm : HRel K c m H) (r : RpW K c H v w) (e : rd m w = some (.list ds)) : ∃ a xs, v = .ref a ∧ SqL K H a xs ∧ RpAll K c H xs ds ∧ xs.length ≤ sizeLine := by
  cases r with
  | p r =>
    cases e
    cases r with
    | lst h n n2 z r => exact ⟨_, _, rfl, SqL.of h, r, z⟩
  | ro h z r => cases e; exact ⟨_, _, rfl, h.sq, r, z⟩
  | @loc a n h =>
    simp only [rd] at e
    cases q : m[n]? with
    | none => rw [q] at e; cases e
    | some x =>
      rw [q] at e
      cases x with
      | lst ws =>
        obtain ⟨ds', e', q'⟩ := Option.map_eq_some_iff.mp e
        cases q'
        obtain ⟨b, hb, xs, hx, z, rr⟩ := hm.at_ n _ q
        rw [h] at hb; cases hb
        exact ⟨_, _, rfl, SqL.of hx, allP_rp rr e', z⟩
      | _ => cases e
  | tw h z r =>
    simp only [rd] at e
    obtain ⟨ds', e', q'⟩ := Option.map_eq_some_iff.mp e
    cases q'
  | kt h d n n2 z r => cases e
theorem rd_tuple {v : V} {w : W} {ds : List PyData} (hm : HRel K c m H) (r : RpW K c H v w) (e : rd m w = some (.tuple ds)) : ∃ a xs, v = .ref a ∧ TupAt K c H a xs ∧ RpAll K c H xs ds ∧ xs.length ≤ sizeLine := by
  cases r with
  | p r =>
    cases e
    cases r with
    | tup h z r => exact ⟨_, _, rfl, h, r, z⟩
  | ro h z r => cases e
  | @loc a n h =>
    simp only [rd] at e
    cases q : m[n]? with
    | none => rw [q] at e; cases e
    | some x =>
      rw [q] at e
      cases x with
      | lst ws =>
        obtain ⟨ds', e', q'⟩ := Option.map_eq_some_iff.mp e
        cases q'
      | _ => cases e
  | tw h z r =>
    simp only [rd] at e
    obtain ⟨ds', e', q'⟩ := Option.map_eq_some_iff.mp e
    cases q'
    exact ⟨_, _, rfl, h, allP_rp r e', z⟩
  | kt h d n n2 z r => cases e; exact ⟨_, _, rfl, .inl ⟨.inr ⟨_, h⟩, n, n2⟩, r, z⟩
theorem rd_dp {v : V} {w : W} {d : PyData} (hm : HRel K c m H) (r : RpW K c H v w) (e : rd m w = some d) : Dp K H v d := by
  cases r with
  | p r => cases e; exact r.dp
  | ro h z r => cases e; exact .lst h.sq r.dp
  | @loc a n h =>
    have e0 := e
    simp only [rd] at e
    cases q : m[n]? with
    | none => rw [q] at e; cases e
    | some x =>
      rw [q] at e
      cases x with
      | lst ws =>
        obtain ⟨ds', e', q'⟩ := Option.map_eq_some_iff.mp e
        subst q'
        obtain ⟨a', xs, e1, h1, r1, _⟩ := rd_list hm (.loc h) e0
        cases e1
        exact .lst h1 r1.dp
      | _ => cases e
  | tw h z r =>
    have e0 := e
    simp only [rd] at e
    obtain ⟨ds', e', q'⟩ := Option.map_eq_some_iff.mp e
    subst q'
    exact .tup h.sq (allP_rp r e').dp
  | kt h d n n2 z r => cases e; exact .tup (.inl (.inr ⟨_, h⟩)) r.dp
end

/-! ### names, constants -/
def eVar (i : Nat) : EX W := fun s m => match s[i]? with
  | some (some w) => .ok w m
  | _ => .stuck
def eC (d : PyData) : EX W := fun _ m => .ok (.p d) m
section
variable {X : Cx} {U : WX} {pos : Pos}
theorem x_var (i : Nat) {x : Str} (hN : X.N[i]? = some x := by rfl) (hv : Vis X.env.scope x := by first | exact Or.inl rfl | exact Or.inr (Or.inl rfl) | exact Or.inr (Or.inr rfl)) (hd : (x == ("__debug__" : Str)) = false := by decide)
    (hcd : (x == ("__classdict__" : Str)) = false := by decide) : PE X (.Name x pos) (T X.K U (eVar i)) := by
  refine imp (pv i hN hv hd hcd) ?_
  rintro σ H Q ⟨c, s, m, hs, hm, hp⟩
  unfold eVar at hp
  split at hp
  · rename_i w e
    obtain ⟨v, hv, r⟩ := hs.2 i w e
    exact ⟨v, hv, hp.ok hm v r⟩
  · exact hp.elim
theorem x_const {d : PyData} {v : V} {e : Expr} (h : PE X e (tC v)) (r : ∀ c H, Rp X.K c H v d) : PE X e (T X.K U (eC d)) := by
  refine imp h ?_
  rintro σ H Q ⟨c, s, m, hs, hm, hp⟩
  exact hp.ok hm v (.p (r c H))
theorem x_int {i : Int} {j : Nat} : PE X (.Constant (.int i) j pos) (T X.K U (eC (.int i))) := x_const pe_int fun _ _ => .int i
theorem x_bl {b : Bool} {j : Nat} : PE X (.Constant (.bool b) j pos) (T X.K U (eC (.bool b))) := x_const pe_bl fun _ _ => .bl b
theorem x_non {j : Nat} : PE X (.Constant .none j pos) (T X.K U (eC .none)) := x_const pe_non fun _ _ => .non
theorem x_str {x : Str} {j : Nat} : PE X (.Constant (.str x) j pos) (T X.K U (eC (.str x))) := x_const pe_str fun _ _ => .str x
theorem x_gint {x : Str} {i : Int} (hm : ∃ t, X.mg x = some (.int i t)) (hg : Gl X x := by rfl) (hd : (x == ("__debug__" : Str)) = false := by decide) : PE X (.Name x pos) (T X.K U (eC (.int i))) := by
  obtain ⟨t, hm⟩ := hm
  exact x_const (pe_glob (v := .int i) hg hm ⟨t, rfl⟩ hd) fun _ _ => .int i
theorem x_gstr {x z : Str} (hm : ∃ t, X.mg x = some (.str z t)) (hg : Gl X x := by rfl) (hd : (x == ("__debug__" : Str)) = false := by decide) : PE X (.Name x pos) (T X.K U (eC (.str z))) := by
  obtain ⟨t, hm⟩ := hm
  exact x_const (pe_glob (v := .str z) hg hm ⟨t, rfl⟩ hd) fun _ _ => .str z
end

/-! ### two-place operations -/
def eOp2 (g : W → W → Hm → Res W) (f1 f2 : EX W) : EX W := fun s m => (f1 s m).bind fun a m1 => (f2 s m1).bind fun b m2 => g a b m2
def OpM (K : PySem.W.Frag) (r : R2) (g : W → W → Hm → Res W) : Prop := ∀ (U : WX) (σ : L2.St) (c : Cfg) (H : Hp) (m : Hm) (v1 v2 : V) (w1 w2 : W) (Q : VK),
  HRel K c m H → RpW K c H v1 w1 → RpW K c H v2 w2 → Post K U σ c H (RQ K Q) (g w1 w2 m) → r v1 v2 H Q
section
variable {X : Cx} {U : WX} {pos : Pos} {a b : Expr} {f1 f2 : EX W}
theorem t_op2 {K : PySem.W.Frag} {r : R2} {g : W → W → Hm → Res W} (hg : OpM K r g) {σ : L2.St} {H : Hp} {Q : VK} (h : T K U (eOp2 g f1 f2) σ H Q) : tOp r (T K U f1) (T K U f2) σ H Q := by
  obtain ⟨c, s, m, hs, hm, hp⟩ := h
  exact T.run hs hm hp fun c1 H1 w1 m1 v1 e1 hs1 hm1 r1 hp1 => T.run hs1 hm1 hp1 fun c2 H2 w2 m2 v2 e2 hs2 hm2 r2 hp2 => hg U σ c2 H2 m2 v1 v2 w1 w2 Q hm2 (r1.mono e2) r2 hp2
theorem x_op {op : Operator} {r : R2} {g : W → W → Hm → Res W} (ho : OpR X (binaryOp op) r) (hg : OpM X.K r g) (ha : PE X a (T X.K U f1)) (hb : PE X b (T X.K U f2)) : PE X (.BinOp a op b pos) (T X.K U (eOp2 g f1 f2)) :=
  imp (pe_op ho ha hb) fun _ _ _ h => t_op2 hg h
theorem x_cmp {op : CmpOp} {r : R2} {g : W → W → Hm → Res W} (ho : OpR X (compareOp op) r) (hg : OpM X.K r g) (ha : PE X a (T X.K U f1)) (hb : PE X b (T X.K U f2)) (hm : behindInMarks op b = false := by first | exact nomark _ | rfl | with_unfolding_all rfl) :
    PE X (.Compare a [op] [b] pos) (T X.K U (eOp2 g f1 f2)) := imp (pe_cmpR ho ha hb hm) fun _ _ _ h => t_op2 hg h
/-- by cases of the values: two rules for one operation -/
theorem OpM.or {K : PySem.W.Frag} {r r' : R2} {g : W → W → Hm → Res W} (h : ∀ (U : WX) (σ : L2.St) (c : Cfg) (H : Hp) (m : Hm) (v1 v2 : V) (w1 w2 : W) (Q : VK), HRel K c m H → RpW K c H v1 w1 → RpW K c H v2 w2 → Post K U σ c H (RQ K Q) (g w1 w2 m) → r v1 v2 H Q ∨ r' v1 v2 H Q) :
    OpM K (fun x y H Q => r x y H Q ∨ r' x y H Q) g := h
end
/-- ints in, an int out -/
def intM (C : Int → Int → Bool) (g : Int → Int → PyData) : W → W → Hm → Res W
  | .p (.int i), .p (.int j), m => if C i j = true then .ok (.p (g i j)) m else .stuck
  | _, _, _ => .stuck
@[simp] theorem intM_ii {C : Int → Int → Bool} {g : Int → Int → PyData} {i j : Int} {m : Hm} : intM C g (.p (.int i)) (.p (.int j)) m = if C i j = true then .ok (.p (g i j)) m else .stuck := rfl
theorem intM_ok {K : PySem.W.Frag} {C : Int → Int → Bool} {CP : Int → Int → Prop} {g : Int → Int → PyData} {gv : Int → Int → V} (hC : ∀ i j, C i j = true → CP i j) (hr : ∀ c H i j, Rp K c H (gv i j) (g i j)) : OpM K (rI CP gv) (intM C g) := by
  intro U σ c H m v1 v2 w1 w2 Q hm r1 r2 hp
  unfold intM at hp
  split at hp
  · rename_i i j
    cases r1 with | p r1 => cases r2 with | p r2 =>
    cases r1; cases r2
    split at hp
    · rename_i hc
      exact ⟨i, j, rfl, rfl, hC i j hc, hp.ok hm _ (.p (hr c H i j))⟩
    · exact hp.elim
  · exact hp.elim
theorem intM0_ok {K : PySem.W.Frag} {g : Int → Int → PyData} {gv : Int → Int → V} (hr : ∀ c H i j, Rp K c H (gv i j) (g i j)) : OpM K (rI0 gv) (intM (fun _ _ => true) g) := by
  intro U σ c H m v1 v2 w1 w2 Q hm r1 r2 hp
  obtain ⟨i, j, e1, e2, _, q⟩ := intM_ok (CP := fun _ _ => True) (fun _ _ _ => trivial) hr U σ c H m v1 v2 w1 w2 Q hm r1 r2 hp
  exact ⟨i, j, e1, e2, q⟩
def subM := intM (fun _ _ => true) fun i j => .int (i - j)
def smallI (i : Int) : Bool := decide (-(2 ^ 64) < i) && decide (i < 2 ^ 64)
def mulI := intM (fun i j => smallI i || smallI j) fun i j => .int (i * j)
def modM := intM (fun _ j => decide (0 < j)) fun i j => .int (i % j)
def divM := intM (fun _ j => decide (0 < j) && decide (j < 1073741824)) fun i j => .int (i / j)
def powM := intM (fun i j => decide (0 ≤ j) && (decide (j ≤ 1000000) && decide (i.natAbs < 2 ^ 64))) fun i j => .int (i ^ j.toNat)
theorem subM_ok {K : PySem.W.Frag} : OpM K (rI0 fun i j => .int (i - j)) subM := intM0_ok fun _ _ _ _ => .int _
theorem mulI_ok {K : PySem.W.Frag} : OpM K (rI CMul fun i j => .int (i * j)) mulI := intM_ok (fun i j h => by
  simp only [smallI, Bool.or_eq_true, Bool.and_eq_true, decide_eq_true_eq] at h
  exact h) fun _ _ _ _ => .int _
theorem modM_ok {K : PySem.W.Frag} : OpM K (rI (fun _ j => 0 < j) fun i j => .int (i % j)) modM := intM_ok (fun i j h => by simpa using h) fun _ _ _ _ => .int _
theorem divM_ok {K : PySem.W.Frag} : OpM K (rI CDiv fun i j => .int (i / j)) divM := intM_ok (fun i j h => by
  simp only [Bool.and_eq_true, decide_eq_true_eq] at h
  exact h) fun _ _ _ _ => .int _
theorem powM_ok {K : PySem.W.Frag} : OpM K (rI CPow fun i j => .int (i ^ j.toNat)) powM := intM_ok (fun i j h => by
  simp only [Bool.and_eq_true, decide_eq_true_eq] at h
  exact h) fun _ _ _ _ => .int _
def negM : W → Hm → Res W
  | .p (.int i), m => .ok (.p (.int (-i))) m
  | _, _ => .stuck
def eOp1 (g : W → Hm → Res W) (f : EX W) : EX W := fun s m => (f s m).bind g
theorem x_neg {X : Cx} {U : WX} {pos : Pos} {a : Expr} {f : EX W} (ha : PE X a (T X.K U f)) : PE X (.UnaryOp .USub a pos) (T X.K U (eOp1 negM f)) := by
  refine imp (pe_un un_neg ha) ?_
  rintro σ H Q ⟨c, s, m, hs, hm, hp⟩
  refine T.run hs hm hp fun c1 H1 w1 m1 v1 e1 hs1 hm1 r1 hp1 => ?_
  unfold negM at hp1
  split at hp1
  · rename_i i
    cases r1 with | p r1 =>
    cases r1
    exact ⟨i, rfl, hp1.ok hm1 _ (.p (.int _))⟩
  · exact hp1.elim

/-! ### + : ints, texts, tuples, lists -/
def seqT : W → Option (List W)
  | .p (.tuple ds) => some (ds.map .p)
  | .tw ws => some ws
  | _ => none
/-- a tuple of values -/
def mkTup (ws : List W) : W := match allP ws with
  | some ds => .p (.tuple ds)
  | none => .tw ws
@[simp] theorem mkTup_map (ds : List PyData) : mkTup (ds.map .p) = .p (.tuple ds) := by simp [mkTup]
def addM : W → W → Hm → Res W
  | .p (.int i), .p (.int j), m => .ok (.p (.int (i + j))) m
  | .p (.str x), .p (.str y), m => if x.length + y.length ≤ sizeLine then .ok (.p (.str (x ++ y))) m else .stuck
  | .p (.tuple xs), .p (.tuple ys), m => if xs.length + ys.length ≤ sizeLine then .ok (.p (.tuple (xs ++ ys))) m else .stuck
  | .p (.list xs), .p (.list ys), m => if xs.length + ys.length ≤ sizeLine then .ok (.p (.list (xs ++ ys))) m else .stuck
  | _, _, _ => .stuck
section
variable {K : PySem.W.Frag} {c : Cfg} {H : Hp} {m : Hm}
theorem Rp.tupI {v : V} {ds : List PyData} (r : Rp K c H v (.tuple ds)) : ∃ a xs, v = .ref a ∧ TupAt K c H a xs ∧ xs.length ≤ sizeLine ∧ RpAll K c H xs ds := by
  cases r with | tup h z r => exact ⟨_, _, rfl, h, z, r⟩
theorem Rp.lstI {v : V} {ds : List PyData} (r : Rp K c H v (.list ds)) : ∃ a xs, v = .ref a ∧ H a = some (.lst xs) ∧ a ∉ c.fa ∧ a ∉ c.rho ∧ xs.length ≤ sizeLine ∧ RpAll K c H xs ds := by
  cases r with | lst h n n2 z r => exact ⟨_, _, rfl, h, n, n2, z, r⟩
theorem RpAll.nil_iff {xs : List V} {ds : List PyData} (r : RpAll K c H xs ds) : xs = [] ↔ ds = [] := by cases r <;> simp
/-- a new tuple, a new list -/
theorem Rp.newT {p : Addr} {xs : List V} {ds : List PyData} (hm : HRel K c m H) (hp : H p = none) (z : xs.length ≤ sizeLine) (r : RpAll K c H xs ds) : Rp K c (upd H p (.tup xs)) (.ref p) (.tuple ds) :=
  .tup (.inl ⟨.inl upd_same, (hm.free hp).1, (hm.free hp).2⟩) z (r.mono (Ext.new hp))
theorem Rp.newL {p : Addr} {xs : List V} {ds : List PyData} (hm : HRel K c m H) (hp : H p = none) (z : xs.length ≤ sizeLine) (r : RpAll K c H xs ds) : Rp K c (upd H p (.lst xs)) (.ref p) (.list ds) :=
  .lst upd_same (hm.free hp).1 (hm.free hp).2 z (r.mono (Ext.new hp))
end
abbrev rAddAll (K : PySem.W.Frag) : R2 := fun x y H Q => (rI0 (fun i j => .int (i + j))) x y H Q ∨ ((fun x y H Q => ∃ i j, x = V.str i ∧ y = V.str j ∧ i.length + j.length ≤ sizeLine ∧ Q (V.str (i ++ j)) H) x y H Q ∨ (rCatA K x y H Q ∨ rCat x y H Q))
theorem op_addAll {X : Cx} : OpR X (binaryOp .Add) (rAddAll X.K) := op_add.or (op_add_str.or (op_catA.or op_cat))
theorem addM_ok {K : PySem.W.Frag} : OpM K (rAddAll K) addM := by
  intro U σ c H m v1 v2 w1 w2 Q hm r1 r2 hp
  unfold addM at hp
  split at hp
  · cases r1 with | p r1 => cases r2 with | p r2 =>
    cases r1; cases r2
    exact .inl ⟨_, _, rfl, rfl, hp.ok hm _ (.p (.int _))⟩
  · cases r1 with | p r1 => cases r2 with | p r2 =>
    cases r1; cases r2
    split at hp
    · rename_i hz
      exact .inr (.inl ⟨_, _, rfl, rfl, hz, hp.ok hm _ (.p (.str _))⟩)
    · exact hp.elim
  · cases r1 with | p r1 => cases r2 with | p r2 =>
    split at hp
    · rename_i hz
      obtain ⟨a, xs, rfl, h1, z1, q1⟩ := r1.tupI
      obtain ⟨b, ys, rfl, h2, z2, q2⟩ := r2.tupI
      have l1 := q1.length
      have l2 := q2.length
      refine .inr (.inr (.inl ⟨a, b, xs, ys, rfl, rfl, h1.sq, h2.sq, by omega, fun e => ?_, fun _ e => ?_, fun _ _ p hpn => ?_⟩))
      · have e' := q1.nil_iff.mp e
        subst e'
        exact hp.ok hm _ (.p (by simpa using r2))
      · have e' := q2.nil_iff.mp e
        subst e'
        exact hp.ok hm _ (.p (by simpa using r1))
      · exact hp c (upd H p _) (Ext.new hpn) (hm.new hpn) _ (.p (Rp.newT hm hpn (by simp only [List.length_append]; omega) (RpAll.append q1 q2)))
    · exact hp.elim
  · cases r1 with | p r1 => cases r2 with | p r2 =>
    split at hp
    · rename_i hz
      obtain ⟨a, xs, rfl, h1, _, _, z1, q1⟩ := r1.lstI
      obtain ⟨b, ys, rfl, h2, _, _, z2, q2⟩ := r2.lstI
      have l1 := q1.length
      have l2 := q2.length
      refine .inr (.inr (.inr ⟨a, b, xs, ys, rfl, rfl, h1, h2, by omega, fun p hpn => ?_⟩))
      exact hp c (upd H p _) (Ext.new hpn) (hm.new hpn) _ (.p (Rp.newL hm hpn (by simp only [List.length_append]; omega) (RpAll.append q1 q2)))
    · exact hp.elim
  · exact hp.elim

/-! ### == and its kin -/
def eqM (neg : Bool) (a b : W) (m : Hm) : Res W := match rd m a, rd m b with
  | some d, some e => if (SeqAt.shaped d && SeqAt.shaped e) = true then .ok (.p (.bool (if neg = true then !PyData.eqv d e else PyData.eqv d e))) m else .stuck
  | _, _ => .stuck
theorem eqM_ok {K : PySem.W.Frag} : OpM K (rEqD K) (eqM false) := by
  intro U σ c H m v1 v2 w1 w2 Q hm r1 r2 hp
  unfold eqM at hp
  split at hp
  · rename_i d e e1 e2
    split at hp
    · rename_i hz
      rw [Bool.and_eq_true] at hz
      exact ⟨d, e, rd_dp hm r1 e1, rd_dp hm r2 e2, hz.1, hz.2, hp.ok hm _ (.p (.bl _))⟩
    · exact hp.elim
  · exact hp.elim
theorem neM_ok {K : PySem.W.Frag} : OpM K (rNeD K) (eqM true) := by
  intro U σ c H m v1 v2 w1 w2 Q hm r1 r2 hp
  unfold eqM at hp
  split at hp
  · rename_i d e e1 e2
    split at hp
    · rename_i hz
      rw [Bool.and_eq_true] at hz
      exact ⟨d, e, rd_dp hm r1 e1, rd_dp hm r2 e2, hz.1, hz.2, hp.ok hm _ (.p (.bl _))⟩
    · exact hp.elim
  · exact hp.elim
/-- ints of data -/
def intsOf : List PyData → Option (List Int)
  | [] => some []
  | .int i :: r => (intsOf r).map (i :: ·)
  | _ :: _ => none
theorem intsOf_eq : ∀ {ds : List PyData} {ns : List Int}, intsOf ds = some ns → ds = ns.map PyData.int
  | [], _, h => by cases h; rfl
  | d :: r, ns, h => by
    cases d with
    | int i =>
      obtain ⟨ns', e, rfl⟩ := Option.map_eq_some_iff.mp (show (intsOf r).map (i :: ·) = some ns from h)
      rw [intsOf_eq e]
      rfl
    | _ => cases h
@[simp] theorem intsOf_map (ns : List Int) : intsOf (ns.map PyData.int) = some ns := by
  induction ns with
  | nil => rfl
  | cons n r ih => simp [intsOf, ih]
@[simp] theorem intsOf_nil : intsOf [] = some [] := rfl
@[simp] theorem intsOf_cons (i : Int) (r : List PyData) : intsOf (.int i :: r) = (intsOf r).map (i :: ·) := rfl
theorem RpAll.ints {K : PySem.W.Frag} {c : Cfg} {H : Hp} : ∀ {xs : List V} {ns : List Int}, RpAll K c H xs (ns.map PyData.int) → xs = ns.map V.int
  | _, [], h => by cases h; rfl
  | _, n :: ns, h => by
    cases h with
    | cons r t =>
      cases r
      rw [RpAll.ints t]
      rfl
def ltM : W → W → Hm → Res W
  | .p (.int i), .p (.int j), m => .ok (.p (.bool (decide (i < j)))) m
  | .p (.tuple xs), .p (.tuple ys), m => match intsOf xs, intsOf ys with
    | some ns, some ms => .ok (.p (.bool (HT.lexLt ns ms))) m
    | _, _ => .stuck
  | _, _, _ => .stuck
abbrev rLtAll (K : PySem.W.Frag) : R2 := fun x y H Q => (rI0 (fun i j => .bl (decide (i < j)))) x y H Q ∨ rLtT K x y H Q
theorem op_ltAll {X : Cx} (hu : X.A.units < cLine) : OpR X (compareOp .Lt) (rLtAll X.K) := op_lt.or (op_ltT hu)
theorem ltM_ok {K : PySem.W.Frag} : OpM K (rLtAll K) ltM := by
  intro U σ c H m v1 v2 w1 w2 Q hm r1 r2 hp
  unfold ltM at hp
  split at hp
  · cases r1 with | p r1 => cases r2 with | p r2 =>
    cases r1; cases r2
    exact .inl ⟨_, _, rfl, rfl, hp.ok hm _ (.p (.bl _))⟩
  · cases r1 with | p r1 => cases r2 with | p r2 =>
    split at hp
    · rename_i ns ms e1 e2
      obtain ⟨a, xs, rfl, h1, z1, q1⟩ := r1.tupI
      obtain ⟨b, ys, rfl, h2, z2, q2⟩ := r2.tupI
      rw [intsOf_eq e1] at q1
      rw [intsOf_eq e2] at q2
      have l1 := q1.ints
      have l2 := q2.ints
      subst l1 l2
      exact .inr ⟨a, b, ns, ms, rfl, rfl, h1.sq, h2.sq, hp.ok hm _ (.p (.bl _))⟩
    · exact hp.elim
  · exact hp.elim
def leM := intM (fun _ _ => true) fun i j => .bool (decide (i ≤ j))
def gtM := intM (fun _ _ => true) fun i j => .bool (decide (j < i))
def geM := intM (fun _ _ => true) fun i j => .bool (decide (j ≤ i))
theorem leM_ok {K : PySem.W.Frag} : OpM K (rI0 fun i j => .bl (decide (i ≤ j))) leM := intM0_ok fun _ _ _ _ => .bl _
theorem gtM_ok {K : PySem.W.Frag} : OpM K (rI0 fun i j => .bl (decide (j < i))) gtM := intM0_ok fun _ _ _ _ => .bl _
theorem geM_ok {K : PySem.W.Frag} : OpM K (rI0 fun i j => .bl (decide (j ≤ i))) geM := intM0_ok fun _ _ _ _ => .bl _
/-- is None, is not None -/
def isNone : W → Bool
  | .p .none => true
  | _ => false
def isNoneM (neg : Bool) (a b : W) (m : Hm) : Res W := match b with
  | .p .none => .ok (.p (.bool (if neg = true then !isNone a else isNone a))) m
  | _ => .stuck
theorem RpW.isNone {K : PySem.W.Frag} {c : Cfg} {H : Hp} {v : V} {w : W} (r : RpW K c H v w) : decide (v = .non) = Mir.isNone w := by
  cases r with
  | p r => cases r <;> simp [Mir.isNone]
  | ro => simp [Mir.isNone]
  | loc => simp [Mir.isNone]
  | tw => simp [Mir.isNone]
  | kt => simp [Mir.isNone]
theorem isNoneM_ok {K : PySem.W.Frag} : OpM K (fun x y H Q => y = .non ∧ Q (.bl (decide (x = .non))) H) (isNoneM false) := by
  intro U σ c H m v1 v2 w1 w2 Q hm r1 r2 hp
  unfold isNoneM at hp
  split at hp
  · cases r2 with | p r2 =>
    cases r2
    exact ⟨rfl, by rw [r1.isNone]; exact hp.ok hm _ (.p (.bl _))⟩
  · exact hp.elim
theorem notNoneM_ok {K : PySem.W.Frag} : OpM K (fun x y H Q => y = .non ∧ Q (.bl (!decide (x = .non))) H) (isNoneM true) := by
  intro U σ c H m v1 v2 w1 w2 Q hm r1 r2 hp
  unfold isNoneM at hp
  split at hp
  · cases r2 with | p r2 =>
    cases r2
    exact ⟨rfl, by rw [r1.isNone]; exact hp.ok hm _ (.p (.bl _))⟩
  · exact hp.elim
/-- is, is not of bools -/
def isBlM (neg : Bool) : W → W → Hm → Res W
  | .p (.bool a), .p (.bool b), m => .ok (.p (.bool (if neg = true then !decide (a = b) else decide (a = b)))) m
  | _, _, _ => .stuck
theorem isBlM_ok {K : PySem.W.Frag} : OpM K (fun x y H Q => ∃ a b, x = .bl a ∧ y = .bl b ∧ Q (.bl (decide (a = b))) H) (isBlM false) := by
  intro U σ c H m v1 v2 w1 w2 Q hm r1 r2 hp
  unfold isBlM at hp
  split at hp
  · cases r1 with | p r1 => cases r2 with | p r2 =>
    cases r1; cases r2
    exact ⟨_, _, rfl, rfl, hp.ok hm _ (.p (.bl _))⟩
  · exact hp.elim
theorem isntBlM_ok {K : PySem.W.Frag} : OpM K (fun x y H Q => ∃ a b, x = .bl a ∧ y = .bl b ∧ Q (.bl (!decide (a = b))) H) (isBlM true) := by
  intro U σ c H m v1 v2 w1 w2 Q hm r1 r2 hp
  unfold isBlM at hp
  split at hp
  · cases r1 with | p r1 => cases r2 with | p r2 =>
    cases r1; cases r2
    exact ⟨_, _, rfl, rfl, hp.ok hm _ (.p (.bl _))⟩
  · exact hp.elim
/-- in, not in: a list of data; a tuple of flat data -/
def flatP : PyData → Bool
  | .none => true
  | .bool _ => true
  | .int _ => true
  | .str _ => true
  | _ => false
def inM (neg : Bool) (a b : W) (m : Hm) : Res W := match rd m a, rd m b with
  | some d, some (.list ds) => if (SeqAt.shaped d && SeqAt.shaped (.list ds)) = true then .ok (.p (.bool (if neg = true then !(ds.any fun z => PyData.eqv z d) else ds.any fun z => PyData.eqv z d))) m else .stuck
  | some d, some (.tuple ds) => if (flatP d && ds.all flatP) = true then .ok (.p (.bool (if neg = true then !(ds.any fun z => PyData.eqv z d) else ds.any fun z => PyData.eqv z d))) m else .stuck
  | _, _ => .stuck
theorem flat_of {K : PySem.W.Frag} {H : Hp} {v : V} {d : PyData} (h : Dp K H v d) (f : flatP d = true) : flatV v = true := by
  cases h with
  | lst => cases f
  | tup => cases f
  | _ => rfl
theorem flats_of {K : PySem.W.Frag} {H : Hp} : ∀ {vs : List V} {ds : List PyData}, DpAll K H vs ds → ds.all flatP = true → vs.all flatV = true
  | _, _, .nil, _ => rfl
  | _, _, .cons r t, f => by
    rw [List.all_cons, Bool.and_eq_true] at f
    rw [List.all_cons, flat_of r f.1, flats_of t f.2]
    rfl
theorem eqV_of {K : PySem.W.Frag} {H : Hp} {v u : V} {d e : PyData} (h : Dp K H v d) (h' : Dp K H u e) (f : flatP d = true) (f' : flatP e = true) : eqV v u = PyData.eqv d e := by
  cases h with
  | lst => cases f
  | tup => cases f
  | non => cases h' with
    | lst => cases f'
    | tup => cases f'
    | _ => rfl
  | bl b => cases h' with
    | lst => cases f'
    | tup => cases f'
    | _ => rfl
  | int i => cases h' with
    | lst => cases f'
    | tup => cases f'
    | _ => rfl
  | str x => cases h' with
    | lst => cases f'
    | tup => cases f'
    | _ => rfl
theorem inV_of {K : PySem.W.Frag} {H : Hp} {v : V} {d : PyData} (h : Dp K H v d) (f : flatP d = true) : ∀ {vs : List V} {ds : List PyData}, DpAll K H vs ds → ds.all flatP = true → inV v vs = ds.any fun z => PyData.eqv z d
  | _, _, .nil, _ => rfl
  | _, _, .cons r t, g => by
    rw [List.all_cons, Bool.and_eq_true] at g
    show (eqV _ v || inV v _) = _
    rw [eqV_of r h g.1 f, inV_of h f t g.2, List.any_cons]
theorem DpAll.inv {K : PySem.W.Frag} {H : Hp} {v : V} {ds : List PyData} (h : Dp K H v (.tuple ds)) : ∃ a xs, v = .ref a ∧ SqT K H a xs ∧ DpAll K H xs ds := by
  cases h with | tup h r => exact ⟨_, _, rfl, h, r⟩
theorem op_inAll {X : Cx} (hu : X.A.units + 65 < cLine) : OpR X (compareOp .In) (fun x y H Q => rInD X.K x y H Q ∨ rIn X.K false x y H Q) := (op_inD hu).or op_in_seq
theorem op_notInAll {X : Cx} (hu : X.A.units + 65 < cLine) : OpR X (compareOp .NotIn) (fun x y H Q => rNotInD X.K x y H Q ∨ rIn X.K true x y H Q) := (op_notInD hu).or op_notIn_seq
theorem inM_ok {K : PySem.W.Frag} : OpM K (fun x y H Q => rInD K x y H Q ∨ rIn K false x y H Q) (inM false) := by
  intro U σ c H m v1 v2 w1 w2 Q hm r1 r2 hp
  unfold inM at hp
  split at hp
  · rename_i d ds e1 e2
    split at hp
    · rename_i hz
      rw [Bool.and_eq_true] at hz
      exact .inl ⟨d, ds, rd_dp hm r1 e1, rd_dp hm r2 e2, hz.1, hz.2, hp.ok hm _ (.p (.bl _))⟩
    · exact hp.elim
  · rename_i d ds e1 e2
    split at hp
    · rename_i hz
      rw [Bool.and_eq_true] at hz
      have h1 := rd_dp hm r1 e1
      obtain ⟨a, xs, rfl, h2, q⟩ := DpAll.inv (rd_dp hm r2 e2)
      refine .inr ⟨a, xs, rfl, .inr h2, flat_of h1 hz.1, flats_of q hz.2, ?_⟩
      rw [inV_of h1 hz.1 q hz.2]
      exact hp.ok hm _ (.p (.bl _))
    · exact hp.elim
  · exact hp.elim
theorem notInM_ok {K : PySem.W.Frag} : OpM K (fun x y H Q => rNotInD K x y H Q ∨ rIn K true x y H Q) (inM true) := by
  intro U σ c H m v1 v2 w1 w2 Q hm r1 r2 hp
  unfold inM at hp
  split at hp
  · rename_i d ds e1 e2
    split at hp
    · rename_i hz
      rw [Bool.and_eq_true] at hz
      exact .inl ⟨d, ds, rd_dp hm r1 e1, rd_dp hm r2 e2, hz.1, hz.2, hp.ok hm _ (.p (.bl _))⟩
    · exact hp.elim
  · rename_i d ds e1 e2
    split at hp
    · rename_i hz
      rw [Bool.and_eq_true] at hz
      have h1 := rd_dp hm r1 e1
      obtain ⟨a, xs, rfl, h2, q⟩ := DpAll.inv (rd_dp hm r2 e2)
      refine .inr ⟨a, xs, rfl, .inr h2, flat_of h1 hz.1, flats_of q hz.2, ?_⟩
      rw [inV_of h1 hz.1 q hz.2]
      exact hp.ok hm _ (.p (.bl _))
    · exact hp.elim
  · exact hp.elim

/-! ### a chain of two comparisons -/
def eChain (g g' : W → W → Hm → Res W) (f1 f2 f3 : EX W) : EX W := fun s m => (f1 s m).bind fun a m1 => (f2 s m1).bind fun b m2 => (g a b m2).bind fun r m3 => match r with
  | .p (.bool true) => (f3 s m3).bind fun d m4 => g' b d m4
  | .p (.bool false) => .ok (.p (.bool false)) m3
  | _ => .stuck
/-- the operation leaves the state as it is and answers a bool (as the comparisons of ints do) -/
def Quiet (g : W → W → Hm → Res W) : Prop := ∀ a b m, g a b m = .stuck ∨ ∃ k, g a b m = .ok (.p (.bool k)) m
theorem intM_quiet {C : Int → Int → Bool} {g : Int → Int → Bool} : Quiet (intM C fun i j => .bool (g i j)) := fun a b m => by
  unfold intM
  split
  · split
    · exact .inr ⟨_, rfl⟩
    · exact .inl rfl
  · exact .inl rfl
theorem ltM_quiet : Quiet ltM := fun a b m => by
  unfold ltM
  split
  · exact .inr ⟨_, rfl⟩
  · split
    · exact .inr ⟨_, rfl⟩
    · exact .inl rfl
  · exact .inl rfl
theorem x_chain {X : Cx} {U : WX} {pos : Pos} {a b c : Expr} {f1 f2 f3 : EX W} {op op' : CmpOp} {r r' : R2} {g g' : W → W → Hm → Res W} (ho : OpR X (compareOp op) r) (hg : OpM X.K r g) (hq : Quiet g) (ho' : OpR X (compareOp op') r') (hg' : OpM X.K r' g')
    (ha : PE X a (T X.K U f1)) (hb : PE X b (T X.K U f2)) (hc : PE X c (T X.K U f3)) (hm : lastMarks [op, op'] [b, c] = false := by with_unfolding_all rfl) : PE X (.Compare a [op, op'] [b, c] pos) (T X.K U (eChain g g' f1 f2 f3)) := by
  refine imp (pe_chain ho ho' ha hb hc hm) ?_
  rintro σ H Q ⟨c, s, m, hs, hm, hp⟩
  refine T.run hs hm hp fun c1 H1 w1 m1 v1 e1 hs1 hm1 r1 hp1 => T.run hs1 hm1 hp1 fun c2 H2 w2 m2 v2 e2 hs2 hm2 r2 hp2 => ?_
  rcases hq w1 w2 m2 with z | ⟨k, z⟩
  · rw [z] at hp2; exact hp2.elim
  · rw [z] at hp2
    refine hg U σ c2 H2 m2 v1 v2 w1 w2 _ hm2 (r1.mono e2) r2 ?_
    rw [z]
    intro c3 H3 e3 hm3 v rv
    cases rv with | p rv =>
    cases rv
    refine ⟨k, rfl, ?_⟩
    have hp3 := hp2.ext e3
    cases k with
    | true =>
      rw [if_pos rfl]
      exact T.run (hs2.mono e3) hm3 hp3 fun c4 H4 w4 m4 v4 e4 hs4 hm4 r4 hp4 => hg' U σ c4 H4 m4 v2 v4 w2 w4 Q hm4 ((r2.mono e3).mono e4) r4 hp4
    | false =>
      rw [if_neg Bool.false_ne_true]
      exact hp3.ok hm3 _ (.p (.bl _))
end Mir

namespace Mir
open PySem PySem.Spec PyProof.Rows L2

/-! ### truth -/
def truth (m : Hm) : W → Option Bool
  | .p .none => some false
  | .p (.bool b) => some b
  | .p (.int i) => some (i != 0)
  | .p (.str x) => if x.length ≤ sizeLine then some ((x.length : Int) != 0) else none
  | .p (.list ds) => some (!ds.isEmpty)
  | .p (.tuple ds) => some (!ds.isEmpty)
  | .tw ws => some (!ws.isEmpty)
  | .loc n => match m[n]? with
    | some (.lst ws) => some (!ws.isEmpty)
    | _ => none
  | _ => none
section
variable {K : PySem.W.Frag} {c : Cfg} {H : Hp} {m : Hm}
theorem isEmptyA : ∀ {xs : List V} {ds : List PyData}, RpAll K c H xs ds → xs.isEmpty = ds.isEmpty
  | _, _, .nil => rfl
  | _, _, .cons _ _ => rfl
theorem isEmptyW : ∀ {xs : List V} {ds : List W}, RpWs K c H xs ds → xs.isEmpty = ds.isEmpty
  | _, _, .nil => rfl
  | _, _, .cons _ _ => rfl
theorem truth_ok {v : V} {w : W} {b : Bool} (hm : HRel K c m H) (r : RpW K c H v w) (e : truth m w = some b) : TruV K v H b := by
  cases r with
  | p r =>
    cases r with
    | non => cases e; rfl
    | bl => cases e; rfl
    | int => cases e; rfl
    | str x =>
      simp only [truth] at e
      split at e
      · cases e; rename_i h; exact ⟨h, rfl⟩
      · cases e
    | lst h n n2 z r => cases e; exact .inl ⟨_, SqL.of h, by rw [isEmptyA r]⟩
    | tup h z r => cases e; exact .inr (.inl ⟨_, h.sq, by rw [isEmptyA r]⟩)
  | ro h z r => cases e
  | @loc a n h =>
    simp only [truth] at e
    cases q : m[n]? with
    | none => rw [q] at e; cases e
    | some x =>
      rw [q] at e
      cases x with
      | lst ws =>
        cases e
        obtain ⟨b, hb, xs, hx, z, rr⟩ := hm.at_ n _ q
        rw [h] at hb; cases hb
        exact .inl ⟨_, SqL.of hx, by rw [isEmptyW rr]⟩
      | _ => cases e
  | tw h z r => cases e; exact .inr (.inl ⟨_, h.sq, by rw [isEmptyW r]⟩)
  | kt => cases e
end
def tru (w : W) (m : Hm) : Res Bool := match truth m w with
  | some b => .ok b m
  | none => .stuck
def bTru (f : EX W) : EX Bool := fun s m => (f s m).bind tru
def boolOf (w : W) (m : Hm) : Res Bool := match w with
  | .p (.bool b) => .ok b m
  | _ => .stuck
@[simp] theorem boolOf_b {b : Bool} {m : Hm} : boolOf (.p (.bool b)) m = .ok b m := rfl
def bVal (f : EX W) : EX Bool := fun s m => (f s m).bind boolOf
section
variable {X : Cx} {U : WX} {pos : Pos} {a b : Expr} {f f1 f2 : EX W} {g g1 g2 : EX Bool} {rest : List Expr}
/-- any expression as a test -/
theorem b_tru (ha : PE X a (T X.K U f)) (he : ∀ whole, isTrue a X.env whole = (do let v ← whole; standAt a.pos; holding [v] (truthy v)) := by intro _; rfl) : PT X a (TB X.K U (bTru f)) := by
  refine impT (pt_truth ha he) ?_
  rintro σ H Q ⟨c, s, m, hs, hm, hp⟩
  refine T.run hs hm hp fun c1 H1 w1 m1 v1 e1 hs1 hm1 r1 hp1 => ?_
  unfold tru at hp1
  split at hp1
  · rename_i b e
    exact ⟨b, truth_ok hm1 r1 e, hp1.ok hm1⟩
  · exact hp1.elim
/-- a comparison as a test -/
theorem b_cmp {op : CmpOp} {r : R2} {h : W → W → Hm → Res W} (ho : OpR X (compareOp op) r) (hg : OpM X.K r h) (ha : PE X a (T X.K U f1)) (hb : PE X b (T X.K U f2)) (hm : behindInMarks op b = false := by first | exact nomark _ | rfl | with_unfolding_all rfl) :
    PT X (.Compare a [op] [b] pos) (TB X.K U (bVal (eOp2 h f1 f2))) := by
  refine impT (pt_cmpR ho ha hb hm) ?_
  rintro σ H Q ⟨c, s, m, hs, hm, hp⟩
  show T X.K U f1 σ H _
  have hp' : Post X.K U σ c H (fun c' H' b _ => Q b H') ((f1 s m).bind fun a m1 => (f2 s m1).bind fun b m2 => (h a b m2).bind boolOf) := by
    have e : (f1 s m).bind (fun a m1 => (f2 s m1).bind fun b m2 => (h a b m2).bind boolOf) = bVal (eOp2 h f1 f2) s m := by
      unfold bVal eOp2
      cases f1 s m with
      | ok a m1 =>
        show (f2 s m1).bind _ = ((f2 s m1).bind _).bind boolOf
        cases f2 s m1 <;> rfl
      | _ => rfl
    rw [e]
    exact hp
  refine T.run hs hm hp' fun c1 H1 w1 m1 v1 e1 hs1 hm1 r1 hp1 => T.run hs1 hm1 hp1 fun c2 H2 w2 m2 v2 e2 hs2 hm2 r2 hp2 => ?_
  refine hg U σ c2 H2 m2 v1 v2 w1 w2 _ hm2 (r1.mono e2) r2 ?_
  cases e : h w1 w2 m2 with
  | stuck => rw [e] at hp2; exact hp2
  | exc x m' => rw [e] at hp2; exact hp2
  | ok y m3 =>
    rw [e] at hp2
    intro c3 H3 e3 hm3 v rv
    simp only [bind_ok, boolOf] at hp2
    split at hp2
    · cases rv with | p rv =>
      cases rv
      exact ⟨_, rfl, (hp2.ext e3).ok hm3⟩
    · exact hp2.elim
theorem b_chain {c : Expr} {f3 : EX W} {op op' : CmpOp} {r r' : R2} {h h' : W → W → Hm → Res W} (ho : OpR X (compareOp op) r) (hg : OpM X.K r h) (hq : Quiet h) (ho' : OpR X (compareOp op') r') (hg' : OpM X.K r' h')
    (ha : PE X a (T X.K U f1)) (hb : PE X b (T X.K U f2)) (hc : PE X c (T X.K U f3)) (hm : lastMarks [op, op'] [b, c] = false := by with_unfolding_all rfl) : PT X (.Compare a [op, op'] [b, c] pos) (TB X.K U (bVal (eChain h h' f1 f2 f3))) := by
  refine impT (pt_chain ho ho' ha hb hc hm) ?_
  rintro σ H Q ⟨c, s, m, hs, hm, hp⟩
  show tChain _ _ _ _ _ σ H _
  have hp' : Post X.K U σ c H (fun c' H' b _ => Q b H') ((f1 s m).bind fun a m1 => (f2 s m1).bind fun b m2 => (h a b m2).bind fun r m3 => (match r with
      | .p (.bool true) => (f3 s m3).bind fun d m4 => h' b d m4
      | .p (.bool false) => .ok (.p (.bool false)) m3
      | _ => .stuck : Res W).bind boolOf) := by
    have e : ((f1 s m).bind fun a m1 => (f2 s m1).bind fun b m2 => (h a b m2).bind fun r m3 => (match r with
      | .p (.bool true) => (f3 s m3).bind fun d m4 => h' b d m4
      | .p (.bool false) => .ok (.p (.bool false)) m3
      | _ => .stuck : Res W).bind boolOf) = bVal (eChain h h' f1 f2 f3) s m := by
      unfold bVal eChain
      cases f1 s m with
      | ok a m1 =>
        simp only [bind_ok]
        cases f2 s m1 with
        | ok b m2 =>
          simp only [bind_ok]
          cases h a b m2 <;> rfl
        | _ => rfl
      | _ => rfl
    rw [e]
    exact hp
  refine T.run hs hm hp' fun c1 H1 w1 m1 v1 e1 hs1 hm1 r1 hp1 => T.run hs1 hm1 hp1 fun c2 H2 w2 m2 v2 e2 hs2 hm2 r2 hp2 => ?_
  rcases hq w1 w2 m2 with z | ⟨k, z⟩
  · rw [z] at hp2; exact hp2.elim
  · rw [z] at hp2
    refine hg U σ c2 H2 m2 v1 v2 w1 w2 _ hm2 (r1.mono e2) r2 ?_
    rw [z]
    intro c3 H3 e3 hm3 v rv
    cases rv with | p rv =>
    cases rv
    refine ⟨k, rfl, ?_⟩
    have hp3 := hp2.ext e3
    cases k with
    | true =>
      rw [if_pos rfl]
      have hp4 : Post X.K U σ c3 H3 (fun c' H' b _ => Q b H') ((f3 s m2).bind fun d m4 => (h' w2 d m4).bind boolOf) := by
        have e : ((f3 s m2).bind fun d m4 => (h' w2 d m4).bind boolOf) = ((f3 s m2).bind fun d m4 => h' w2 d m4).bind boolOf := by cases f3 s m2 <;> rfl
        rw [e]
        exact hp3
      refine T.run (hs2.mono e3) hm3 hp4 fun c4 H4 w4 m4 v4 e4 hs4 hm4 r4 hp5 => hg' U σ c4 H4 m4 v2 v4 w2 w4 _ hm4 ((r2.mono e3).mono e4) r4 ?_
      cases e : h' w2 w4 m4 with
      | stuck => rw [e] at hp5; exact hp5
      | exc x m' => rw [e] at hp5; exact hp5
      | ok y m5 =>
        rw [e] at hp5
        intro c5 H5 e5 hm5 v rv
        simp only [bind_ok, boolOf] at hp5
        split at hp5
        · cases rv with | p rv =>
          cases rv
          exact ⟨_, rfl, (hp5.ext e5).ok hm5⟩
        · exact hp5.elim
    | false =>
      rw [if_neg Bool.false_ne_true]
      exact ⟨false, rfl, hp3.ok hm3⟩
/-! ### not, and, or -/
def bNot (g : EX Bool) : EX Bool := fun s m => (g s m).bind fun b m1 => .ok (!b) m1
def bAnd (g1 g2 : EX Bool) : EX Bool := fun s m => (g1 s m).bind fun b m1 => if b = true then g2 s m1 else .ok false m1
def bOr (g1 g2 : EX Bool) : EX Bool := fun s m => (g1 s m).bind fun b m1 => if b = true then .ok true m1 else g2 s m1
theorem b_not (ha : PT X a (TB X.K U g)) : PT X (.UnaryOp .Not a pos) (TB X.K U (bNot g)) := by
  refine impT (pt_not ha) ?_
  rintro σ H Q ⟨c, s, m, hs, hm, hp⟩
  exact TB.run hs hm hp fun c1 H1 b m1 e1 hs1 hm1 hp1 => hp1.ok hm1
theorem impW {e : Expr} {t t' : TT} (h : PW X e t) (i : ∀ σ H Q, t' σ H Q → t σ H Q) : PW X e t' := ⟨fun wh pins s σ H Q I hw => h.run wh pins s σ H Q I (i σ H Q hw)⟩
theorem b_and1 (ha : PT X a (TB X.K U g)) : PW X (.BoolOp .And [a] pos) (TB X.K U g) := pw_and1 ha
theorem b_or1 (ha : PT X a (TB X.K U g)) : PW X (.BoolOp .Or [a] pos) (TB X.K U g) := pw_or1 ha
theorem b_and (ha : PT X a (TB X.K U g1)) (hb : PW X (.BoolOp .And (b :: rest) pos) (TB X.K U g2)) : PW X (.BoolOp .And (a :: b :: rest) pos) (TB X.K U (bAnd g1 g2)) := by
  refine impW (pw_and ha hb) ?_
  rintro σ H Q ⟨c, s, m, hs, hm, hp⟩
  refine TB.run hs hm hp fun c1 H1 b m1 e1 hs1 hm1 hp1 => ?_
  cases b with
  | true => exact ⟨c1, s, m1, hs1, hm1, hp1⟩
  | false => exact hp1.ok hm1
theorem b_or (ha : PT X a (TB X.K U g1)) (hb : PW X (.BoolOp .Or (b :: rest) pos) (TB X.K U g2)) : PW X (.BoolOp .Or (a :: b :: rest) pos) (TB X.K U (bOr g1 g2)) := by
  refine impW (pw_or ha hb) ?_
  rintro σ H Q ⟨c, s, m, hs, hm, hp⟩
  refine TB.run hs hm hp fun c1 H1 b m1 e1 hs1 hm1 hp1 => ?_
  cases b with
  | true => exact hp1.ok hm1
  | false => exact ⟨c1, s, m1, hs1, hm1, hp1⟩
/-! the same as values; all but the last give bools -/
def eNot (f : EX W) : EX W := fun s m => (f s m).bind fun w m1 => match w with
  | .p (.bool b) => .ok (.p (.bool (!b))) m1
  | _ => .stuck
def eAnd (f1 f2 : EX W) : EX W := fun s m => (f1 s m).bind fun w m1 => match w with
  | .p (.bool true) => f2 s m1
  | .p (.bool false) => .ok (.p (.bool false)) m1
  | _ => .stuck
def eOr (f1 f2 : EX W) : EX W := fun s m => (f1 s m).bind fun w m1 => match w with
  | .p (.bool true) => .ok (.p (.bool true)) m1
  | .p (.bool false) => f2 s m1
  | _ => .stuck
theorem x_one {op : BoolOp} (ha : PE X a (T X.K U f)) : PE X (.BoolOp op [a] pos) (T X.K U f) := pe_one ha
theorem x_not (ha : PE X a (T X.K U f)) : PE X (.UnaryOp .Not a pos) (T X.K U (eNot f)) := by
  refine imp (pe_not ha) ?_
  rintro σ H Q ⟨c, s, m, hs, hm, hp⟩
  refine T.run hs hm hp fun c1 H1 w1 m1 v1 e1 hs1 hm1 r1 hp1 => ?_
  split at hp1
  · cases r1 with | p r1 =>
    cases r1
    exact ⟨_, rfl, hp1.ok hm1 _ (.p (.bl _))⟩
  · exact hp1.elim
theorem x_and (ha : PE X a (T X.K U f1)) (hb : PE X (.BoolOp .And (b :: rest) pos) (T X.K U f2)) : PE X (.BoolOp .And (a :: b :: rest) pos) (T X.K U (eAnd f1 f2)) := by
  refine imp (pe_and ha hb) ?_
  rintro σ H Q ⟨c, s, m, hs, hm, hp⟩
  refine T.run hs hm hp fun c1 H1 w1 m1 v1 e1 hs1 hm1 r1 hp1 => ?_
  split at hp1
  · cases r1 with | p r1 =>
    cases r1
    exact ⟨true, rfl, by rw [if_pos rfl]; exact ⟨c1, s, m1, hs1, hm1, hp1⟩⟩
  · cases r1 with | p r1 =>
    cases r1
    exact ⟨false, rfl, by rw [if_neg Bool.false_ne_true]; exact hp1.ok hm1 _ (.p (.bl _))⟩
  · exact hp1.elim
theorem x_or (ha : PE X a (T X.K U f1)) (hb : PE X (.BoolOp .Or (b :: rest) pos) (T X.K U f2)) : PE X (.BoolOp .Or (a :: b :: rest) pos) (T X.K U (eOr f1 f2)) := by
  refine imp (pe_or ha hb) ?_
  rintro σ H Q ⟨c, s, m, hs, hm, hp⟩
  refine T.run hs hm hp fun c1 H1 w1 m1 v1 e1 hs1 hm1 r1 hp1 => ?_
  split at hp1
  · cases r1 with | p r1 =>
    cases r1
    exact ⟨true, rfl, by rw [if_pos rfl]; exact hp1.ok hm1 _ (.p (.bl _))⟩
  · cases r1 with | p r1 =>
    cases r1
    exact ⟨false, rfl, by rw [if_neg Bool.false_ne_true]; exact ⟨c1, s, m1, hs1, hm1, hp1⟩⟩
  · exact hp1.elim
def eIf (g : EX Bool) (f1 f2 : EX W) : EX W := fun s m => (g s m).bind fun b m1 => if b = true then f1 s m1 else f2 s m1
theorem x_if {t : Expr} (ht : PT X t (TB X.K U g)) (ha : PE X a (T X.K U f1)) (hb : PE X b (T X.K U f2)) : PE X (.IfExp t a b pos) (T X.K U (eIf g f1 f2)) := by
  refine imp (pe_ifExp ht ha hb) ?_
  rintro σ H Q ⟨c, s, m, hs, hm, hp⟩
  refine TB.run hs hm hp fun c1 H1 b m1 e1 hs1 hm1 hp1 => ?_
  cases b with
  | true => exact ⟨c1, s, m1, hs1, hm1, hp1⟩
  | false => exact ⟨c1, s, m1, hs1, hm1, hp1⟩
end

/-! ### argument lists, displays -/
def aNil : EX (List W) := fun _ m => .ok [] m
def aCons (f : EX W) (r : EX (List W)) : EX (List W) := fun s m => (f s m).bind fun w m1 => (r s m1).bind fun ws m2 => .ok (w :: ws) m2
section
variable {X : Cx} {U : WX} {pos : Pos} {e : Expr} {es : List Expr} {f : EX W} {fs : EX (List W)}
theorem a_nil : PA X [] (TL X.K U aNil) := by
  refine impA pa_nil ?_
  rintro σ H Q ⟨c, s, m, hs, hm, hp⟩
  exact hp.ok hm [] .nil
theorem a_cons (ha : PE X e (T X.K U f)) (hr : PA X es (TL X.K U fs)) (hs : starEach (e :: es) X.env = (false, eval e X.env) :: starEach es X.env := by rfl) : PA X (e :: es) (TL X.K U (aCons f fs)) := by
  refine impA (pa_cons ha hr hs) ?_
  rintro σ H Q ⟨c, s, m, hs, hm, hp⟩
  exact T.run hs hm hp fun c1 H1 w1 m1 v1 e1 hs1 hm1 r1 hp1 => TL.run hs1 hm1 hp1 fun c2 H2 ws m2 vs e2 hs2 hm2 r2 hp2 => hp2.ok hm2 _ (.cons (r1.mono e2) r2)
def eTup (fs : EX (List W)) : EX W := fun s m => (fs s m).bind fun ws m1 => if ws.length ≤ sizeLine then .ok (mkTup ws) m1 else .stuck
/-- a written list that nobody changes -/
def eLst (fs : EX (List W)) : EX W := fun s m => (fs s m).bind fun ws m1 => if ws.length ≤ sizeLine then (match allP ws with
  | some ds => .ok (.p (.list ds)) m1
  | none => .stuck) else .stuck
/-- a written list, a cell -/
def eLstL (fs : EX (List W)) : EX W := fun s m => (fs s m).bind fun ws m1 => if ws.length ≤ sizeLine then .ok (.loc m1.length) (m1 ++ [.lst ws]) else .stuck
end
section
variable {K : PySem.W.Frag} {c : Cfg} {H : Hp} {m : Hm}
theorem RpW.newT {p : Addr} {xs : List V} {ws : List W} (hm : HRel K c m H) (hp : H p = none) (z : xs.length ≤ sizeLine) (r : RpWs K c H xs ws) : RpW K c (upd H p (.tup xs)) (.ref p) (mkTup ws) := by
  unfold mkTup
  split
  · rename_i ds e
    exact .p (Rp.newT hm hp z (allP_rp r e))
  · exact .tw (.inl ⟨.inl upd_same, (hm.free hp).1, (hm.free hp).2⟩) z (r.mono (Ext.new hp))
theorem RpW.newC {p : Addr} {xs : List V} {ws : List W} (hm : HRel K c m H) (hp : H p = none) (z : xs.length ≤ sizeLine) (r : RpWs K c H xs ws) :
    HRel K ⟨c.fb, c.rho ++ [p]⟩ (m ++ [.lst ws]) (upd H p (.lst xs)) ∧ RpW K ⟨c.fb, c.rho ++ [p]⟩ (upd H p (.lst xs)) (.ref p) (.loc m.length) :=
  ⟨hm.cell hp ⟨xs, upd_same, z, r.mono (Ext.cell hp)⟩, .loc (by rw [← hm.len]; simp)⟩
end
section
variable {X : Cx} {U : WX} {pos : Pos} {e : Expr} {es : List Expr} {f : EX W} {fs : EX (List W)}
theorem x_tup {k : Nat} (h : PA X es (TL X.K U fs)) : PE X (.Tuple es k pos) (T X.K U (eTup fs)) := by
  refine imp (pe_tup h) ?_
  rintro σ H Q ⟨c, s, m, hs, hm, hp⟩
  refine TL.run hs hm hp fun c1 H1 ws m1 vs e1 hs1 hm1 r1 hp1 => ?_
  have l := r1.length
  split at hp1
  · rename_i hz
    refine ⟨by omega, fun p hpn => ?_⟩
    exact hp1 c1 _ (Ext.new hpn) (hm1.new hpn) _ (RpW.newT hm1 hpn (by omega) r1)
  · exact hp1.elim
theorem x_lst (h : PA X es (TL X.K U fs)) : PE X (.List es pos) (T X.K U (eLst fs)) := by
  refine imp (pe_lst h) ?_
  rintro σ H Q ⟨c, s, m, hs, hm, hp⟩
  refine TL.run hs hm hp fun c1 H1 ws m1 vs e1 hs1 hm1 r1 hp1 => ?_
  have l := r1.length
  split at hp1
  · rename_i hz
    refine ⟨by omega, fun p hpn => ?_⟩
    split at hp1
    · rename_i ds e
      exact hp1 c1 _ (Ext.new hpn) (hm1.new hpn) _ (.p (Rp.newL hm1 hpn (by omega) (allP_rp r1 e)))
    · exact hp1.elim
  · exact hp1.elim
theorem x_lstL (h : PA X es (TL X.K U fs)) : PE X (.List es pos) (T X.K U (eLstL fs)) := by
  refine imp (pe_lst h) ?_
  rintro σ H Q ⟨c, s, m, hs, hm, hp⟩
  refine TL.run hs hm hp fun c1 H1 ws m1 vs e1 hs1 hm1 r1 hp1 => ?_
  have l := r1.length
  split at hp1
  · rename_i hz
    refine ⟨by omega, fun p hpn => ?_⟩
    obtain ⟨q1, q2⟩ := RpW.newC hm1 hpn (by omega) r1
    exact hp1 _ _ (Ext.cell hpn) q1 _ q2
  · exact hp1.elim
end

/-! ### built-in functions by their values -/
def CallM (K : PySem.W.Frag) (r : List V → Hp → VK → Prop) (g : List W → Hm → Res W) : Prop := ∀ (U : WX) (σ : L2.St) (c : Cfg) (H : Hp) (m : Hm) (vs : List V) (ws : List W) (Q : VK),
  HRel K c m H → RpWs K c H vs ws → Post K U σ c H (RQ K Q) (g ws m) → r vs H Q
def eCB (g : List W → Hm → Res W) (fs : EX (List W)) : EX W := fun s m => (fs s m).bind g
section
variable {X : Cx} {U : WX} {x : Str} {p pos : Pos} {e : Expr} {es : List Expr} {fs : EX (List W)} {id T' : String} {r : List V → Hp → VK → Prop} {g : List W → Hm → Res W}
theorem t_cb (hg : CallM X.K r g) {σ : L2.St} {H : Hp} {Q : VK} (h : T X.K U (eCB g fs) σ H Q) : tCB r (TL X.K U fs) σ H Q := by
  obtain ⟨c, s, m, hs, hm, hp⟩ := h
  exact TL.run hs hm hp fun c1 H1 ws m1 vs e1 hs1 hm1 r1 hp1 => hg U σ c1 H1 m1 vs ws Q hm1 r1 hp1
theorem x_callB (hc : CallR X (.builtin id) r) (hg : CallM X.K r g) (hmg : X.mg x = none) (hv : bootBuiltins x = some (.builtin id)) (ha : PA X (e :: es) (TL X.K U fs)) (hgl : Gl X x := by rfl) (hn : x ≠ "__name__" := by decide) (hdb : (x == ("__debug__" : Str)) = false := by decide)
    (he : starEach (e :: es) X.env = (false, eval e X.env) :: starEach es X.env := by rfl) (hpl : (backTo pos (starEach es X.env)).any (·.1) = false := by rfl) : PE X (.Call (.Name x p) (e :: es) [] pos) (T X.K U (eCB g fs)) :=
  imp (pe_callB hc hgl hmg hv ha hn hdb he hpl) fun _ _ _ h => t_cb hg h
theorem x_callTy (hc : CallR X (.type T') r) (hg : CallM X.K r g) (hmg : X.mg x = none) (hv : bootBuiltins x = some (.type T')) (ha : PA X (e :: es) (TL X.K U fs)) (hgl : Gl X x := by rfl) (hn : x ≠ "__name__" := by decide) (hdb : (x == ("__debug__" : Str)) = false := by decide)
    (he : starEach (e :: es) X.env = (false, eval e X.env) :: starEach es X.env := by rfl) (hpl : (backTo pos (starEach es X.env)).any (·.1) = false := by rfl) : PE X (.Call (.Name x p) (e :: es) [] pos) (T X.K U (eCB g fs)) :=
  imp (pe_callTy hc hgl hmg hv ha hn hdb he hpl) fun _ _ _ h => t_cb hg h
end
section
variable {K : PySem.W.Frag} {c : Cfg} {H : Hp} {m : Hm}
theorem RpWs.oneI {vs : List V} {w : W} (r : RpWs K c H vs [w]) : ∃ v, vs = [v] ∧ RpW K c H v w := by
  cases r with | cons r t => cases t; exact ⟨_, rfl, r⟩
theorem RpWs.twoI {vs : List V} {w w' : W} (r : RpWs K c H vs [w, w']) : ∃ v v', vs = [v, v'] ∧ RpW K c H v w ∧ RpW K c H v' w' := by
  cases r with | cons r t => cases t with | cons r' t => cases t; exact ⟨_, _, rfl, r, r'⟩
/-- the items of a list or tuple, read -/
def seqW (m : Hm) : W → Option (List W)
  | .p (.list ds) => some (ds.map .p)
  | .p (.tuple ds) => some (ds.map .p)
  | .ro ds => some (ds.map .p)
  | .tw ws => some ws
  | .loc n => match m[n]? with
    | some (.lst ws) => some ws
    | _ => none
  | _ => none
theorem seqW_ok {v : V} {w : W} {ws : List W} (hm : HRel K c m H) (r : RpW K c H v w) (e : seqW m w = some ws) : ∃ a xs, v = .ref a ∧ (SqL K H a xs ∨ SqT K H a xs) ∧ xs.length ≤ sizeLine ∧ RpWs K c H xs ws := by
  cases r with
  | p r =>
    cases r with
    | lst h n n2 z r => cases e; exact ⟨_, _, rfl, .inl (SqL.of h), z, r.toWs⟩
    | tup h z r => cases e; exact ⟨_, _, rfl, .inr h.sq, z, r.toWs⟩
    | _ => cases e
  | ro h z r => cases e; exact ⟨_, _, rfl, .inl h.sq, z, r.toWs⟩
  | @loc a n h =>
    simp only [seqW] at e
    cases q : m[n]? with
    | none => rw [q] at e; cases e
    | some x =>
      rw [q] at e
      cases x with
      | lst ws =>
        cases e
        obtain ⟨b, hb, xs, hx, z, rr⟩ := hm.at_ n _ q
        rw [h] at hb; cases hb
        exact ⟨_, _, rfl, .inl (SqL.of hx), z, rr⟩
      | _ => cases e
  | tw h z r => cases e; exact ⟨_, _, rfl, .inr h.sq, z, r⟩
  | kt => cases e
end
def lenM : List W → Hm → Res W
  | [.p (.str x)], m => if x.length ≤ sizeLine then .ok (.p (.int x.length)) m else .stuck
  | [w], m => match seqW m w with
    | some ws => .ok (.p (.int ws.length)) m
    | none => .stuck
  | _, _ => .stuck
theorem lenM_ok {K : PySem.W.Frag} : CallM K (fun xs H Q => ∃ x n, xs = [x] ∧ LenV K x H n ∧ Q (.int n) H) lenM := by
  intro U σ c H m vs ws Q hm r hp
  unfold lenM at hp
  split at hp
  · obtain ⟨v, rfl, r1⟩ := r.oneI
    have r := r1
    cases r with | p r =>
    cases r
    split at hp
    · rename_i hz
      exact ⟨_, _, rfl, ⟨hz, rfl⟩, hp.ok hm _ (.p (.int _))⟩
    · exact hp.elim
  · obtain ⟨v, rfl, r1⟩ := r.oneI
    have r := r1
    split at hp
    · rename_i ws' e
      obtain ⟨a, xs, rfl, h, z, q⟩ := seqW_ok hm r e
      have l := q.length
      refine ⟨_, xs.length, rfl, ?_, by rw [l]; exact hp.ok hm _ (.p (.int _))⟩
      rcases h with h | h
      · exact .inl ⟨xs, h, rfl⟩
      · exact .inr ⟨xs, h, rfl⟩
    · exact hp.elim
  · exact hp.elim
/-- bools of data -/
def boolsOf : List W → Option (List Bool)
  | [] => some []
  | .p (.bool b) :: r => (boolsOf r).map (b :: ·)
  | _ :: _ => none
@[simp] theorem boolsOf_nil : boolsOf [] = some [] := rfl
@[simp] theorem boolsOf_cons (b : Bool) (r : List W) : boolsOf (.p (.bool b) :: r) = (boolsOf r).map (b :: ·) := rfl
@[simp] theorem boolsOf_map (bs : List Bool) : boolsOf ((bs.map PyData.bool).map W.p) = some bs := by
  induction bs with
  | nil => rfl
  | cons n r ih => rw [List.map_cons, List.map_cons, boolsOf_cons, ih]; rfl
theorem RpWs.bools {K : PySem.W.Frag} {c : Cfg} {H : Hp} : ∀ {xs : List V} {ws : List W} {bs : List Bool}, RpWs K c H xs ws → boolsOf ws = some bs → xs = bs.map V.bl
  | _, [], _, h, e => by cases h; cases e; rfl
  | _, w :: ws, bs, h, e => by
    cases h with
    | cons r t =>
      cases w with
      | p d =>
        cases d with
        | bool b =>
          obtain ⟨bs', e', rfl⟩ := Option.map_eq_some_iff.mp (show (boolsOf ws).map (b :: ·) = some bs from e)
          cases r with | p r =>
          cases r
          rw [RpWs.bools t e']
          rfl
        | _ => cases e
      | _ => cases e
def isL (w : W) : Bool := match w with
  | .p (.list _) => true
  | .loc _ => true
  | .ro _ => true
  | _ => false
theorem seqW_list {K : PySem.W.Frag} {c : Cfg} {H : Hp} {m : Hm} {v : V} {w : W} {ws : List W} (hm : HRel K c m H) (r : RpW K c H v w) (e : seqW m w = some ws) (hl : isL w = true) : ∃ a xs, v = .ref a ∧ SqL K H a xs ∧ xs.length ≤ sizeLine ∧ RpWs K c H xs ws := by
  cases r with
  | p r =>
    cases r with
    | lst h n n2 z r => cases e; exact ⟨_, _, rfl, SqL.of h, z, r.toWs⟩
    | tup h z r => cases hl
    | _ => cases e
  | ro h z r => cases e; exact ⟨_, _, rfl, h.sq, z, r.toWs⟩
  | @loc a n h =>
    simp only [seqW] at e
    cases q : m[n]? with
    | none => rw [q] at e; cases e
    | some x =>
      rw [q] at e
      cases x with
      | lst ws =>
        cases e
        obtain ⟨b, hb, xs, hx, z, rr⟩ := hm.at_ n _ q
        rw [h] at hb; cases hb
        exact ⟨_, _, rfl, SqL.of hx, z, rr⟩
      | _ => cases e
  | tw h z r => cases hl
  | kt => cases e
/-- all, any of a list of bools -/
def allM (k : Bool) : List W → Hm → Res W
  | [w], m => if isL w = true then (match (seqW m w).bind boolsOf with
    | some bs => .ok (.p (.bool (if k = true then bs.all id else bs.any id))) m
    | none => .stuck) else .stuck
  | _, _ => .stuck
theorem allM_ok {K : PySem.W.Frag} : CallM K (rAll K) (allM true) := by
  intro U σ c H m vs ws Q hm r hp
  unfold allM at hp
  split at hp
  · obtain ⟨v, rfl, r1⟩ := r.oneI
    have r := r1
    split at hp
    · rename_i hl
      split at hp
      · rename_i bs e
        obtain ⟨ws', e1, e2⟩ := Option.bind_eq_some_iff.mp e
        obtain ⟨a, xs, rfl, h, z, q⟩ := seqW_list hm r e1 hl
        have := q.bools e2
        subst this
        exact ⟨a, bs, rfl, h, hp.ok hm _ (.p (.bl _))⟩
      · exact hp.elim
    · exact hp.elim
  · exact hp.elim
theorem anyM_ok {K : PySem.W.Frag} : CallM K (rAny K) (allM false) := by
  intro U σ c H m vs ws Q hm r hp
  unfold allM at hp
  split at hp
  · obtain ⟨v, rfl, r1⟩ := r.oneI
    have r := r1
    split at hp
    · rename_i hl
      split at hp
      · rename_i bs e
        obtain ⟨ws', e1, e2⟩ := Option.bind_eq_some_iff.mp e
        obtain ⟨a, xs, rfl, h, z, q⟩ := seqW_list hm r e1 hl
        have := q.bools e2
        subst this
        exact ⟨a, bs, rfl, h, hp.ok hm _ (.p (.bl _))⟩
      · exact hp.elim
    · exact hp.elim
  · exact hp.elim
/-- abs, int -/
def absM : List W → Hm → Res W
  | [.p (.int i)], m => .ok (.p (.int (if i < 0 then -i else i))) m
  | _, _ => .stuck
theorem absM_ok {K : PySem.W.Frag} : CallM K (fun xs H Q => ∃ i, xs = [.int i] ∧ Q (.int (if i < 0 then -i else i)) H) absM := by
  intro U σ c H m vs ws Q hm r hp
  unfold absM at hp
  split at hp
  · obtain ⟨v, rfl, r1⟩ := r.oneI
    have r := r1
    cases r with | p r =>
    cases r
    exact ⟨_, rfl, hp.ok hm _ (.p (.int _))⟩
  · exact hp.elim
def intM1 : List W → Hm → Res W
  | [.p (.int i)], m => .ok (.p (.int i)) m
  | [.p (.bool k)], m => .ok (.p (.int (if k = true then 1 else 0))) m
  | _, _ => .stuck
theorem intM1_ok {K : PySem.W.Frag} : CallM K (fun xs H Q => (∃ i, xs = [.int i] ∧ Q (.int i) H) ∨ ∃ k, xs = [.bl k] ∧ Q (.int (if k = true then 1 else 0)) H) intM1 := by
  intro U σ c H m vs ws Q hm r hp
  unfold intM1 at hp
  split at hp
  · obtain ⟨v, rfl, r1⟩ := r.oneI
    have r := r1
    cases r with | p r =>
    cases r
    exact .inl ⟨_, rfl, hp.ok hm _ (.p (.int _))⟩
  · obtain ⟨v, rfl, r1⟩ := r.oneI
    have r := r1
    cases r with | p r =>
    cases r
    exact .inr ⟨_, rfl, hp.ok hm _ (.p (.int _))⟩
  · exact hp.elim
/-- list(x): a list that nobody changes; a cell -/
def listM : List W → Hm → Res W
  | [w], m => match (seqW m w).bind allP with
    | some ds => .ok (.p (.list ds)) m
    | none => .stuck
  | _, _ => .stuck
def listML : List W → Hm → Res W
  | [w], m => match seqW m w with
    | some ws => .ok (.loc m.length) (m ++ [.lst ws])
    | none => .stuck
  | _, _ => .stuck
abbrev rListOf (K : PySem.W.Frag) : List V → Hp → VK → Prop := fun xs H Q => ∃ p ys, xs = [.ref p] ∧ (SqL K H p ys ∨ SqT K H p ys) ∧ ∀ l, H l = none → Q (.ref l) (upd H l (.lst ys))
theorem listM_ok {K : PySem.W.Frag} : CallM K (rListOf K) listM := by
  intro U σ c H m vs ws Q hm r hp
  unfold listM at hp
  split at hp
  · obtain ⟨v, rfl, r1⟩ := r.oneI
    have r := r1
    split at hp
    · rename_i ds e
      obtain ⟨ws', e1, e2⟩ := Option.bind_eq_some_iff.mp e
      obtain ⟨a, xs, rfl, h, z, q⟩ := seqW_ok hm r e1
      exact ⟨a, xs, rfl, h, fun l hl => hp c _ (Ext.new hl) (hm.new hl) _ (.p (Rp.newL hm hl z (allP_rp q e2)))⟩
    · exact hp.elim
  · exact hp.elim
theorem listML_ok {K : PySem.W.Frag} : CallM K (rListOf K) listML := by
  intro U σ c H m vs ws Q hm r hp
  unfold listML at hp
  split at hp
  · obtain ⟨v, rfl, r1⟩ := r.oneI
    have r := r1
    split at hp
    · rename_i ws' e1
      obtain ⟨a, xs, rfl, h, z, q⟩ := seqW_ok hm r e1
      refine ⟨a, xs, rfl, h, fun l hl => ?_⟩
      obtain ⟨q1, q2⟩ := RpW.newC hm hl z q
      exact hp _ _ (Ext.cell hl) q1 _ q2
    · exact hp.elim
  · exact hp.elim
/-- tuple(x) -/
def tupleM : List W → Hm → Res W
  | [w], m => match seqW m w with
    | some ws => .ok (mkTup ws) m
    | none => .stuck
  | _, _ => .stuck
abbrev rTupleOf (K : PySem.W.Frag) : List V → Hp → VK → Prop := fun xs H Q => ∃ p ys, xs = [.ref p] ∧ ((SqL K H p ys ∧ ∀ l, H l = none → Q (.ref l) (upd H l (.tup ys))) ∨ (SqT K H p ys ∧ Q (.ref p) H))
theorem RpW.tupE {K : PySem.W.Frag} {c : Cfg} {H : Hp} {m : Hm} {v : V} {w : W} {ws : List W} (r : RpW K c H v w) (e : seqW m w = some ws) (hl : isL w = false) : ∃ a xs, v = .ref a ∧ SqT K H a xs ∧ RpW K c H v (mkTup ws) := by
  cases r with
  | p r =>
    cases r with
    | lst h n n2 z r => cases hl
    | tup h z r => cases e; exact ⟨_, _, rfl, h.sq, by rw [mkTup_map]; exact .p (.tup h z r)⟩
    | _ => cases e
  | ro h z r => cases hl
  | loc h => cases hl
  | tw h z r =>
    cases e
    refine ⟨_, _, rfl, h.sq, ?_⟩
    unfold mkTup
    split
    · rename_i ds e
      exact .p (.tup h z (allP_rp r e))
    · exact .tw h z r
  | kt => cases e
theorem tupleM_ok {K : PySem.W.Frag} : CallM K (rTupleOf K) tupleM := by
  intro U σ c H m vs ws Q hm r hp
  unfold tupleM at hp
  split at hp
  · obtain ⟨v, rfl, r1⟩ := r.oneI
    have r := r1
    split at hp
    · rename_i ws' e1
      cases hl : isL _ with
      | true =>
        obtain ⟨a, xs, rfl, h, z, q⟩ := seqW_list hm r e1 hl
        exact ⟨a, xs, rfl, .inl ⟨h, fun l hl => hp c _ (Ext.new hl) (hm.new hl) _ (RpW.newT hm hl z q)⟩⟩
      | false =>
        obtain ⟨a, xs, rfl, h, q⟩ := r.tupE e1 hl
        exact ⟨a, xs, rfl, .inr ⟨h, hp.ok hm _ q⟩⟩
    · exact hp.elim
  · exact hp.elim

/-! ### isinstance -/
def tyN (m : Hm) : W → Option String
  | .p .none => some "NoneType"
  | .p (.bool _) => some "bool"
  | .p (.int _) => some "int"
  | .p (.str _) => some "str"
  | .p (.list _) => some "list"
  | .p (.tuple _) => some "tuple"
  | .tw _ => some "tuple"
  | .loc n => match m[n]? with
    | some (.lst _) => some "list"
    | _ => none
  | _ => none
theorem tyN_ok {K : PySem.W.Frag} {c : Cfg} {H : Hp} {m : Hm} {v : V} {w : W} {t : String} (hm : HRel K c m H) (r : RpW K c H v w) (e : tyN m w = some t) : TyX K H v (.type t) := by
  have tup : ∀ {a : Addr} {xs : List V}, TupAt K c H a xs → TyX K H (.ref a) (.type "tuple") := fun {a xs} h => by
    rcases h with ⟨h | ⟨o, h⟩, _⟩ | ⟨o, its, n, h, hc, _⟩
    · exact .base (.tup h)
    · exact .fTuple h
    · exact .kTuple h hc
  cases r with
  | p r =>
    cases r with
    | non => cases e; exact .base .non
    | bl b => cases e; exact .base (.bl b)
    | int i => cases e; exact .base (.int i)
    | str x => cases e; exact .base (.str x)
    | lst h => cases e; exact .base (.lst h)
    | tup h => cases e; exact tup h
  | ro => cases e
  | @loc a n h =>
    simp only [tyN] at e
    cases q : m[n]? with
    | none => rw [q] at e; cases e
    | some x =>
      rw [q] at e
      cases x with
      | lst ws =>
        cases e
        obtain ⟨b, hb, xs, hx, z, rr⟩ := hm.at_ n _ q
        rw [h] at hb; cases hb
        exact .base (.lst hx)
      | _ => cases e
  | tw h => cases e; exact tup h
  | kt => cases e
/-- isinstance(x, C), C one of int, bool, str, tuple, list -/
def isiA (t C : String) : Bool := (t == C) || ((t == "bool") && (C == "int"))
def isiM (C : String) : W → Hm → Res W := fun w m => match tyN m w with
  | some t => .ok (.p (.bool (isiA t C))) m
  | none => .stuck
theorem kit_isi {K : PySem.W.Frag} {t C : String} (ht : t ∈ ["NoneType", "bool", "int", "str", "list", "tuple"]) (hC : C ∈ ["bool", "int", "str", "list", "tuple"]) : PySem.W.kitOne K (.type t) (.type C) = some (isiA t C) := by
  simp only [List.mem_cons, List.not_mem_nil, or_false] at ht hC
  rcases ht with rfl | rfl | rfl | rfl | rfl | rfl <;> rcases hC with rfl | rfl | rfl | rfl | rfl <;> exact kit_ty (by decide +kernel)
theorem tyN_mem {m : Hm} {w : W} {t : String} (e : tyN m w = some t) : t ∈ ["NoneType", "bool", "int", "str", "list", "tuple"] := by
  unfold tyN at e
  split at e <;> first | (cases e; simp; done) | skip
  · split at e
    · cases e; simp
    · cases e
  · cases e
theorem x_isi {X : Cx} {U : WX} {p p2 pos : Pos} {e : Expr} {f : EX W} {C : Str} {C' : String} (hC : C' ∈ ["bool", "int", "str", "list", "tuple"]) (hmi : X.mg "isinstance" = none) (hmC : X.mg C = none) (hv : bootBuiltins C = some (.type C')) (he : PE X e (T X.K U f))
    (hgi : Gl X "isinstance" := by rfl) (hgC : Gl X C := by rfl) (hn : C ≠ "__name__" := by decide) (hdb : (C == ("__debug__" : Str)) = false := by decide)
    (h1 : starEach (e :: [.Name C p2]) X.env = (false, eval e X.env) :: starEach [.Name C p2] X.env := by rfl) (h2 : starEach [.Name C p2] X.env = (false, eval (.Name C p2) X.env) :: starEach [] X.env := by rfl) (hpl : (backTo pos (starEach [.Name C p2] X.env)).any (·.1) = false := by rfl) :
    PE X (.Call (.Name "isinstance" p) [e, .Name C p2] [] pos) (T X.K U (eOp1 (isiM C') f)) := by
  refine imp (pe_callB call_isi hgi hmi (by decide +kernel) (pa_cons he (pa_cons (pe_bltn (v := .ty C') hgC hmC hv rfl hn hdb) pa_nil h2) h1) (by decide) (by decide) h1 hpl) ?_
  rintro σ H Q ⟨c, s, m, hs, hm, hp⟩
  refine T.run hs hm hp fun c1 H1 w1 m1 v1 e1 hs1 hm1 r1 hp1 => ?_
  unfold isiM at hp1
  split at hp1
  · rename_i t e
    exact ⟨v1, .ty C', .type t, .type C', _, rfl, .ty C', tyN_ok hm1 r1 e, kit_isi (tyN_mem e) hC, hp1.ok hm1 _ (.p (.bl _))⟩
  · exact hp1.elim
end Mir

namespace Mir
open PySem PySem.Spec PyProof.Rows L2

/-! ### list(range(..)), tuple(range(..)) -/
def rgP (a b : Int) : List PyData := (List.range (b - a).toNat).map fun i => PyData.int (a + (i : Nat))
theorem rgP_rp {K : PySem.W.Frag} {c : Cfg} {H : Hp} (a b : Int) : RpAll K c H (rgV a b) (rgP a b) := by
  unfold rgV rgP
  generalize List.range (b - a).toNat = l
  induction l with
  | nil => exact .nil
  | cons i r ih => exact .cons (.int _) ih
def rgOk (a b : Int) : Bool := decide (0 ≤ a) && (decide (a ≤ 1000000) && (decide (0 ≤ b) && decide (b ≤ 1000000)))
theorem rgOk_of {a b : Int} (h : rgOk a b = true) : RgOk a b := by
  simp only [rgOk, Bool.and_eq_true, decide_eq_true_eq] at h
  exact RgOk.of_le (by omega) (by omega) (by omega) (by omega)
theorem rgV_len {a b : Int} (h : rgOk a b = true) : (rgV a b).length ≤ sizeLine := by
  have := (rgOk_of h).2.2.2.2
  rw [rgV_length]
  exact this
inductive RK where | l | c | t
def RK.o : RK → List V → HO
  | .t, xs => .tup xs
  | _, xs => .lst xs
def rgMk (k : RK) (a b : Int) (m : Hm) : Res W := if rgOk a b = true then (match k with
  | .l => .ok (.p (.list (rgP a b))) m
  | .c => .ok (.loc m.length) (m ++ [.lst ((rgP a b).map .p)])
  | .t => .ok (.p (.tuple (rgP a b))) m) else .stuck
def eRg1 (k : RK) (f : EX W) : EX W := fun s m => (f s m).bind fun w m1 => match w with
  | .p (.int n) => rgMk k 0 n m1
  | _ => .stuck
def eRg2 (k : RK) (f g : EX W) : EX W := fun s m => (f s m).bind fun w m1 => (g s m1).bind fun w' m2 => match w, w' with
  | .p (.int a), .p (.int b) => rgMk k a b m2
  | _, _ => .stuck
section
variable {X : Cx} {U : WX} {p p2 pos pos2 : Pos} {a b : Expr} {f g : EX W}
theorem rg_fin {K : PySem.W.Frag} {σ : L2.St} {c : Cfg} {H : Hp} {m : Hm} {Q : VK} {k : RK} {a b : Int} (hm : HRel K c m H) (hp : Post K U σ c H (RQ K Q) (rgMk k a b m)) :
    RgOk a b ∧ ∀ q, H q = none → Q (.ref q) (upd H q (k.o (rgV a b))) := by
  unfold rgMk at hp
  split at hp
  · rename_i h
    refine ⟨rgOk_of h, fun q hq => ?_⟩
    cases k with
    | l => exact hp c _ (Ext.new hq) (hm.new hq) _ (.p (Rp.newL hm hq (rgV_len h) (rgP_rp a b)))
    | t => exact hp c _ (Ext.new hq) (hm.new hq) _ (.p (Rp.newT hm hq (rgV_len h) (rgP_rp a b)))
    | c =>
      obtain ⟨q1, q2⟩ := RpW.newC hm hq (rgV_len h) (rgP_rp a b).toWs
      exact hp _ _ (Ext.cell hq) q1 _ q2
  · exact hp.elim
theorem x_rg1 (hc : X.calm = true) (hr : X.mg "range" = none) {k : RK} (ha : PE X a (T X.K U f)) (hgr : Gl X "range" := by rfl) (na : starEach [a] X.env = (false, eval a X.env) :: starEach [] X.env := by rfl) :
    ∀ {σ : L2.St} {H : Hp} {Q : VK}, T X.K U (eRg1 k f) σ H Q → tRg1 (T X.K U f) σ H fun a b H1 => RgOk a b ∧ ∀ q, H1 q = none → Q (.ref q) (upd H1 q (k.o (rgV a b))) := by
  rintro σ H Q ⟨c, s, m, hs, hm, hp⟩
  refine T.run hs hm hp fun c1 H1 w1 m1 v1 e1 hs1 hm1 r1 hp1 => ?_
  split at hp1
  · cases r1 with | p r1 =>
    cases r1
    exact ⟨_, rfl, rg_fin hm1 hp1⟩
  · exact hp1.elim
theorem x_listRg1 (hc : X.calm = true) (hl : X.mg "list" = none) (hr : X.mg "range" = none) (ha : PE X a (T X.K U f)) (hgl : Gl X "list" := by rfl) (hgr : Gl X "range" := by rfl) (na : starEach [a] X.env = (false, eval a X.env) :: starEach [] X.env := by rfl)
    (nb : starEach [.Call (.Name "range" p) [a] [] pos] X.env = (false, eval (.Call (.Name "range" p) [a] [] pos) X.env) :: starEach [] X.env := by rfl) :
    PE X (.Call (.Name "list" p2) [.Call (.Name "range" p) [a] [] pos] [] pos2) (T X.K U (eRg1 .l f)) :=
  imp (pe_listRg hc hgl hl (prg_1 hgr hr ha na) nb) fun _ _ _ h => x_rg1 hc hr (k := .l) ha hgr na h
theorem x_listRg1L (hc : X.calm = true) (hl : X.mg "list" = none) (hr : X.mg "range" = none) (ha : PE X a (T X.K U f)) (hgl : Gl X "list" := by rfl) (hgr : Gl X "range" := by rfl) (na : starEach [a] X.env = (false, eval a X.env) :: starEach [] X.env := by rfl)
    (nb : starEach [.Call (.Name "range" p) [a] [] pos] X.env = (false, eval (.Call (.Name "range" p) [a] [] pos) X.env) :: starEach [] X.env := by rfl) :
    PE X (.Call (.Name "list" p2) [.Call (.Name "range" p) [a] [] pos] [] pos2) (T X.K U (eRg1 .c f)) :=
  imp (pe_listRg hc hgl hl (prg_1 hgr hr ha na) nb) fun _ _ _ h => x_rg1 hc hr (k := .c) ha hgr na h
theorem x_tupRg1 (hc : X.calm = true) (hl : X.mg "tuple" = none) (hr : X.mg "range" = none) (ha : PE X a (T X.K U f)) (hgl : Gl X "tuple" := by rfl) (hgr : Gl X "range" := by rfl) (na : starEach [a] X.env = (false, eval a X.env) :: starEach [] X.env := by rfl)
    (nb : starEach [.Call (.Name "range" p) [a] [] pos] X.env = (false, eval (.Call (.Name "range" p) [a] [] pos) X.env) :: starEach [] X.env := by rfl) :
    PE X (.Call (.Name "tuple" p2) [.Call (.Name "range" p) [a] [] pos] [] pos2) (T X.K U (eRg1 .t f)) :=
  imp (pe_tupRg hc hgl hl (prg_1 hgr hr ha na) nb) fun _ _ _ h => x_rg1 hc hr (k := .t) ha hgr na h
end

/-! ### subscripts -/
def idxM : W → W → Hm → Res W
  | .p (.tuple ds), .p (.int i), m => match atI ds i with
    | some d => .ok (.p d) m
    | none => .stuck
  | .p (.list ds), .p (.int i), m => match atI ds i with
    | some d => .ok (.p d) m
    | none => .stuck
  | .tw ws, .p (.int i), m => match atI ws i with
    | some w => .ok w m
    | none => .stuck
  | .loc n, .p (.int i), m => match m[n]? with
    | some (.lst ws) => (match atI ws i with
      | some w => .ok w m
      | none => .stuck)
    | _ => .stuck
  | .p (.str z), .p (.int i), m => if z.length ≤ sizeLine then (match atI z.cps.toList i with
    | some c => .ok (.p (.str ⟨#[c]⟩)) m
    | none => .stuck) else .stuck
  | _, _, _ => .stuck
section
variable {K : PySem.W.Frag} {c : Cfg} {H : Hp} {m : Hm}
theorem atI_rpA {xs : List V} {ds : List PyData} {i : Int} {d : PyData} (r : RpAll K c H xs ds) (e : atI ds i = some d) : ∃ v, atI xs i = some v ∧ Rp K c H v d := by
  unfold atI at e ⊢
  rw [r.length]
  obtain ⟨j, e1, e2⟩ := Option.bind_eq_some_iff.mp e
  rw [e1]
  exact r.get e2
theorem atI_rpW {xs : List V} {ds : List W} {i : Int} {d : W} (r : RpWs K c H xs ds) (e : atI ds i = some d) : ∃ v, atI xs i = some v ∧ RpW K c H v d := by
  unfold atI at e ⊢
  rw [r.length]
  obtain ⟨j, e1, e2⟩ := Option.bind_eq_some_iff.mp e
  rw [e1]
  exact r.get e2
end
theorem idxM_ok {K : PySem.W.Frag} : OpM K (rIx K) idxM := by
  intro U σ c H m v1 v2 w1 w2 Q hm r1 r2 hp
  unfold idxM at hp
  split at hp
  · cases r1 with | p r1 => cases r2 with | p r2 =>
    cases r2
    obtain ⟨a, xs, rfl, h, z, q⟩ := r1.tupI
    split at hp
    · rename_i d e
      obtain ⟨v, e', r⟩ := atI_rpA q e
      exact .inr (.inl ⟨a, xs, _, v, rfl, rfl, h.sq, e', hp.ok hm v (.p r)⟩)
    · exact hp.elim
  · cases r1 with | p r1 => cases r2 with | p r2 =>
    cases r2
    obtain ⟨a, xs, rfl, h, _, _, z, q⟩ := r1.lstI
    split at hp
    · rename_i d e
      obtain ⟨v, e', r⟩ := atI_rpA q e
      exact .inl ⟨a, xs, _, v, rfl, rfl, SqL.of h, e', hp.ok hm v (.p r)⟩
    · exact hp.elim
  · cases r2 with | p r2 =>
    cases r2
    cases r1 with
    | tw h z q =>
      split at hp
      · rename_i d e
        obtain ⟨v, e', r⟩ := atI_rpW q e
        exact .inr (.inl ⟨_, _, _, v, rfl, rfl, h.sq, e', hp.ok hm v r⟩)
      · exact hp.elim
  · cases r2 with | p r2 =>
    cases r2
    split at hp
    · rename_i ws q
      cases r1 with
      | loc h =>
        obtain ⟨b, hb, xs, hx, z, rr⟩ := hm.at_ _ _ q
        rw [h] at hb; cases hb
        split at hp
        · rename_i d e
          obtain ⟨v, e', r⟩ := atI_rpW rr e
          exact .inl ⟨_, _, _, v, rfl, rfl, SqL.of hx, e', hp.ok hm v r⟩
        · exact hp.elim
    · exact hp.elim
  · cases r1 with | p r1 => cases r2 with | p r2 =>
    cases r1; cases r2
    split at hp
    · rename_i hz
      split at hp
      · rename_i c e
        exact .inr (.inr ⟨_, _, _, rfl, rfl, hz, e, hp.ok hm _ (.p (.str _))⟩)
      · exact hp.elim
    · exact hp.elim
  · exact hp.elim
section
variable {X : Cx} {U : WX} {pos : Pos} {a b : Expr} {f1 f2 : EX W}
theorem x_ix (ha : PE X a (T X.K U f1)) (hb : PE X b (T X.K U f2)) (hs : PlainIx b := by intro _ _; rfl) : PE X (.Subscript a b pos) (T X.K U (eOp2 idxM f1 f2)) := imp (pe_ix ix_seq ha hb hs) fun _ _ _ h => t_op2 idxM_ok h
end

/-! ### slices -/
/-- the items of xs[lo:hi] -/
def cutA {α : Type} (xs : List α) (lo hi : Option Int) : List α := (xs.drop (HT.sIx xs.length 0 lo)).take (HT.sIx xs.length xs.length hi - HT.sIx xs.length 0 lo)
theorem cut_rpA {K : PySem.W.Frag} {c : Cfg} {H : Hp} {xs : List V} {ds : List PyData} (r : RpAll K c H xs ds) (lo hi : Option Int) : RpAll K c H (cutV xs lo hi) (cutA ds lo hi) := by
  unfold cutV cutA
  rw [r.length]
  exact RpAll.take _ (RpAll.drop _ r)
theorem cutA_all {α : Type} {ds : List α} {lo hi : Option Int} (h1 : HT.sIx ds.length 0 lo = 0) (h2 : HT.sIx ds.length ds.length hi = ds.length) : cutA ds lo hi = ds := by
  unfold cutA
  rw [h1, h2, List.drop_zero, Nat.sub_zero]
  exact List.take_length
abbrev PX := Ev → Hm → Res (Option Int)
def oNone : PX := fun _ m => .ok none m
def oSome (f : EX W) : PX := fun s m => (f s m).bind fun w m1 => match w with
  | .p (.int i) => .ok (some i) m1
  | _ => .stuck
def TO' (K : PySem.W.Frag) (U : WX) (f : PX) : TO := fun σ H Q => ∃ c s m, SRel K c H s σ ∧ HRel K c m H ∧ Post K U σ c H (fun _ H' o _ => Q o H') (f s m)
theorem TO'.run {K : PySem.W.Frag} {U : WX} {σ : L2.St} {c : Cfg} {H : Hp} {m : Hm} {s : Ev} {α : Type} {f : PX} {k : Option Int → Hm → Res α} {R : Cfg → Hp → α → Hm → Prop} {Z : Option Int → Hp → Prop} (hs : SRel K c H s σ) (hm : HRel K c m H) (hp : Post K U σ c H R ((f s m).bind k))
    (h : ∀ c1 H1 b m1, Ext c H c1 H1 → SRel K c1 H1 s σ → HRel K c1 m1 H1 → Post K U σ c1 H1 R (k b m1) → Z b H1) : TO' K U f σ H Z := by
  refine ⟨c, s, m, hs, hm, ?_⟩
  cases e : f s m with
  | stuck => rw [e] at hp; exact hp
  | ok a m' =>
    rw [e] at hp
    exact fun c' H' e' hm' => h c' H' a m' e' (hs.mono e') hm' (hp.ext e')
  | exc x m' => rw [e] at hp; exact hp
theorem impO {X : Cx} {e : Option Expr} {t t' : TO} (h : PO X e t) (i : ∀ σ H Q, t' σ H Q → t σ H Q) : PO X e t' := ⟨fun pins s σ H Q I hw => h.run pins s σ H Q I (i σ H Q hw)⟩
section
variable {X : Cx} {U : WX} {pos p2 : Pos} {a : Expr} {f : EX W} {fl fh : PX} {lo hi : Option Expr}
theorem o_none : PO X none (TO' X.K U oNone) := impO po_none fun σ H Q ⟨c, s, m, hs, hm, hp⟩ => hp.ok hm
theorem o_some (ha : PE X a (T X.K U f)) : PO X (some a) (TO' X.K U (oSome f)) := by
  refine impO (po_some ha) ?_
  rintro σ H Q ⟨c, s, m, hs, hm, hp⟩
  refine T.run hs hm hp fun c1 H1 w1 m1 v1 e1 hs1 hm1 r1 hp1 => ?_
  split at hp1
  · cases r1 with | p r1 =>
    cases r1
    exact ⟨_, rfl, hp1.ok hm1⟩
  · exact hp1.elim
def cutM (w : W) (lo hi : Option Int) (m : Hm) : Res W := match w with
  | .p (.tuple ds) => .ok (.p (.tuple (cutA ds lo hi))) m
  | .p (.list ds) => .ok (.p (.list (cutA ds lo hi))) m
  | .p (.str z) => if z.length ≤ sizeLine then .ok (.p (.str (cutS z lo hi))) m else .stuck
  | .loc n => match m[n]? with
    | some (.lst ws) => (match allP (cutA ws lo hi) with
      | some ds => .ok (.p (.list ds)) m
      | none => .stuck)
    | _ => .stuck
  | _ => .stuck
def eCut (f : EX W) (fl fh : PX) : EX W := fun s m => (f s m).bind fun w m1 => (fl s m1).bind fun lo m2 => (fh s m2).bind fun hi m3 => cutM w lo hi m3
abbrev rCutAll (K : PySem.W.Frag) : V → Option Int → Option Int → Hp → VK → Prop := fun x lo hi H Q => rSlA K x lo hi H Q ∨ (rSlL K x lo hi H Q ∨ rSlS x lo hi H Q)
theorem x_cut (ha : PE X a (T X.K U f)) (hl : PO X lo (TO' X.K U fl)) (hh : PO X hi (TO' X.K U fh)) : PE X (.Subscript a (.Slice lo hi none p2) pos) (T X.K U (eCut f fl fh)) := by
  refine imp (pe_slice (r := rCutAll X.K) (sl_tupA.or (sl_list.or sl_str)) ha hl hh) ?_
  rintro σ H Q ⟨c, s, m, hs, hm, hp⟩
  refine T.run hs hm hp fun c1 H1 w1 m1 v1 e1 hs1 hm1 r1 hp1 => TO'.run hs1 hm1 hp1 fun c2 H2 l m2 e2 hs2 hm2 hp2 => TO'.run hs2 hm2 hp2 fun c3 H3 h m3 e3 hs3 hm3 hp3 => ?_
  have r := (r1.mono e2).mono e3
  unfold cutM at hp3
  split at hp3
  · cases r with | p r =>
    obtain ⟨a, xs, rfl, hT, z, q⟩ := r.tupI
    refine .inl ⟨a, xs, rfl, hT.sq, fun hw => ?_, fun _ p hpn => ?_⟩
    · refine hp3.ok hm3 _ (.p ?_)
      have l := q.length
      rw [l] at hw
      rw [cutA_all hw.1 hw.2]
      exact .tup hT z q
    · have z' := cutV_length xs l h
      exact hp3 c3 _ (Ext.new hpn) (hm3.new hpn) _ (.p (Rp.newT hm3 hpn (by omega) (cut_rpA q l h)))
  · cases r with | p r =>
    obtain ⟨a, xs, rfl, hT, _, _, z, q⟩ := r.lstI
    refine .inr (.inl ⟨a, xs, rfl, SqL.of hT, fun p hpn => ?_⟩)
    have z' := cutV_length xs l h
    exact hp3 c3 _ (Ext.new hpn) (hm3.new hpn) _ (.p (Rp.newL hm3 hpn (by omega) (cut_rpA q l h)))
  · cases r with | p r =>
    cases r
    split at hp3
    · rename_i hz
      exact .inr (.inr ⟨_, rfl, hz, hp3.ok hm3 _ (.p (.str _))⟩)
    · exact hp3.elim
  · split at hp3
    · rename_i ws q
      cases r with
      | loc h' =>
        obtain ⟨b, hb, xs, hx, z, rr⟩ := hm3.at_ _ _ q
        rw [h'] at hb; cases hb
        split at hp3
        · rename_i ds e
          refine .inr (.inl ⟨_, xs, rfl, SqL.of hx, fun p hpn => ?_⟩)
          have z' := cutV_length xs l h
          have rr' : RpWs X.K c3 H3 (cutV xs l h) (cutA ws l h) := by
            unfold cutV cutA
            rw [rr.length]
            exact RpWs.take _ (RpWs.drop _ rr)
          exact hp3 c3 _ (Ext.new hpn) (hm3.new hpn) _ (.p (Rp.newL hm3 hpn (by omega) (allP_rp rr' e)))
        · exact hp3.elim
    · exact hp3.elim
  · exact hp3.elim
end
end Mir

namespace Mir
open PySem PySem.Spec PyProof.Rows L2 HT

/-! ### t[::-1], t[:0:-1] -/
section
variable {prog : Program} {w : World} {A : Around} {E : Value → Shared → Prop} {s : Shared}
theorem pick_back (xs : Array Value) (k : Nat) (hk : k ≤ xs.size) : ((List.range k).filterMap fun (m : Nat) => xs[(((xs.size : Int) - 1) + (m : Int) * (-1)).toNat]?).toArray = (xs.toList.reverse.take k).toArray := by
  congr 1
  induction k with
  | zero => simp
  | succ k ih =>
    rw [List.range_succ, List.filterMap_append, ih (by omega)]
    have e : (((xs.size : Int) - 1) + (k : Int) * (-1)).toNat = xs.size - 1 - k := by omega
    have hlt : xs.size - 1 - k < xs.size := by omega
    have h1 : xs[xs.size - 1 - k]? = some xs[xs.size - 1 - k] := Array.getElem?_eq_getElem hlt
    simp only [List.filterMap_cons, List.filterMap_nil, e, h1]
    rw [List.take_succ]
    have h2 : xs.toList.reverse[k]? = some xs[xs.size - 1 - k] := by
      rw [List.getElem?_reverse (by simpa using (by omega : k < xs.size))]
      simp [h1]
    rw [h2]
    rfl
/-- the number of places -/
def backN (n : Nat) : Option Int → Nat
  | none => n
  | some _ => n - 1
def backS (n : Nat) : Option Int → Int
  | none => -1
  | some _ => min 0 ((n : Int) - 1)
theorem sliceApplied_back {sl : Addr} {vl vu vs : Value} {hi : Option Int} {n : Nat} {Q : Int × Int × Nat → Shared → Prop} (hs : s.heap.IsSliceOf sl vl vu vs) (pl : IsPart vl none) (pu : IsPart vu hi) (ps : IsPart vs (some (-1))) (hh : hi = none ∨ hi = some 0)
    (h : Q ((n : Int) - 1, -1, backN n hi) s) : wpAny (model prog w) A (Builtin.Slice.sliceApplied (.ref sl) (pure (n : Int))) Q E s := by
  obtain ⟨os, hos, hcs, hds⟩ := id hs
  unfold Builtin.Slice.sliceApplied Builtin.Slice.sliceFields
  refine wpAny_bind (wpAny_bind (wpAny_field hos hds (x := vl) rfl (wpAny_bind (wpAny_field hos hds (x := vu) rfl (wpAny_bind (wpAny_field hos hds (x := vs) rfl (wpAny_pure ?_)))))))
  refine wpAny_bind (slicePart_ ps ?_)
  show wpAny _ _ (if ((-1 : Int) == 0) = true then _ else _) _ _ s
  rw [if_neg (by decide)]
  refine wpAny_bind (slicePart_ pl (wpAny_bind (slicePart_ pu (wpAny_bind (wpAny_pure ?_)))))
  show wpAny _ _ (match Builtin.Slice.sliceAdjust none hi (-1) (n : Int) with | (lo, hi) => pure (lo, (-1 : Int), Builtin.Slice.slicePlaces lo hi (-1))) _ _ s
  have e : Builtin.Slice.sliceAdjust none hi (-1) (n : Int) = ((n : Int) - 1, backS n hi) := by
    rcases hh with rfl | rfl
    · rfl
    · show ((n : Int) - 1, (if (0 : Int) < 0 then max ((0 : Int) + n) (-1) else min 0 ((n : Int) - 1))) = _
      rw [if_neg (by omega)]
      rfl
  rw [e]
  show wpAny _ _ (pure ((n : Int) - 1, (-1 : Int), Builtin.Slice.slicePlaces ((n : Int) - 1) (backS n hi) (-1))) _ _ s
  have e2 : Builtin.Slice.slicePlaces ((n : Int) - 1) (backS n hi) (-1) = backN n hi := by
    unfold Builtin.Slice.slicePlaces
    rw [if_neg (by decide)]
    rcases hh with rfl | rfl
    · show (if (n : Int) - 1 > -1 then ((n : Int) - 1 - -1 - 1) / (- -1) + 1 else 0).toNat = n
      rw [show (- -1 : Int) = 1 by decide]
      split <;> omega
    · show (if (n : Int) - 1 > min 0 ((n : Int) - 1) then ((n : Int) - 1 - min 0 ((n : Int) - 1) - 1) / (- -1) + 1 else 0).toNat = n - 1
      rw [show (- -1 : Int) = 1 by decide]
      split <;> omega
  rw [e2]
  exact wpAny_pure h
theorem getItem_tuple_back {t sl : Addr} {items : Array Value} {vl vu vs : Value} {hi : Option Int} {Q : Value → Shared → Prop} (ht : IsTup s.heap t items) (hs : s.heap.IsSliceOf sl vl vu vs) (pl : IsPart vl none) (pu : IsPart vu hi) (ps : IsPart vs (some (-1))) (hh : hi = none ∨ hi = some 0)
    (h : Q (.ref s.heap.objs.size) { s with heap := s.heap.push { cls := .type "tuple", data := .seq ((items.toList.reverse.take (backN items.size hi))).toArray } })
    (hsz : items.size ≤ sizeLine) : wpAny (model prog w) A (getItem (.ref t) (.ref sl)) Q E s := by
  have hk : backN items.size hi ≤ items.size := by cases hi <;> simp [backN]
  have htake : sizeOk (.seq (items.toList.reverse.take (backN items.size hi)).toArray) := by
    show (items.toList.reverse.take (backN items.size hi)).toArray.size ≤ sizeLine
    rw [List.size_toArray, List.length_take, List.length_reverse, Array.length_toList]
    omega
  obtain ⟨os, hos, hcs, hds⟩ := id hs
  have hTs : s.TypeIs (.ref sl) "slice" := ⟨os, hos, hcs⟩
  unfold getItem
  try with_reducible refine wpAny_holding ?_
  first | refine wpAny_bind (wpAny_pure ?_) | skip
  refine wpAny_bind (wpAny_sequenceKey ht.typeIs (by decide) ?_)
  refine wpAny_bind (wpAny_callSpecial?_slot (name := Str.ofString "__getitem__") ht.typeIs PyProof.Rows.slot_tuple_getitem
    (wpAny_call_entry PyProof.Rows.slot_tuple_getitem ht.typeIs entry_tuple_getitem ?_ (args_tuple_getitem _ _)))
  show wpAny _ _ (Builtin.Tuple.tupleItemsOf (.ref t) >>= _) _ _ s
  refine wpAny_bind (tupleItemsOf_ ht ?_)
  refine wpAny_bind (wpAny_typeOf hTs ?_)
  rw [if_pos (by decide)]
  refine wpAny_bind (sliceApplied_back hs pl pu ps hh ?_)
  have hno : ¬ ((((items.size : Int) - 1) == 0 && (-1 : Int) == 1 && (backN items.size hi) == items.size) = true) := by
    intro q
    rw [Bool.and_eq_true, Bool.and_eq_true] at q
    exact absurd q.1.2 (by decide)
  show wpAny _ _ (if (((items.size : Int) - 1) == 0 && (-1 : Int) == 1 && (backN items.size hi) == items.size) = true then _ else _) _ _ s
  rw [if_neg hno, pick_back _ _ hk]
  first
    | exact wpAny_bind (m := Builtin.Tuple.tupleExact _) (wpAny_newObj_type (wpAny_pure ⟨_, rfl, wpAny_pure h⟩) htake)
    | exact wpAny_bind (m := Builtin.Tuple.tupleExact _) (wpAny_newObj_type (wpAny_bind (wpAny_pure (wpAny_pure ⟨_, rfl, wpAny_pure h⟩))) htake)
    | exact wpAny_bind (wpAny_bind (m := Builtin.Tuple.tupleExact _) (wpAny_newObj_type (wpAny_pure (wpAny_pure ⟨_, rfl, wpAny_pure h⟩)) htake))
    | exact wpAny_bind (wpAny_bind (m := Builtin.Tuple.tupleExact _) (wpAny_newObj_type (wpAny_pure ⟨_, rfl, wpAny_pure h⟩) htake))
end
section
variable {X : Cx} {U : WX} {e : Expr} {te : TE} {f : EX W} {k k2 : Nat} {p1 p2 p3 p4 pos : Pos}
def tRevT (K : PySem.W.Frag) (hi : Option Int) (te : TE) : TE := fun σ H Q => te σ H fun x H1 => ∃ a xs, x = .ref a ∧ SqT K H1 a xs ∧ ∀ p, H1 p = none → Q (.ref p) (upd H1 p (.tup (xs.reverse.take (backN xs.length hi))))
theorem Vals.takeN {xs : List V} {us : List Value} (n : Nat) (r : Vals xs us) : Vals (xs.take n) (us.take n) := Vals.take n r
theorem pe_revT {hiE : Option Expr} {hi : Option Int} {th : TO} (hth : PO X hiE th) (hx : ∀ σ H Q, Q hi H → th σ H Q) (hh : hi = none ∨ hi = some 0) (he : PE X e te) : PE X (.Subscript e (.Slice none hiE (some (.UnaryOp .USub (.Constant (.int 1) k p1) p2)) p3) pos) (tRevT X.K hi te) := by
  refine ⟨fun pins s σ H Q I h => ?_⟩
  refine Subscript_ (thn (he.run pins s σ H _ I h) fun v s1 ⟨x, H1, I1, r1, q1⟩ => ?_)
  obtain ⟨a, xs, ex, hx', q⟩ := q1
  subst ex
  cases r1
  have hst : PO X (some (.UnaryOp .USub (.Constant (.int 1) k p1) p2)) (tPart (tUn (rU fun i => .int (-i)) (tC (.int 1)))) := po_some (pe_un un_neg pe_int)
  refine wpAny_Slice (thn (po_none.run pins s1 σ H1 (fun o H2 => o = none ∧ H2 = H1) I1 ⟨rfl, rfl⟩) fun vl s2 ⟨l, H2, I2, pl, el, e2⟩ => ?_)
  subst el e2
  refine thn (hth.run pins s2 σ H2 (fun o H3 => o = hi ∧ H3 = H2) I2 (hx _ _ _ ⟨rfl, rfl⟩)) fun vu s3 ⟨u, H3, I3, pu, eu, e3⟩ => ?_
  subst eu e3
  refine thn (hst.run pins s3 σ H3 (fun o H4 => o = some (-1) ∧ H4 = H3) I3 ⟨1, rfl, -1, rfl, rfl, rfl⟩) fun vs s4 ⟨o, H4, I4, ps, eo, e4⟩ => ?_
  subst eo e4
  have I5 : Inv X pins σ H4 { s4 with heap := s4.heap.push { cls := .type "slice", data := .fields #[vl, vu, vs] } } := I4.kept (t' := s4.toks) fun b ob q => Heap.get?_push_of_some _ q
  obtain ⟨its, r, ht, hz⟩ := I5.tuple hx'
  have hlen := r.length
  show wpAny (model X.prog X.w) X.A (subscriptTail e (.Slice none hiE (some (.UnaryOp .USub (.Constant (.int 1) k p1) p2)) p3) (.ref a) (.ref s4.heap.objs.size)) (EP X pins σ Q) X.xe { s4 with heap := s4.heap.push { cls := .type "slice", data := .fields #[vl, vu, vs] } }
  refine tail_any (ops := [.ref a, .ref s4.heap.objs.size]) ht.typeIs PyProof.Rows.slot_tuple_getitem.lookup ?_ (by with_unfolding_all rfl)
  have hsz : its.toArray.size = xs.length := by rw [List.size_toArray]; exact hlen.symm
  refine getItem_tuple_back ht (Heap.IsSliceOf.new _ vl vu vs) pl pu ps hh ?_ (by rw [hsz]; exact hz)
  rw [hsz]
  refine ⟨.ref _, _, I5.laid (t' := s4.toks) (o := .tup (xs.reverse.take (backN xs.length u))) (fun b ob q => Heap.get?_push_of_some _ q) (Nat.le_refl _) ?_, rfl, q _ (I5.hok.fresh (Nat.le_refl _))⟩
  refine ⟨by rw [List.length_take, List.length_reverse]; omega, _, Vals.take (backN xs.length u) r.reverse, ⟨_, Heap.get?_push_size _ rfl, rfl, 0, rfl⟩⟩
def revM (hi : Option Int) (w : W) (m : Hm) : Res W := match w with
  | .p (.tuple ds) => .ok (.p (.tuple (ds.reverse.take (backN ds.length hi)))) m
  | _ => .stuck
theorem x_rev_of {hiE : Option Expr} {hi : Option Int} {th : TO} (hth : PO X hiE th) (hx : ∀ σ H Q, Q hi H → th σ H Q) (hh : hi = none ∨ hi = some 0) (he : PE X e (T X.K U f)) : PE X (.Subscript e (.Slice none hiE (some (.UnaryOp .USub (.Constant (.int 1) k p1) p2)) p3) pos) (T X.K U (eOp1 (revM hi) f)) := by
  refine imp (pe_revT hth hx hh he) ?_
  rintro σ H Q ⟨c, s, m, hs, hm, hp⟩
  refine T.run hs hm hp fun c1 H1 w1 m1 v1 e1 hs1 hm1 r1 hp1 => ?_
  unfold revM at hp1
  split at hp1
  · cases r1 with | p r1 =>
    obtain ⟨a, xs, rfl, hT, z, q⟩ := r1.tupI
    refine ⟨a, xs, rfl, hT.sq, fun p hpn => ?_⟩
    rw [q.length]
    exact hp1 c1 _ (Ext.new hpn) (hm1.new hpn) _ (.p (Rp.newT hm1 hpn (by rw [List.length_take, List.length_reverse]; omega) (RpAll.take _ q.reverse)))
  · exact hp1.elim
theorem x_rev (he : PE X e (T X.K U f)) : PE X (.Subscript e (.Slice none none (some (.UnaryOp .USub (.Constant (.int 1) k p1) p2)) p3) pos) (T X.K U (eOp1 (revM none) f)) := x_rev_of po_none (fun _ _ _ h => h) (.inl rfl) he
theorem x_rev0 (he : PE X e (T X.K U f)) : PE X (.Subscript e (.Slice none (some (.Constant (.int 0) k2 p4)) (some (.UnaryOp .USub (.Constant (.int 1) k p1) p2)) p3) pos) (T X.K U (eOp1 (revM (some 0)) f)) := x_rev_of (po_some pe_int) (fun _ _ _ h => ⟨0, rfl, h⟩) (.inr rfl) he
/-- the same of a list -/
def revLM (w : W) (m : Hm) : Res W := match (seqW m w).bind allP with
  | some ds => if isL w = true then .ok (.p (.list ds.reverse)) m else .stuck
  | none => .stuck
theorem x_revL (he : PE X e (T X.K U f)) : PE X (.Subscript e (.Slice none none (some (.UnaryOp .USub (.Constant (.int 1) k p1) p2)) p3) pos) (T X.K U (eOp1 revLM f)) := by
  refine imp (pe_revL he) ?_
  rintro σ H Q ⟨c, s, m, hs, hm, hp⟩
  refine T.run hs hm hp fun c1 H1 w1 m1 v1 e1 hs1 hm1 r1 hp1 => ?_
  unfold revLM at hp1
  split at hp1
  · rename_i ds e
    split at hp1
    · rename_i hl
      obtain ⟨ws', e1, e2⟩ := Option.bind_eq_some_iff.mp e
      obtain ⟨a, xs, rfl, h, z, q⟩ := seqW_list hm1 r1 e1 hl
      refine ⟨a, xs, rfl, h, fun p hpn => ?_⟩
      exact hp1 c1 _ (Ext.new hpn) (hm1.new hpn) _ (.p (Rp.newL hm1 hpn (by rw [List.length_reverse]; exact z) (allP_rp q e2).reverse))
    · exact hp1.elim
  · exact hp1.elim
end
end Mir

namespace Mir
open PySem PySem.Spec PyProof.Rows L2

/-! ### methods of lists -/
def MethM (K : PySem.W.Frag) (r : V → List V → Hp → VK → Prop) (g : W → List W → Hm → Res W) : Prop := ∀ (U : WX) (σ : L2.St) (c : Cfg) (H : Hp) (m : Hm) (v : V) (w : W) (vs : List V) (ws : List W) (Q : VK),
  HRel K c m H → RpW K c H v w → RpWs K c H vs ws → Post K U σ c H (RQ K Q) (g w ws m) → r v vs H Q
/-- the receiver is a list -/
def lstAt (w : W) (m : Hm) : Bool := isL w && (seqW m w).isSome
def eLM (g : W → List W → Hm → Res W) (f : EX W) (fs : EX (List W)) : EX W := fun s m => (f s m).bind fun w m1 => if lstAt w m1 = true then (fs s m1).bind fun ws m2 => g w ws m2 else .stuck
section
variable {K : PySem.W.Frag} {c : Cfg} {H : Hp} {m : Hm}
theorem lstAt_ty {v : V} {w : W} (hm : HRel K c m H) (r : RpW K c H v w) (h : lstAt w m = true) : tyV K "list" v H := by
  unfold lstAt at h
  rw [Bool.and_eq_true] at h
  obtain ⟨ws, e⟩ := Option.isSome_iff_exists.mp h.2
  obtain ⟨a, xs, rfl, hl, _, _⟩ := seqW_list hm r e h.1
  exact .inl ⟨rfl, xs, hl⟩
end
section
variable {X : Cx} {U : WX} {o e : Expr} {es : List Expr} {f : EX W} {fs : EX (List W)} {name : Str} {apos cpos : Pos} {id : String} {r : V → List V → Hp → VK → Prop} {g : W → List W → Hm → Res W}
theorem x_lm (slot : Slot "list" name id) (hty : typeOf (.builtin id) = pure (.type "method_descriptor")) (hm : MtR X id r) (hg : MethM X.K r g) (ho : PE X o (T X.K U f)) (ha : PA X (e :: es) (TL X.K U fs))
    (hbase : attributeBase o name X.env (eval o X.env) = eval o X.env := by rfl)
    (hfew : ((backTo cpos (starEach (e :: es) X.env)).all (fun x => !x.1) && (backToKw cpos (keywordEach [] X.env)).all (fun x => x.1.isSome)
      && decide ((e :: es).length + ([] : List Keyword).length + (if ([] : List Keyword).isEmpty then 0 else 1) < 30)) = true := by rfl)
    (hline : (apos.endLine == cpos.line) = true := by rfl) (hs : starEach (e :: es) X.env = (false, eval e X.env) :: starEach es X.env := by rfl) (hplain : (backTo cpos (starEach es X.env)).any (·.1) = false := by rfl) :
    PE X (.Call (.Attribute o name apos) (e :: es) [] cpos) (T X.K U (eLM g f fs)) := by
  refine imp (pe_bm PySem.F.plainAttrs_list slot hty hm ho ha hbase hfew hline hs hplain) ?_
  rintro σ H Q ⟨c, s, m, hs, hm, hp⟩
  refine T.run hs hm hp fun c1 H1 w1 m1 v1 e1 hs1 hm1 r1 hp1 => ?_
  split at hp1
  · rename_i hl
    exact ⟨lstAt_ty hm1 r1 hl, TL.run hs1 hm1 hp1 fun c2 H2 ws m2 vs e2 hs2 hm2 r2 hp2 => hg U σ c2 H2 m2 v1 w1 vs ws Q hm2 (r1.mono e2) r2 hp2⟩
  · exact hp1.elim
theorem x_lm0 (slot : Slot "list" name id) (hty : typeOf (.builtin id) = pure (.type "method_descriptor")) (hm : MtR X id r) (hg : MethM X.K r g) (ho : PE X o (T X.K U f))
    (hbase : attributeBase o name X.env (eval o X.env) = eval o X.env := by rfl) (hline : (apos.endLine == cpos.line) = true := by rfl) : PE X (.Call (.Attribute o name apos) [] [] cpos) (T X.K U (eLM g f aNil)) := by
  refine imp (pe_bm0 PySem.F.plainAttrs_list slot hty hm ho hbase hline) ?_
  rintro σ H Q ⟨c, s, m, hs, hm, hp⟩
  refine T.run hs hm hp fun c1 H1 w1 m1 v1 e1 hs1 hm1 r1 hp1 => ?_
  split at hp1
  · rename_i hl
    exact ⟨lstAt_ty hm1 r1 hl, hg U σ c1 H1 m1 v1 w1 [] [] Q hm1 r1 .nil hp1⟩
  · exact hp1.elim
end
section
variable {K : PySem.W.Frag} {c : Cfg} {H : Hp} {m : Hm}
theorem HRel.lst (hm : HRel K c m H) {n : Nat} {a : Addr} {ws : List W} (h : c.rho[n]? = some a) (q : m[n]? = some (.lst ws)) : ∃ xs, H a = some (.lst xs) ∧ xs.length ≤ sizeLine ∧ RpWs K c H xs ws := by
  obtain ⟨b, hb, xs, hx, z, rr⟩ := hm.at_ _ _ q
  rw [h] at hb; cases hb
  exact ⟨xs, hx, z, rr⟩
/-- a list cell is written -/
theorem Post.setL {U : WX} {σ : L2.St} {α : Type} {R : Cfg → Hp → α → Hm → Prop} {a' : α} {n : Nat} {a : Addr} {ws : List W} {ys : List V} (hm : HRel K c m H) (h : c.rho[n]? = some a) (z : ys.length ≤ sizeLine) (r : RpWs K c H ys ws)
    (hp : Post K U σ c H R (.ok a' (m.set n (.lst ws)))) : R c (upd H a (.lst ys)) a' (m.set n (.lst ws)) :=
  hp c _ (Ext.write h) (hm.write h ⟨ys, upd_same, z, r.mono (Ext.write h)⟩)
end
def appendM : W → List W → Hm → Res W
  | .loc n, [y], m => match m[n]? with
    | some (.lst ws) => if ws.length < sizeLine then .ok (.p .none) (m.set n (.lst (ws ++ [y]))) else .stuck
    | _ => .stuck
  | _, _, _ => .stuck
theorem appendM_ok {K : PySem.W.Frag} : MethM K rAppend appendM := by
  intro U σ c H m v w vs ws Q hm r rs hp
  unfold appendM at hp
  split at hp
  · obtain ⟨y, rfl, ry⟩ := rs.oneI
    cases r with | loc h =>
    split at hp
    · rename_i ws q
      obtain ⟨xs, hx, z, rr⟩ := hm.lst h q
      have l := rr.length
      split at hp
      · rename_i hz
        exact ⟨_, xs, y, rfl, rfl, hx, by omega, Post.setL hm h (by simp; omega) (rr.append (.cons ry .nil)) hp _ (.p .non)⟩
      · exact hp.elim
    · exact hp.elim
  · exact hp.elim
def isLst : W → Bool
  | .p (.list _) => true
  | .loc _ => true
  | _ => false
theorem seqW_lst {K : PySem.W.Frag} {c : Cfg} {H : Hp} {m : Hm} {v : V} {w : W} {ws : List W} (hm : HRel K c m H) (r : RpW K c H v w) (e : seqW m w = some ws) (hl : isLst w = true) : ∃ a xs, v = .ref a ∧ H a = some (.lst xs) ∧ xs.length ≤ sizeLine ∧ RpWs K c H xs ws := by
  cases r with
  | p r =>
    cases r with
    | lst h n n2 z r => cases e; exact ⟨_, _, rfl, h, z, r.toWs⟩
    | tup h z r => cases hl
    | _ => cases e
  | ro h z r => cases hl
  | @loc a n h =>
    simp only [seqW] at e
    cases q : m[n]? with
    | none => rw [q] at e; cases e
    | some x =>
      rw [q] at e
      cases x with
      | lst ws =>
        cases e
        obtain ⟨xs, hx, z, rr⟩ := hm.lst h q
        exact ⟨_, _, rfl, hx, z, rr⟩
      | _ => cases e
  | tw h z r => cases hl
  | kt => cases hl
def extendM : W → List W → Hm → Res W
  | .loc n, [y], m => match m[n]?, seqW m y with
    | some (.lst ws), some zs => if (decide (ws.length + zs.length ≤ sizeLine) && isLst y) = true then .ok (.p .none) (m.set n (.lst (ws ++ zs))) else .stuck
    | _, _ => .stuck
  | _, _, _ => .stuck
theorem extendM_ok {K : PySem.W.Frag} : MethM K rExtend extendM := by
  intro U σ c H m v w vs ws Q hm r rs hp
  unfold extendM at hp
  split at hp
  · obtain ⟨y, rfl, ry⟩ := rs.oneI
    cases r with | loc h =>
    split at hp
    · rename_i ws zs q e
      obtain ⟨xs, hx, z, rr⟩ := hm.lst h q
      split at hp
      · rename_i hz
        rw [Bool.and_eq_true, decide_eq_true_eq] at hz
        obtain ⟨b, ys, rfl, hy, z2, r2⟩ := seqW_lst hm ry e hz.2
        have l := rr.length
        have l2 := r2.length
        exact ⟨_, b, xs, ys, rfl, rfl, hx, hy, by omega, Post.setL hm h (by simp; omega) (rr.append r2) hp _ (.p .non)⟩
      · exact hp.elim
    · exact hp.elim
  · exact hp.elim
/-- xs.remove(k), ints, k is there -/
def removeM : W → List W → Hm → Res W
  | .loc n, [.p (.int k)], m => match m[n]? with
    | some (.lst ws) => (match (allP ws).bind intsOf with
      | some ns => if k ∈ ns then .ok (.p .none) (m.set n (.lst (((ns.erase k).map PyData.int).map .p))) else .stuck
      | none => .stuck)
    | _ => .stuck
  | _, _, _ => .stuck
theorem eraseIdx_first : ∀ (ns : List Int) (k : Int), k ∈ ns → ∃ j, ns[j]? = some k ∧ (∀ m : Nat, m < j → ns[m]? ≠ some k) ∧ ns.eraseIdx j = ns.erase k
  | [], k, h => by simp at h
  | n :: ns, k, h => by
    by_cases e : n = k
    · subst e
      exact ⟨0, rfl, fun m hm => absurd hm (Nat.not_lt_zero _), by simp⟩
    · have hk : k ∈ ns := by
        rcases List.mem_cons.mp h with q | q
        · exact absurd q.symm e
        · exact q
      obtain ⟨j, h1, h2, h3⟩ := eraseIdx_first ns k hk
      refine ⟨j + 1, by simpa using h1, fun m hm => ?_, ?_⟩
      · cases m with
        | zero => simp [e]
        | succ m => simpa using h2 m (by omega)
      · rw [List.eraseIdx_cons_succ, h3, List.erase_cons_tail (by simpa using e)]
theorem rpI {K : PySem.W.Frag} {c : Cfg} {H : Hp} : ∀ (ns : List Int), RpAll K c H (ns.map V.int) (ns.map PyData.int)
  | [] => .nil
  | n :: ns => .cons (.int n) (rpI ns)
theorem removeM_ok {K : PySem.W.Frag} : MethM K rRemI removeM := by
  intro U σ c H m v w vs ws Q hm r rs hp
  unfold removeM at hp
  split at hp
  · obtain ⟨y, rfl, ry⟩ := rs.oneI
    cases ry with | p ry =>
    cases ry
    cases r with | loc h =>
    split at hp
    · rename_i ws q
      obtain ⟨xs, hx, z, rr⟩ := hm.lst h q
      split at hp
      · rename_i ns e
        obtain ⟨ds, e1, e2⟩ := Option.bind_eq_some_iff.mp e
        have rr' := allP_rp rr e1
        rw [intsOf_eq e2] at rr'
        have := rr'.ints
        subst this
        split at hp
        · rename_i hk
          obtain ⟨j, h1, h2, h3⟩ := eraseIdx_first ns _ hk
          refine ⟨_, ns, _, j, rfl, rfl, hx, h1, h2, ?_⟩
          rw [h3]
          exact Post.setL hm h (by
            rw [List.length_map] at z ⊢
            exact Nat.le_trans List.length_erase_le z) (rpI _).toWs hp _ (.p .non)
        · exact hp.elim
      · exact hp.elim
    · exact hp.elim
  · exact hp.elim
/-- xs.pop(), xs.pop(i) -/
def popM : W → List W → Hm → Res W
  | .loc n, [], m => match m[n]? with
    | some (.lst ws) => (match ws[ws.length - 1]? with
      | some y => .ok y (m.set n (.lst ws.dropLast))
      | none => .stuck)
    | _ => .stuck
  | _, _, _ => .stuck
def popAtM : W → List W → Hm → Res W
  | .loc n, [.p (.int i)], m => match m[n]? with
    | some (.lst ws) => if (decide (-(2 ^ 63) ≤ i) && decide (i < 2 ^ 63)) = true then (match seqIndex? i ws.length with
      | some k => (match ws[k]? with
        | some y => .ok y (m.set n (.lst (ws.eraseIdx k)))
        | none => .stuck)
      | none => .stuck) else .stuck
    | _ => .stuck
  | _, _, _ => .stuck
theorem RpWs.dropLast {K : PySem.W.Frag} {c : Cfg} {H : Hp} {xs : List V} {ws : List W} (r : RpWs K c H xs ws) : RpWs K c H xs.dropLast ws.dropLast := by
  rw [List.dropLast_eq_take, List.dropLast_eq_take, r.length]
  exact r.take _
theorem popM_ok {K : PySem.W.Frag} : MethM K rPop popM := by
  intro U σ c H m v w vs ws Q hm r rs hp
  unfold popM at hp
  split at hp
  · cases rs
    cases r with | loc h =>
    split at hp
    · rename_i ws q
      obtain ⟨xs, hx, z, rr⟩ := hm.lst h q
      have l := rr.length
      split at hp
      · rename_i y e
        obtain ⟨y', e', ry⟩ := rr.get e
        refine ⟨_, xs, y', rfl, rfl, hx, by rw [l]; exact e', ?_⟩
        exact Post.setL hm h (by simp; omega) rr.dropLast hp _ (ry.mono (Ext.write h))
      · exact hp.elim
    · exact hp.elim
  · exact hp.elim
theorem popAtM_ok {K : PySem.W.Frag} : MethM K rPopAt popAtM := by
  intro U σ c H m v w vs ws Q hm r rs hp
  unfold popAtM at hp
  split at hp
  · obtain ⟨y, rfl, ry⟩ := rs.oneI
    cases ry with | p ry =>
    cases ry
    cases r with | loc h =>
    split at hp
    · rename_i ws q
      obtain ⟨xs, hx, z, rr⟩ := hm.lst h q
      have l := rr.length
      split at hp
      · rename_i hb
        rw [Bool.and_eq_true, decide_eq_true_eq, decide_eq_true_eq] at hb
        split at hp
        · rename_i k ek
          split at hp
          · rename_i y e
            obtain ⟨y', e', ry⟩ := rr.get e
            refine ⟨_, xs, _, k, y', rfl, rfl, hx, hb.1, hb.2, by rw [l]; exact ek, e', ?_⟩
            exact Post.setL hm h (by have := len_erase xs k; omega) (rr.eraseIdx k) hp _ (ry.mono (Ext.write h))
          · exact hp.elim
        · exact hp.elim
      · exact hp.elim
    · exact hp.elim
  · exact hp.elim
/-- xs.index(x) of data that is there -/
def idxOf (d : PyData) (ds : List PyData) : Nat := ds.findIdx fun z => PyData.eqv z d
def indexM : W → List W → Hm → Res W
  | w, [y], m => match rd m w, rd m y with
    | some (.list ds), some d => if (SeqAt.shaped (.list ds) && (SeqAt.shaped d && ds.any fun z => PyData.eqv z d)) = true then .ok (.p (.int (idxOf d ds : Nat))) m else .stuck
    | _, _ => .stuck
  | _, _, _ => .stuck
theorem indexM_ok {K : PySem.W.Frag} : MethM K (rIndexD K) indexM := by
  intro U σ c H m v w vs ws Q hm r rs hp
  unfold indexM at hp
  split at hp
  · obtain ⟨y, rfl, ry⟩ := rs.oneI
    split at hp
    · rename_i ds d e1 e2
      split at hp
      · rename_i hz
        rw [Bool.and_eq_true, Bool.and_eq_true] at hz
        obtain ⟨h1, h2, h3⟩ := hz
        have hd := rd_dp hm r e1
        obtain ⟨a, xs, rfl, hl, _, _⟩ := rd_list hm r e1
        have hlt : idxOf d ds < ds.length := List.findIdx_lt_length_of_exists (by simpa using h3)
        refine ⟨a, y, d, ds, idxOf d ds, ds[idxOf d ds], rfl, rfl, hd, rd_dp hm ry e2, h1, h2, List.getElem?_eq_getElem hlt, ?_, fun k z hk hz => ?_, hp.ok hm _ (.p (.int _))⟩
        · exact List.findIdx_getElem (w := hlt)
        · have hk' := List.not_of_lt_findIdx (p := fun z => PyData.eqv z d) (xs := ds) hk
          obtain ⟨hk2, e⟩ := List.getElem?_eq_some_iff.mp hz
          rw [e] at hk'
          simpa using hk'
      · exact hp.elim
    · exact hp.elim
  · exact hp.elim

/-! ### targets -/
inductive Tg where
  | n (i : Nat)
  | t (ts : List Tg)
mutual
def Tg.put : Tg → W → Ev → Option Ev
  | .n i, w, s => some (s.set i (some w))
  | .t gs, w, s => match seqT w with
    | some ws => Tg.puts gs ws s
    | none => none
def Tg.puts : List Tg → List W → Ev → Option Ev
  | [], [], s => some s
  | g :: gs, w :: ws, s => match Tg.put g w s with
    | some s' => Tg.puts gs ws s'
    | none => none
  | _, _, _ => none
end
mutual
def Tg.inn (vs : List Nat) : Tg → Bool
  | .n i => decide (i ∈ vs)
  | .t gs => Tg.inns vs gs
def Tg.inns (vs : List Nat) : List Tg → Bool
  | [] => true
  | g :: gs => Tg.inn vs g && Tg.inns vs gs
end
def TG' (K : PySem.W.Frag) (t : Tg) : TG := fun v σ H Q => ∃ c s w s', SRel K c H s σ ∧ RpW K c H v w ∧ t.put w s = some s' ∧ ∀ σ', SRel K c H s' σ' → (∀ vs, t.inn vs = true → wipe σ' vs = wipe σ vs) → Q σ' H
def TGs' (K : PySem.W.Frag) (t : List Tg) : TGs := fun v σ H Q => ∃ c s w s', SRel K c H s σ ∧ RpWs K c H v w ∧ Tg.puts t w s = some s' ∧ ∀ σ', SRel K c H s' σ' → (∀ vs, Tg.inns vs t = true → wipe σ' vs = wipe σ vs) → Q σ' H
theorem wipe_set {σ : L2.St} {i : Nat} {v : Option V} : ∀ {vs : List Nat}, i ∈ vs → wipe (σ.set i v) vs = wipe σ vs
  | [], h => by simp at h
  | k :: vs, h => by
    unfold wipe
    by_cases e : i = k
    · subst e
      by_cases h2 : i ∈ vs
      · rw [wipe_set h2]
      · have q : ∀ (τ : L2.St) (vs : List Nat), i ∉ vs → (wipe (τ.set i v) vs) = (wipe τ vs).set i v := by
          intro τ vs
          induction vs with
          | nil => intro _; rfl
          | cons j r ih =>
            intro hn
            unfold wipe
            rw [ih (fun z => hn (List.mem_cons_of_mem _ z))]
            exact List.set_comm _ _ (fun z => hn (by rw [z]; exact List.mem_cons_self))
        rw [q σ vs h2, List.set_set]
    · rcases List.mem_cons.mp h with q | q
      · exact absurd q e
      · rw [wipe_set q]
section
variable {X : Cx} {pos : Pos}
theorem impG {tg : Expr} {t t' : TG} (h : PG X tg t) (i : ∀ v σ H Q, t' v σ H Q → t v σ H Q) : PG X tg t' := ⟨fun pins s σ H v u Q I r hw => h.run pins s σ H v u Q I r (i v σ H Q hw)⟩
theorem impGs {tg : List Expr} {t t' : TGs} (h : PGs X tg t) (i : ∀ v σ H Q, t' v σ H Q → t v σ H Q) : PGs X tg t' := ⟨fun pins s σ H v u Q I r hw => h.run pins s σ H v u Q I r (i v σ H Q hw)⟩
theorem g_name {i : Nat} {x : Str} (hN : X.N.Nodup) (hi : X.N[i]? = some x) (hx : Loc X.env.scope x) (hf : X.fn x = true ∨ X.env.scope.names.lookup x = some .local := by first | exact .inl rfl | exact .inr rfl | assumption) : PG X (.Name x pos) (TG' X.K (.n i)) := by
  refine impG (pg_name hN hi hx hf) ?_
  rintro v σ H Q ⟨c, s, w, s', hs, r, e, q⟩
  cases e
  exact q _ (hs.set r) fun vs hv => wipe_set (by simpa [Tg.inn] using hv)
theorem g_nil : PGs X [] (TGs' X.K []) := by
  refine impGs pgs_nil ?_
  rintro v σ H Q ⟨c, s, w, s', hs, r, e, q⟩
  cases w with
  | nil =>
    cases r
    cases e
    exact ⟨rfl, q _ hs fun _ _ => rfl⟩
  | cons => cases e
theorem g_cons {e : Expr} {es : List Expr} {t : Tg} {ts : List Tg} (h1 : PG X e (TG' X.K t)) (h2 : PGs X es (TGs' X.K ts))
    (hs : (assignEach (e :: es) X.env).map (·.2) = assign e X.env :: (assignEach es X.env).map (·.2) := by rfl) : PGs X (e :: es) (TGs' X.K (t :: ts)) := by
  refine impGs (pgs_cons h1 h2 hs) ?_
  rintro v σ H Q ⟨c, s, w, s', hs, r, e, q⟩
  cases r with
  | nil => cases e
  | @cons v vs d ds r1 r2 =>
    unfold Tg.puts at e
    split at e
    · rename_i s1 e1
      refine ⟨v, vs, rfl, c, s, d, s1, hs, r1, e1, fun σ1 hs1 h1 => ⟨c, s1, ds, s', hs1, r2, e, fun σ2 hs2 h2 => q σ2 hs2 fun vs hv => ?_⟩⟩
      simp only [Tg.inns, Bool.and_eq_true] at hv
      exact (h2 vs hv.2).trans (h1 vs hv.1)
    · cases e
theorem g_tup {es : List Expr} {k : Nat} {ts : List Tg} (hc : X.calm = true) (h : PGs X es (TGs' X.K ts))
    (hn : (assignEach es X.env).length = ts.length := by rfl) (hst : (assignEach es X.env).findIdx? (·.1) = none := by rfl) : PG X (.Tuple es k pos) (TG' X.K (.t ts)) := by
  refine impG (pg_tup hc h hn hst) ?_
  rintro v σ H Q ⟨c, s, w, s', hs, r, e, q⟩
  unfold Tg.put at e
  split at e
  · rename_i ws e1
    have len : ∀ (ts : List Tg) (ws : List W) (s : Ev) (s' : Ev), Tg.puts ts ws s = some s' → ws.length = ts.length := by
      intro ts
      induction ts with
      | nil => intro ws s s' h; cases ws with
        | nil => rfl
        | cons => cases h
      | cons t ts ih => intro ws s s' h; cases ws with
        | nil => cases h
        | cons w ws =>
          unfold Tg.puts at h
          split at h
          · simp [ih _ _ _ h]
          · cases h
    have l := len _ _ _ _ e
    have fin : ∀ {a : Addr} {xs : List V}, v = .ref a → TupAt X.K c H a xs → RpWs X.K c H xs ws → gTup X.K ts.length (TGs' X.K ts) v σ H Q := fun {a xs} ev hT rr =>
      ⟨a, xs, ev, hT.sq, by rw [rr.length, l], c, s, ws, s', hs, rr, e, fun σ' hs' hv => q σ' hs' fun vs h => hv vs (by simpa [Tg.inn] using h)⟩
    cases r with
    | p r =>
      cases r with
      | tup hT z r => cases e1; exact fin rfl hT r.toWs
      | _ => cases e1
    | tw hT z r => cases e1; exact fin rfl hT r
    | _ => cases e1
  · cases e
end
end Mir

namespace Mir
open PySem PySem.Spec PyProof.Rows L2

/-! ### what is walked -/
/-- the items; lists that must stand as they are while they are walked -/
structure Src where
  items : List W
  gs : List (Nat × List W) := []
def gOk (m : Hm) : List (Nat × List W) → Bool
  | [] => true
  | g :: r => (match m[g.1]? with
    | some (.lst ws) => beqWs ws g.2
    | _ => false) && gOk m r
@[simp] theorem gOk_nil {m : Hm} : gOk m [] = true := rfl
theorem gOk_get {m : Hm} {n : Nat} {ws : List W} {r : List (Nat × List W)} (h : gOk m ((n, ws) :: r) = true) : m[n]? = some (.lst ws) ∧ gOk m r = true := by
  unfold gOk at h
  rw [Bool.and_eq_true] at h
  refine ⟨?_, h.2⟩
  have h1 := h.1
  split at h1
  · rename_i ws' e
    rw [e, beqWs_eq _ _ h1]
  · cases h1
abbrev IX := EX Src
def ItOk (K : PySem.W.Frag) (c : Cfg) (H : Hp) (src : Src) (J : It) : Prop := ∀ c' H' m', Ext c H c' H' → HRel K c' m' H' → gOk m' src.gs = true → ∀ i : Nat,
  (i = src.items.length → J.stop i H') ∧ ∀ w, src.items[i]? = some w → J.go i H' ∧ ∀ x H'', J.yld i H' x H'' → (H'' = H' ∨ ∃ p o, H' p = none ∧ H'' = upd H' p o) ∧ RpW K c' H'' x w
def TI' (K : PySem.W.Frag) (U : WX) (f : IX) : TI := fun σ H R => ∃ c s m, SRel K c H s σ ∧ HRel K c m H ∧ Post K U σ c H (fun c' H' src _ => ∀ J, ItOk K c' H' src J → R J H') (f s m)
theorem TI'.run {K : PySem.W.Frag} {U : WX} {σ : L2.St} {c : Cfg} {H : Hp} {m : Hm} {s : Ev} {α : Type} {f : IX} {k : Src → Hm → Res α} {R : Cfg → Hp → α → Hm → Prop} {Z : It → Hp → Prop} (hs : SRel K c H s σ) (hm : HRel K c m H) (hp : Post K U σ c H R ((f s m).bind k))
    (h : ∀ c1 H1 src m1 J, Ext c H c1 H1 → SRel K c1 H1 s σ → HRel K c1 m1 H1 → ItOk K c1 H1 src J → Post K U σ c1 H1 R (k src m1) → Z J H1) : TI' K U f σ H Z := by
  refine ⟨c, s, m, hs, hm, ?_⟩
  cases e : f s m with
  | stuck => rw [e] at hp; exact hp
  | ok a m' =>
    rw [e] at hp
    exact fun c' H' e' hm' J hJ => h c' H' a m' J e' (hs.mono e') hm' hJ (hp.ext e')
  | exc x m' => rw [e] at hp; exact hp
theorem impI {X : Cx} {tg e : Expr} {t t' : TI} (h : PI X tg e t) (i : ∀ σ H Q, t' σ H Q → t σ H Q) : PI X tg e t' := ⟨fun pins s σ H Q I hw => h.run pins s σ H Q I (i σ H Q hw)⟩
theorem PI.or {X : Cx} {tg e : Expr} {t t' : TI} (h : PI X tg e t) (h' : PI X tg e t') : PI X tg e (fun σ H R => t σ H R ∨ t' σ H R) :=
  ⟨fun pins s σ H Q I hw => hw.elim (h.run pins s σ H Q I) (h'.run pins s σ H Q I)⟩
def srcOf (w : W) (m : Hm) : Res Src := match w with
  | .p (.list ds) => .ok ⟨ds.map .p, []⟩ m
  | .p (.tuple ds) => .ok ⟨ds.map .p, []⟩ m
  | .tw ws => .ok ⟨ws, []⟩ m
  | .loc n => match m[n]? with
    | some (.lst ws) => .ok ⟨ws, [(n, ws)]⟩ m
    | _ => .stuck
  | _ => .stuck
def iSeq (f : EX W) : IX := fun s m => (f s m).bind srcOf
section
variable {K : PySem.W.Frag} {c : Cfg} {H : Hp} {m : Hm}
theorem ItOk.list {src : Src} {a : Addr} (h : ∀ c' H' m', Ext c H c' H' → HRel K c' m' H' → gOk m' src.gs = true → ∃ xs, SqL K H' a xs ∧ RpWs K c' H' xs src.items) : ItOk K c H src (Itl K a) := by
  intro c' H' m' e hm g i
  obtain ⟨xs, hx, r⟩ := h c' H' m' e hm g
  refine ⟨fun hi => ⟨xs, hx, by rw [r.length]; omega⟩, fun w hw => ?_⟩
  obtain ⟨v, hv, rv⟩ := r.get hw
  refine ⟨⟨xs, v, hx, hv⟩, fun x H'' y => ?_⟩
  obtain ⟨e1, y⟩ := y
  have := y xs hx
  rw [hv] at this
  cases this
  subst e1
  exact ⟨.inl rfl, rv⟩
theorem ItOk.tup {src : Src} {a : Addr} (h : ∀ c' H' m', Ext c H c' H' → HRel K c' m' H' → gOk m' src.gs = true → ∃ xs, SqT K H' a xs ∧ RpWs K c' H' xs src.items) : ItOk K c H src (Itt K a) := by
  intro c' H' m' e hm g i
  obtain ⟨xs, hx, r⟩ := h c' H' m' e hm g
  refine ⟨fun hi => ⟨xs, hx, by rw [r.length]; omega⟩, fun w hw => ?_⟩
  obtain ⟨v, hv, rv⟩ := r.get hw
  refine ⟨⟨xs, v, hx, hv⟩, fun x H'' y => ?_⟩
  obtain ⟨e1, y⟩ := y
  have := y xs hx
  rw [hv] at this
  cases this
  subst e1
  exact ⟨.inl rfl, rv⟩
/-- a list or a tuple to walk -/
theorem srcOf_okL {v : V} {w : W} {src : Src} {m' : Hm} (hm : HRel K c m H) (r : RpW K c H v w) (e : srcOf w m = .ok src m') (k : isL w = true) : m' = m ∧ ∃ a, v = .ref a ∧ (∃ xs, SqL K H a xs) ∧ ItOk K c H src (Itl K a) := by
  cases r with
  | p r =>
    cases r with
    | lst h n n2 z r =>
      cases e
      exact ⟨rfl, _, rfl, ⟨_, SqL.of h⟩, .list fun c' H' m' e hm g => ⟨_, SqL.of (e.keep _ _ h n n2), (r.mono e).toWs⟩⟩
    | _ => cases k
  | ro => cases e
  | @loc a n h =>
    simp only [srcOf] at e
    cases q : m[n]? with
    | none => rw [q] at e; cases e
    | some x =>
      rw [q] at e
      cases x with
      | lst ws =>
        cases e
        obtain ⟨xs, hx, z, rr⟩ := hm.lst h q
        refine ⟨rfl, _, rfl, ⟨_, SqL.of hx⟩, .list fun c' H' m' e hm' g => ?_⟩
        obtain ⟨xs', hx', _, rr'⟩ := hm'.lst (e.at h) (gOk_get g).1
        exact ⟨xs', SqL.of hx', rr'⟩
      | _ => cases e
  | tw h z r => cases k
  | kt => cases k
theorem srcOf_okT {v : V} {w : W} {src : Src} {m' : Hm} (hm : HRel K c m H) (r : RpW K c H v w) (e : srcOf w m = .ok src m') (k : isL w = false) : m' = m ∧ ∃ a, v = .ref a ∧ (∃ xs, SqT K H a xs) ∧ ItOk K c H src (Itt K a) := by
  cases r with
  | p r =>
    cases r with
    | lst => cases k
    | tup h z r =>
      cases e
      exact ⟨rfl, _, rfl, ⟨_, h.sq⟩, .tup fun c' H' m' e hm g => ⟨_, (h.sub e.sub).sq, (r.mono e).toWs⟩⟩
    | _ => cases e
  | ro => cases e
  | loc => cases k
  | tw h z r =>
    cases e
    exact ⟨rfl, _, rfl, ⟨_, h.sq⟩, .tup fun c' H' m' e hm g => ⟨_, (h.sub e.sub).sq, r.mono e⟩⟩
  | kt => cases e
theorem srcOf_exc {w : W} {x : Exn} {m' : Hm} : srcOf w m ≠ .exc x m' := by
  unfold srcOf
  split <;> first | (intro h; cases h; done) | (split <;> (intro h; cases h))
end
section
variable {X : Cx} {U : WX} {tg a b : Expr} {f g : EX W}
theorem i_seq (ha : PE X a (T X.K U f)) : PI X tg a (TI' X.K U (iSeq f)) := by
  refine impI (PI.or (pi_list ha) (pi_tup ha)) ?_
  rintro σ H R ⟨c, s, m, hs, hm, hp⟩
  -- by the value's kind
  cases e : f s m with
  | stuck => unfold iSeq at hp; rw [e] at hp; exact hp.elim
  | exc x m' =>
    unfold iSeq at hp
    rw [e] at hp
    exact .inl ⟨c, s, m, hs, hm, by rw [e]; exact hp⟩
  | ok w m1 =>
    unfold iSeq at hp
    rw [e] at hp
    simp only [bind_ok] at hp
    cases e2 : srcOf w m1 with
    | stuck => rw [e2] at hp; exact hp.elim
    | exc x m' => exact absurd e2 srcOf_exc
    | ok src m2 =>
      rw [e2] at hp
      cases k : isL w with
      | true =>
        refine .inl ⟨c, s, m, hs, hm, ?_⟩
        rw [e]
        intro c' H' e' hm' v rv
        obtain ⟨rfl, a, rfl, q1, q2⟩ := srcOf_okL hm' rv e2 k
        exact ⟨a, rfl, q1, (hp.ext e').ok hm' _ q2⟩
      | false =>
        refine .inr ⟨c, s, m, hs, hm, ?_⟩
        rw [e]
        intro c' H' e' hm' v rv
        obtain ⟨rfl, a, rfl, q1, q2⟩ := srcOf_okT hm' rv e2 k
        exact ⟨a, rfl, q1, (hp.ext e').ok hm' _ q2⟩
/-- range(n), range(a, b) -/
def iRg1 (f : EX W) : IX := fun s m => (f s m).bind fun w m1 => match w with
  | .p (.int n) => if (decide (-1000000 ≤ n) && decide (n ≤ 1000000)) = true then .ok ⟨(rgP 0 n).map .p, []⟩ m1 else .stuck
  | _ => .stuck
def iRg2 (f g : EX W) : IX := fun s m => (f s m).bind fun w m1 => (g s m1).bind fun w' m2 => match w, w' with
  | .p (.int a), .p (.int b) => if (decide (-1000000 ≤ a) && (decide (a ≤ 1000000) && (decide (-1000000 ≤ b) && decide (b ≤ 1000000)))) = true then .ok ⟨(rgP a b).map .p, []⟩ m2 else .stuck
  | _, _ => .stuck
theorem rgP_get {a b : Int} {i : Nat} {w : W} (h : ((rgP a b).map W.p)[i]? = some w) : w = .p (.int (a + (i : Nat))) ∧ i < (b - a).toNat := by
  unfold rgP at h
  rw [List.map_map, List.getElem?_map] at h
  obtain ⟨j, hj, e⟩ := Option.map_eq_some_iff.mp h
  obtain ⟨hl, hj⟩ := List.getElem?_eq_some_iff.mp hj
  rw [List.length_range] at hl
  rw [List.getElem_range] at hj
  subst hj
  exact ⟨e.symm, hl⟩
theorem rgP_length (a b : Int) : (rgP a b).length = (b - a).toNat := by simp [rgP]
theorem ItOk.rg {K : PySem.W.Frag} {c : Cfg} {H : Hp} (a b : Int) {n : Nat} (hn : n = (b - a).toNat) : ItOk K c H ⟨(rgP a b).map .p, []⟩ (Itr a n) := by
  subst hn
  intro c' H' m' e hm g i
  refine ⟨fun hi => ?_, fun w hw => ?_⟩
  · show (b - a).toNat ≤ i
    rw [List.length_map, rgP_length] at hi
    omega
  · obtain ⟨rfl, hl⟩ := rgP_get hw
    refine ⟨hl, fun x H'' y => ?_⟩
    obtain ⟨e1, e2⟩ := y
    subst e1 e2
    exact ⟨.inl rfl, .p (.int _)⟩
theorem i_rg1 {p pos : Pos} (hr : X.mg "range" = none) (ha : PE X a (T X.K U f)) (hg : Gl X "range" := by rfl) (na : starEach [a] X.env = (false, eval a X.env) :: starEach [] X.env := by rfl) (hs : starEach [a] X.env = [(false, eval a X.env)] := by rfl) :
    PI X tg (.Call (.Name "range" p) [a] [] pos) (TI' X.K U (iRg1 f)) := by
  refine impI (pi_range1 hg hr (pa_cons ha pa_nil na) hs) ?_
  rintro σ H R ⟨c, s, m, hs, hm, hp⟩
  refine T.run hs hm hp fun c1 H1 w1 m1 v1 e1 hs1 hm1 r1 hp1 => ?_
  split at hp1
  · cases r1 with | p r1 =>
    cases r1
    rename_i n
    split at hp1
    · rename_i hz
      rw [Bool.and_eq_true, decide_eq_true_eq, decide_eq_true_eq] at hz
      exact ⟨n, rfl, by omega, by omega, hp1.ok hm1 _ (ItOk.rg 0 n (by omega))⟩
    · exact hp1.elim
  · exact hp1.elim
theorem i_rg2 {p pos : Pos} (hr : X.mg "range" = none) (ha : PE X a (T X.K U f)) (hb : PE X b (T X.K U g)) (hg : Gl X "range" := by rfl) (na : starEach [a, b] X.env = (false, eval a X.env) :: starEach [b] X.env := by rfl) (nb : starEach [b] X.env = (false, eval b X.env) :: starEach [] X.env := by rfl)
    (hs : starEach [a, b] X.env = [(false, eval a X.env), (false, eval b X.env)] := by rfl) (hs2 : starEach [b] X.env = [(false, eval b X.env)] := by rfl) :
    PI X tg (.Call (.Name "range" p) [a, b] [] pos) (TI' X.K U (iRg2 f g)) := by
  refine impI (pi_range2 hg hr (pa_cons ha (pa_cons hb pa_nil nb) na) hs hs2) ?_
  rintro σ H R ⟨c, s, m, hs, hm, hp⟩
  refine T.run hs hm hp fun c1 H1 w1 m1 v1 e1 hs1 hm1 r1 hp1 => T.run hs1 hm1 hp1 fun c2 H2 w2 m2 v2 e2 hs2 hm2 r2 hp2 => ?_
  split at hp2
  · cases r1 with | p r1 => cases r2 with | p r2 =>
    cases r1
    cases r2
    split at hp2
    · rename_i hz
      simp only [Bool.and_eq_true, decide_eq_true_eq] at hz
      exact ⟨_, _, rfl, by omega, hp2.ok hm2 _ (ItOk.rg _ _ rfl)⟩
    · exact hp2.elim
  · exact hp2.elim
/-- enumerate(xs), xs a list -/
def numbered (k : Nat) : List W → List W
  | [] => []
  | w :: r => mkTup [.p (.int (k : Nat)), w] :: numbered (k + 1) r
theorem numbered_get : ∀ (ws : List W) (k i : Nat) (w : W), (numbered k ws)[i]? = some w → ∃ x, ws[i]? = some x ∧ w = mkTup [.p (.int ((k + i : Nat) : Int)), x]
  | [], k, i, w, h => by simp [numbered] at h
  | x :: r, k, 0, w, h => by
    simp [numbered] at h
    exact ⟨x, rfl, h.symm⟩
  | x :: r, k, i + 1, w, h => by
    obtain ⟨y, h1, h2⟩ := numbered_get r (k + 1) i w (by simpa [numbered] using h)
    exact ⟨y, by simpa using h1, by rw [h2]; congr 5; omega⟩
theorem numbered_length : ∀ (ws : List W) (k : Nat), (numbered k ws).length = ws.length
  | [], _ => rfl
  | _ :: r, k => by simp [numbered, numbered_length r]
def iEn (f : EX W) : IX := fun s m => (f s m).bind fun w m1 => if isL w = true then (srcOf w m1).bind fun src m2 => .ok ⟨numbered 0 src.items, src.gs⟩ m2 else .stuck
theorem new_pair {K : PySem.W.Frag} {c : Cfg} {H : Hp} {m : Hm} {p : Addr} {x y : V} {wx wy : W} (hm : HRel K c m H) (hp : H p = none) (rx : RpW K c H x wx) (ry : RpW K c H y wy) : RpW K c (upd H p (.tup [x, y])) (.ref p) (mkTup [wx, wy]) :=
  RpW.newT hm hp (by rw [sizeLine_eq]; show 2 ≤ _; decide) (.cons rx (.cons ry .nil))
theorem i_enum {p pos tpos : Pos} {elts : List Expr} {kk : Nat} (hr : X.mg "enumerate" = none) (ha : PE X a (T X.K U f)) (hg : Gl X "enumerate" := by rfl) (na : starEach [a] X.env = (false, eval a X.env) :: starEach [] X.env := by rfl) (hs : starEach [a] X.env = [(false, eval a X.env)] := by rfl) :
    PI X (.Tuple elts kk tpos) (.Call (.Name "enumerate" p) [a] [] pos) (TI' X.K U (iEn f)) := by
  refine impI (pi_enum hg hr (pa_cons ha pa_nil na) hs) ?_
  rintro σ H R ⟨c, s, m, hs, hm, hp⟩
  refine T.run hs hm hp fun c1 H1 w1 m1 v1 e1 hs1 hm1 r1 hp1 => ?_
  split at hp1
  · rename_i k
    cases e2 : srcOf w1 m1 with
    | stuck => rw [e2] at hp1; exact hp1.elim
    | exc x m' => exact absurd e2 srcOf_exc
    | ok src m2 =>
      rw [e2] at hp1
      simp only [bind_ok] at hp1
      obtain ⟨rfl, a, rfl, ⟨xs, q1⟩, q2⟩ := srcOf_okL hm1 r1 e2 k
      refine ⟨a, xs, rfl, q1, hp1.ok hm1 _ ?_⟩
      intro c' H' m' e hm' g i
      have q := q2 c' H' m' e hm' g
      refine ⟨fun hi => (q i).1 (by simpa [numbered_length] using hi), fun w hw => ?_⟩
      obtain ⟨x, h1, rfl⟩ := numbered_get _ _ _ _ hw
      obtain ⟨g1, g2⟩ := (q i).2 x h1
      refine ⟨g1, fun v H'' y => ?_⟩
      obtain ⟨T, x', rfl, hT, rfl, hy⟩ := y
      obtain ⟨_, rx⟩ := g2 x' H' ⟨rfl, hy⟩
      refine ⟨.inr ⟨T, _, hT, rfl⟩, ?_⟩
      have := new_pair hm' hT (RpW.p (Rp.int ((i : Nat) : Int))) rx
      simpa using this
  · exact hp1.elim
/-- zip of two lists or of two tuples -/
def zipped : List W → List W → List W
  | w :: r, w' :: r' => mkTup [w, w'] :: zipped r r'
  | _, _ => []
theorem zipped_get : ∀ (ws ws' : List W) (i : Nat) (w : W), (zipped ws ws')[i]? = some w → ∃ x y, ws[i]? = some x ∧ ws'[i]? = some y ∧ w = mkTup [x, y]
  | [], _, i, w, h => by simp [zipped] at h
  | _ :: _, [], i, w, h => by simp [zipped] at h
  | x :: r, y :: r', 0, w, h => by
    simp [zipped] at h
    exact ⟨x, y, rfl, rfl, h.symm⟩
  | x :: r, y :: r', i + 1, w, h => by
    obtain ⟨x', y', h1, h2, h3⟩ := zipped_get r r' i w (by simpa [zipped] using h)
    exact ⟨x', y', by simpa using h1, by simpa using h2, h3⟩
theorem zipped_length : ∀ (ws ws' : List W), (zipped ws ws').length = min ws.length ws'.length
  | [], _ => by simp [zipped]
  | _ :: _, [] => by simp [zipped]
  | _ :: r, _ :: r' => by simp [zipped, zipped_length r r']
theorem gOk_app {m : Hm} : ∀ {g g' : List (Nat × List W)}, gOk m (g ++ g') = true → gOk m g = true ∧ gOk m g' = true
  | [], _, h => ⟨rfl, h⟩
  | x :: r, g', h => by
    simp only [List.cons_append, gOk, Bool.and_eq_true] at h ⊢
    obtain ⟨h1, h2⟩ := gOk_app h.2
    exact ⟨⟨h.1, h1⟩, h2⟩
def zipR (w w' : W) (m : Hm) : Res Src := if isL w == isL w' then (srcOf w m).bind fun a m1 => (srcOf w' m1).bind fun b m2 => .ok ⟨zipped a.items b.items, a.gs ++ b.gs⟩ m2 else .stuck
def iZp (f g : EX W) : IX := fun s m => (f s m).bind fun w m1 => (g s m1).bind fun w' m2 => zipR w w' m2
theorem i_zip {p pos tpos : Pos} {elts : List Expr} {kk : Nat} (hr : X.mg "zip" = none) (ha : PE X a (T X.K U f)) (hb : PE X b (T X.K U g)) (hg : Gl X "zip" := by rfl) (na : starEach [a, b] X.env = (false, eval a X.env) :: starEach [b] X.env := by rfl) (nb : starEach [b] X.env = (false, eval b X.env) :: starEach [] X.env := by rfl)
    (hpl : (backTo pos (starEach [b] X.env)).any (·.1) = false := by rfl) : PI X (.Tuple elts kk tpos) (.Call (.Name "zip" p) [a, b] [] pos) (TI' X.K U (iZp f g)) := by
  refine impI (RZ.pi_zipA hg hr (pa_cons ha (pa_cons hb pa_nil nb) na) na hpl) ?_
  rintro σ H R ⟨c, s, m, hs, hm, hp⟩
  refine T.run hs hm hp fun c1 H1 w1 m1 v1 e1 hs1 hm1 r1 hp1 => T.run hs1 hm1 hp1 fun c2 H2 w2 m2 v2 e2 hs2 hm2 r2 hp2 => ?_
  have r1' := r1.mono e2
  unfold zipR at hp2
  split at hp2
  · rename_i kk
    have kk := eq_of_beq kk
    cases q1 : srcOf w1 m2 with
    | stuck => rw [q1] at hp2; exact hp2.elim
    | exc x m' => exact absurd q1 srcOf_exc
    | ok A m3 =>
      rw [q1] at hp2
      simp only [bind_ok] at hp2
      cases q2 : srcOf w2 m3 with
      | stuck => rw [q2] at hp2; exact hp2.elim
      | exc x m' => exact absurd q2 srcOf_exc
      | ok B m4 =>
        rw [q2] at hp2
        simp only [bind_ok] at hp2
        cases k1 : isL w1 with
        | true =>
          obtain ⟨rfl, a, rfl, ⟨xs, a1⟩, a2⟩ := srcOf_okL hm2 r1' q1 k1
          obtain ⟨rfl, b, rfl, ⟨ys, b1⟩, b2⟩ := srcOf_okL hm2 r2 q2 (by rw [← kk]; exact k1)
          refine ⟨a, b, xs, ys, rfl, .inl ⟨a1, b1, hp2.ok hm2 _ ?_⟩⟩
          intro c' H' m' e hm' g i
          obtain ⟨g1, g2⟩ := gOk_app g
          have qa := a2 c' H' m' e hm' g1 i
          have qb := b2 c' H' m' e hm' g2 i
          have ea := a2 c' H' m' e hm' g1 A.items.length
          have eb := b2 c' H' m' e hm' g2 B.items.length
          refine ⟨fun hi => ?_, fun w hw => ?_⟩
          · obtain ⟨xs', x1, x2⟩ := ea.1 rfl
            obtain ⟨ys', y1, y2⟩ := eb.1 rfl
            refine ⟨xs', ys', x1, y1, ?_⟩
            rw [zipped_length] at hi
            omega
          · obtain ⟨x, y, h1, h2, rfl⟩ := zipped_get _ _ _ _ hw
            obtain ⟨⟨xs', x', x1, x2⟩, g1⟩ := qa.2 x h1
            obtain ⟨⟨ys', y', y1, y2⟩, g2⟩ := qb.2 y h2
            refine ⟨⟨xs', ys', x', y', x1, y1, x2, y2⟩, fun v H'' yy => ?_⟩
            obtain ⟨T, x3, y3, rfl, hT, rfl, hx, hy⟩ := yy
            obtain ⟨_, rx⟩ := g1 x3 H' ⟨rfl, hx⟩
            obtain ⟨_, ry⟩ := g2 y3 H' ⟨rfl, hy⟩
            exact ⟨.inr ⟨T, _, hT, rfl⟩, new_pair hm' hT rx ry⟩
        | false =>
          obtain ⟨rfl, a, rfl, ⟨xs, a1⟩, a2⟩ := srcOf_okT hm2 r1' q1 k1
          obtain ⟨rfl, b, rfl, ⟨ys, b1⟩, b2⟩ := srcOf_okT hm2 r2 q2 (by rw [← kk]; exact k1)
          refine ⟨a, b, xs, ys, rfl, .inr ⟨a1, b1, hp2.ok hm2 _ ?_⟩⟩
          intro c' H' m' e hm' g i
          obtain ⟨g1, g2⟩ := gOk_app g
          have qa := a2 c' H' m' e hm' g1 i
          have qb := b2 c' H' m' e hm' g2 i
          have ea := a2 c' H' m' e hm' g1 A.items.length
          have eb := b2 c' H' m' e hm' g2 B.items.length
          refine ⟨fun hi => ?_, fun w hw => ?_⟩
          · obtain ⟨xs', x1, x2⟩ := ea.1 rfl
            obtain ⟨ys', y1, y2⟩ := eb.1 rfl
            refine ⟨xs', ys', x1, y1, ?_⟩
            rw [zipped_length] at hi
            omega
          · obtain ⟨x, y, h1, h2, rfl⟩ := zipped_get _ _ _ _ hw
            obtain ⟨⟨xs', x', x1, x2⟩, g1⟩ := qa.2 x h1
            obtain ⟨⟨ys', y', y1, y2⟩, g2⟩ := qb.2 y h2
            refine ⟨⟨xs', ys', x', y', x1, y1, x2, y2⟩, fun v H'' yy => ?_⟩
            obtain ⟨T, x3, y3, rfl, hT, rfl, hx, hy⟩ := yy
            obtain ⟨_, rx⟩ := g1 x3 H' ⟨rfl, hx⟩
            obtain ⟨_, ry⟩ := g2 y3 H' ⟨rfl, hy⟩
            exact ⟨.inr ⟨T, _, hT, rfl⟩, new_pair hm' hT rx ry⟩
  · exact hp2.elim
end
end Mir

namespace Mir
open PySem PySem.Spec PyProof.Rows L2

/-! ### list comprehensions -/
abbrev U0 : WX := fun _ _ _ _ => False
def bYes : EX Bool := fun _ m => .ok true m
theorem impTs {X : Cx} {es : List Expr} {t t' : TT} (h : PTs X es t) (i : ∀ σ H Q, t' σ H Q → t σ H Q) : PTs X es t' := ⟨fun pins s σ H Q I hw => h.run pins s σ H Q I (i σ H Q hw)⟩
theorem ts_nil {X : Cx} {U : WX} : PTs X [] (TB X.K U bYes) := impTs pts_nil fun σ H Q ⟨c, s, m, hs, hm, hp⟩ => hp.ok hm
theorem ts_one {X : Cx} {U : WX} {e : Expr} {g : EX Bool} (h : PT X e (TB X.K U g)) : PTs X [e] (TB X.K U g) := pts_one h
def wipeE (s : Ev) : List Nat → Ev
  | [] => s
  | v :: vs => (wipeE s vs).set v none
theorem SRel.wipe {K : PySem.W.Frag} {c : Cfg} {H : Hp} {s : Ev} {σ : L2.St} (h : SRel K c H s σ) : ∀ vs : List Nat, SRel K c H (wipeE s vs) (L2.wipe σ vs)
  | [] => h
  | v :: vs => by
    have ih := SRel.wipe h vs
    refine ⟨by simp [wipeE, L2.wipe, ih.1], fun i w q => ?_⟩
    unfold wipeE at q
    unfold L2.wipe
    by_cases e : v = i
    · subst e
      by_cases hl : v < (wipeE s vs).length
      · rw [List.getElem?_set_self hl] at q; cases q
      · rw [List.getElem?_eq_none (by simpa using hl)] at q; cases q
    · rw [List.getElem?_set_ne e] at q ⊢
      exact ih.2 i w q
/-- the turns: what stands at the source must stay -/
def lcGo (gs : List (Nat × List W)) (t : Tg) (g : EX Bool) (f : EX W) (s : Ev) : List W → Hm → Res (List W)
  | [], m => if gOk m gs = true then .ok [] m else .stuck
  | w :: r, m => if gOk m gs = true then (match t.put w s with
    | none => .stuck
    | some s1 => match g s1 m with
      | .ok b m1 => if b = true then (match f s1 m1 with
          | .ok y m2 => (lcGo gs t g f s r m2).bind fun ys m3 => .ok (y :: ys) m3
          | _ => .stuck) else lcGo gs t g f s r m1
      | _ => .stuck) else .stuck
def lcFin (ws : List W) (m : Hm) : Res W := match allP ws with
  | some ds => .ok (.p (.list ds)) m
  | none => .stuck
def lcFinL (ws : List W) (m : Hm) : Res W := .ok (.loc m.length) (m ++ [.lst ws])
def eLc (fin : List W → Hm → Res W) (src : IX) (t : Tg) (g : EX Bool) (f : EX W) (vs : List Nat) : EX W := fun s m => (src s m).bind fun sc m1 => if decide (sc.items.length ≤ sizeLine) = true then (lcGo sc.gs t g f (wipeE s vs) sc.items m1).bind fin else .stuck
/-- how the new list is taken -/
def FinOk (fin : List W → Hm → Res W) : Prop := ∀ (K : PySem.W.Frag) (U : WX) (σ : L2.St) (c : Cfg) (rho : List Addr) (H1 H : Hp) (m1 m : Hm) (D : Addr) (acc : List V) (ws : List W) (Q : VK), H1 D = none → HRel K c m1 H1 → Ext c H1 ⟨(D, .lst acc) :: c.fb, rho⟩ H →
  HRel K ⟨(D, .lst acc) :: c.fb, rho⟩ m H → RpWs K ⟨(D, .lst acc) :: c.fb, rho⟩ H acc ws → acc.length ≤ sizeLine → Post K U σ c H1 (RQ K Q) (fin ws m) → Q (.ref D) H
section
variable {K : PySem.W.Frag} {c : Cfg} {H H1 : Hp} {m : Hm}
/-- out of reach no more: fewer things are barred -/
theorem Sub.less {fb fb' : List (Addr × HO)} {rho : List Addr} (h : ∀ p ∈ fb', p ∈ fb) : Sub ⟨fb, rho⟩ H ⟨fb', rho⟩ H :=
  ⟨fun _ _ h => h, fun a o e n n2 => ⟨e, fun q => n (by
    obtain ⟨p, hp, rfl⟩ := List.mem_map.mp q
    exact List.mem_map.mpr ⟨p, h p hp, rfl⟩), n2⟩⟩
theorem HRel.less {fb fb' : List (Addr × HO)} {rho : List Addr} (hm : HRel K ⟨fb, rho⟩ m H) (h : ∀ p ∈ fb', p ∈ fb) : HRel K ⟨fb', rho⟩ m H :=
  hm.sub (Sub.less h) rfl (fun _ _ => rfl) (fun p hp => hm.fb p (h p hp)) fun a ha => hm.dj a (by
    obtain ⟨p, hp, rfl⟩ := List.mem_map.mp ha
    exact List.mem_map.mpr ⟨p, h p hp, rfl⟩)
/-- from the beginning to what it has become, without the bar at D -/
theorem Ext.drop {D : Addr} {o : HO} {rho : List Addr} (e : Ext c H1 ⟨(D, o) :: c.fb, rho⟩ H) : Ext c H1 ⟨c.fb, rho⟩ H := ⟨⟨[], rfl, fun _ h => nomatch h⟩, e.rho, e.keep, e.live⟩
end
theorem lcFin_ok : FinOk lcFin := by
  intro K U σ c rho H1 H m1 m D acc ws Q hD h1 e hm r z hp
  unfold lcFin at hp
  split at hp
  · rename_i ds ed
    have hm' := hm.less (fb' := c.fb) fun p hp => List.mem_cons_of_mem _ hp
    exact hp ⟨c.fb, rho⟩ H e.drop hm' _ (.p (.lst (hm.fb _ List.mem_cons_self) (h1.free hD).1 (hm.dj D (by simp)) z (allP_rp (r.sub (Sub.less fun p hp => List.mem_cons_of_mem _ hp)) ed)))
  · exact hp.elim
theorem lcFinL_ok : FinOk lcFinL := by
  intro K U σ c rho H1 H m1 m D acc ws Q hD h1 e hm r z hp
  have hDs : H D = some (.lst acc) := hm.fb _ List.mem_cons_self
  have hDr : D ∉ rho := hm.dj D (by simp)
  have sb : Sub ⟨(D, .lst acc) :: c.fb, rho⟩ H ⟨c.fb, rho ++ [D]⟩ H := by
    refine ⟨fun n a h => ?_, fun a o h n n2 => ⟨h, fun q => n (by simp at q ⊢; exact .inr q), fun q => ?_⟩⟩
    · show (rho ++ [D])[n]? = some a
      rw [List.getElem?_append_left (List.getElem?_eq_some_iff.mp h).1]
      exact h
    · rcases List.mem_append.mp q with q | q
      · exact n2 q
      · simp at q; subst q; exact n (by simp)
  have hl : rho.length = m.length := hm.len
  have hm' : HRel K ⟨c.fb, rho ++ [D]⟩ (m ++ [.lst ws]) H := by
    refine ⟨by simp [hl], ?_, fun p hp => hm.fb p (List.mem_cons_of_mem _ hp), fun a ha q => ?_, fun n y hy => ?_⟩
    · rw [List.nodup_append]
      exact ⟨hm.nd, by simp, fun a ha b hb => by simp at hb; subst hb; intro q; subst q; exact hDr ha⟩
    · rcases List.mem_append.mp q with q | q
      · exact hm.dj a (by simp at ha ⊢; exact .inr ha) q
      · simp at q; subst q; exact (h1.free hD).1 ha
    · by_cases hn : n < m.length
      · rw [List.getElem?_append_left hn] at hy
        obtain ⟨a, ha, ok⟩ := hm.at_ n y hy
        exact ⟨a, sb.at_ _ _ ha, ok.sub sb rfl⟩
      · rw [List.getElem?_append_right (by omega)] at hy
        have e0 : n - m.length = 0 := by
          cases q : n - m.length with
          | zero => rfl
          | succ k => rw [q] at hy; simp at hy
        rw [e0] at hy
        simp at hy
        subst hy
        have hn' : n = rho.length := by omega
        exact ⟨D, by subst hn'; simp, acc, hDs, z, r.sub sb⟩
  obtain ⟨l, hl2, hn⟩ := e.rho
  have hl2 : rho = c.rho ++ l := hl2
  refine hp ⟨c.fb, rho ++ [D]⟩ H ⟨⟨[], rfl, fun _ h => nomatch h⟩, ⟨l ++ [D], by rw [hl2]; simp, fun a ha => ?_⟩, e.keep, e.live⟩ hm' _ (.loc ?_)
  · rcases List.mem_append.mp ha with q | q
    · exact hn a q
    · simp at q; subst q; exact hD
  · rw [← hl]; simp
theorem yld_ext {K : PySem.W.Frag} {c : Cfg} {H H' : Hp} {m : Hm} (hm : HRel K c m H) (h : H' = H ∨ ∃ p o, H p = none ∧ H' = upd H p o) : Ext c H c H' ∧ HRel K c m H' := by
  rcases h with rfl | ⟨p, o, hp, rfl⟩
  · exact ⟨.refl, hm⟩
  · exact ⟨.new hp, hm.new hp⟩
/-- the list at D has one more -/
theorem lc_put {K : PySem.W.Frag} {c c4 : Cfg} {rho : List Addr} {H1 H H4 : Hp} {m4 : Hm} {D : Addr} {acc : List V} {ws : List W} {y : V} {w : W} {m1 : Hm} (h1 : HRel K c m1 H1) (hD : H1 D = none) (e : Ext c H1 ⟨(D, .lst acc) :: c.fb, rho⟩ H) (e4 : Ext ⟨(D, .lst acc) :: c.fb, rho⟩ H c4 H4)
    (hm4 : HRel K c4 m4 H4) (r : RpWs K ⟨(D, .lst acc) :: c.fb, rho⟩ H acc ws) (ry : RpW K c4 H4 y w) :
    H4 D = some (.lst acc) ∧ Ext c H1 ⟨(D, .lst (acc ++ [y])) :: c.fb, c4.rho⟩ (upd H4 D (.lst (acc ++ [y]))) ∧ HRel K ⟨(D, .lst (acc ++ [y])) :: c.fb, c4.rho⟩ m4 (upd H4 D (.lst (acc ++ [y]))) ∧
      RpWs K ⟨(D, .lst (acc ++ [y])) :: c.fb, c4.rho⟩ (upd H4 D (.lst (acc ++ [y]))) (acc ++ [y]) (ws ++ [w]) := by
  have sub : ∀ p ∈ (D, HO.lst acc) :: c.fb, p ∈ c4.fb := e4.sub_fb
  have hDs : H4 D = some (.lst acc) := hm4.fb _ (sub _ List.mem_cons_self)
  have hDf : D ∈ c4.fa := List.mem_map.mpr ⟨_, sub _ List.mem_cons_self, rfl⟩
  have hfa : ∀ a ∈ (D :: c.fa), a ∈ c4.fa := fun a ha => by
    rcases List.mem_cons.mp ha with rfl | ha
    · exact hDf
    · obtain ⟨p, hp, rfl⟩ := List.mem_map.mp ha
      exact List.mem_map.mpr ⟨p, sub p (List.mem_cons_of_mem _ hp), rfl⟩
  have sb : Sub c4 H4 ⟨(D, .lst (acc ++ [y])) :: c.fb, c4.rho⟩ (upd H4 D (.lst (acc ++ [y]))) := by
    refine ⟨fun _ _ h => h, fun a o h n n2 => ⟨?_, fun q => n (hfa a q), n2⟩⟩
    rw [upd_ne fun q => n (by rw [q]; exact hDf)]
    exact h
  have ne : ∀ p ∈ c.fb, p.1 ≠ D := fun p hp q => by
    have := h1.fb p hp
    rw [q, hD] at this; cases this
  refine ⟨hDs, ⟨⟨[(D, .lst (acc ++ [y]))], rfl, fun p hp => by simp at hp; subst hp; exact hD⟩, (e.trans e4).rho, fun a o h n n2 => ?_, fun a h => ?_⟩, ?_, ?_⟩
  · rw [upd_ne (ne_of_none h hD)]
    exact (e.trans e4).keep a o h n n2
  · by_cases q : a = D
    · subst q; exact hD
    · rw [upd_ne q] at h; exact (e.trans e4).live a h
  · refine hm4.sub sb rfl (fun a ha => upd_ne fun q => hm4.dj D hDf (by rw [← q]; exact ha)) (fun p hp => ?_) fun a ha => hm4.dj a (hfa a ha)
    rcases List.mem_cons.mp hp with rfl | hp
    · exact upd_same
    · rw [upd_ne (ne p hp)]
      exact hm4.fb p (sub p (List.mem_cons_of_mem _ hp))
  · exact ((r.mono e4).append (.cons ry .nil)).sub sb
theorem Res.bind_assoc {α β γ : Type} {r : Res α} {k : α → Hm → Res β} {l : β → Hm → Res γ} : (r.bind k).bind l = r.bind fun a m => (k a m).bind l := by cases r <;> rfl
theorem wipe_get {σ : L2.St} {i : Nat} : ∀ {vs : List Nat}, i ∈ vs → i < σ.length → (wipe σ vs)[i]? = some none
  | [], h, _ => by simp at h
  | v :: vs, h, hl => by
    unfold wipe
    by_cases e : v = i
    · subst e
      rw [List.getElem?_set_self (by rw [wipe_length]; exact hl)]
    · rw [List.getElem?_set_ne e]
      exact wipe_get ((List.mem_cons.mp h).resolve_left fun q => e q.symm) hl
theorem wipe_wipe (σ : L2.St) (vs : List Nat) : wipe (wipe σ vs) vs = wipe σ vs := by
  apply List.ext_getElem?
  intro i
  by_cases h : i ∈ vs
  · by_cases hl : i < σ.length
    · rw [wipe_get h (by rw [wipe_length]; exact hl), wipe_get h hl]
    · rw [List.getElem?_eq_none (by rw [wipe_length, wipe_length]; omega), List.getElem?_eq_none (by rw [wipe_length]; omega)]
  · rw [wipe_out h]
theorem lc_same {K : PySem.W.Frag} {c c4 : Cfg} {rho : List Addr} {H1 H H4 : Hp} {m4 m1 : Hm} {D : Addr} {acc : List V} {ws : List W} (hD : H1 D = none) (e : Ext c H1 ⟨(D, .lst acc) :: c.fb, rho⟩ H) (e4 : Ext ⟨(D, .lst acc) :: c.fb, rho⟩ H c4 H4)
    (hm4 : HRel K c4 m4 H4) (r : RpWs K ⟨(D, .lst acc) :: c.fb, rho⟩ H acc ws) :
    Ext c H1 ⟨(D, .lst acc) :: c.fb, c4.rho⟩ H4 ∧ HRel K ⟨(D, .lst acc) :: c.fb, c4.rho⟩ m4 H4 ∧ RpWs K ⟨(D, .lst acc) :: c.fb, c4.rho⟩ H4 acc ws := by
  have sub : ∀ p ∈ (D, HO.lst acc) :: c.fb, p ∈ c4.fb := e4.sub_fb
  exact ⟨⟨⟨[(D, .lst acc)], rfl, fun p hp => by simp at hp; subst hp; exact hD⟩, (e.trans e4).rho, (e.trans e4).keep, (e.trans e4).live⟩, HRel.less (fb := c4.fb) hm4 sub, (r.mono e4).sub (Sub.less (fb := c4.fb) sub)⟩
theorem lc_imp {K : PySem.W.Frag} {U : WX} {src : IX} {t : Tg} {g : EX Bool} {f : EX W} {fin : List W → Hm → Res W} {vs : List Nat} (ok : FinOk fin) (hv : t.inn vs = true) {σ : L2.St} {H : Hp} {Q : VK}
    (h : T K U (eLc fin src t g f vs) σ H Q) : tLc (TI' K U src) (TG' K t) (TB K U0 g) (T K U0 f) vs σ H Q := by
  obtain ⟨c, s, m, hs, hm, hp⟩ := h
  unfold eLc at hp
  refine TI'.run hs hm hp fun c1 H1 sc m1 J e1 hs1 hm1 hJ hp1 => ?_
  by_cases hz : decide (sc.items.length ≤ sizeLine) = true
  case neg => rw [if_neg hz] at hp1; exact hp1.elim
  rw [if_pos hz] at hp1
  have hz := of_decide_eq_true hz
  intro D hD
  have fr := hm1.free hD
  have sb0 : Sub c1 H1 ⟨(D, .lst []) :: c1.fb, c1.rho⟩ (upd H1 D (.lst [])) := ⟨fun _ _ h => h, fun a o h n n2 => by
    have ne : a ≠ D := ne_of_none h hD
    refine ⟨by rw [upd_ne ne]; exact h, fun q => ?_, n2⟩
    have q : a ∈ D :: c1.fa := q
    rcases List.mem_cons.mp q with q | q
    · exact ne q
    · exact n q⟩
  refine ⟨fun i me H => i ≤ sc.items.length ∧ me = sc.items.length - i ∧ ∃ rho m' ws acc, Ext c1 H1 ⟨(D, .lst acc) :: c1.fb, rho⟩ H ∧ HRel K ⟨(D, .lst acc) :: c1.fb, rho⟩ m' H ∧ RpWs K ⟨(D, .lst acc) :: c1.fb, rho⟩ H acc ws ∧ acc.length ≤ i ∧
    Post K U σ c1 H1 (RQ K Q) ((lcGo sc.gs t g f (wipeE s vs) (sc.items.drop i) m').bind fun r m2 => fin (ws ++ r) m2), ⟨sc.items.length, Nat.zero_le _, by simp, c1.rho, m1, [], [], ?_, ?_, .nil, Nat.le_refl _, by simpa using hp1⟩, ?_⟩
  · exact ⟨⟨[(D, .lst [])], rfl, fun p hp => by simp at hp; subst hp; exact hD⟩, ⟨[], by simp, fun _ h => nomatch h⟩, (Ext.new (c := c1) hD).keep, (Ext.new (c := c1) hD).live⟩
  · refine hm1.sub sb0 rfl (fun a ha => upd_ne fun q => fr.2 (by rw [← q]; exact ha)) (fun p hp => ?_) fun a ha => ?_
    · rcases List.mem_cons.mp hp with rfl | hp
      · exact upd_same
      · exact (hm1.new (o := .lst []) hD).fb p hp
    · have ha : a ∈ D :: c1.fa := ha
      rcases List.mem_cons.mp ha with rfl | ha
      · exact fr.2
      · exact hm1.dj a ha
  · rintro i me H ⟨hi, rfl, rho, m', ws, acc, e, hm', r, hl, hp'⟩
    by_cases hi2 : i < sc.items.length
    case neg =>
      have hi3 : sc.items.length ≤ i := by omega
      rw [List.drop_eq_nil_of_le hi3] at hp'
      unfold lcGo at hp'
      split at hp'
      · rename_i hg
        simp only [bind_ok, List.append_nil] at hp'
        exact .inl ⟨(hJ _ H m' e hm' hg i).1 (by omega), ok K U σ c1 rho H1 H m1 m' D acc ws Q hD hm1 e hm' r (by omega) hp'⟩
      · exact hp'.elim
    case pos =>
      rw [List.drop_eq_getElem_cons hi2] at hp'
      unfold lcGo at hp'
      by_cases hg : gOk m' sc.gs = true
      case neg => rw [if_neg hg] at hp'; exact hp'.elim
      rw [if_pos hg] at hp'
      have hw := List.getElem?_eq_getElem hi2
      obtain ⟨go, yl⟩ := (hJ _ H m' e hm' hg i).2 _ hw
      split at hp'
      · exact hp'.elim
      rename_i s1 es1
      refine .inr ⟨go, fun H' => ∃ rho m' ws acc, Ext c1 H1 ⟨(D, .lst acc) :: c1.fb, rho⟩ H' ∧ HRel K ⟨(D, .lst acc) :: c1.fb, rho⟩ m' H' ∧ RpWs K ⟨(D, .lst acc) :: c1.fb, rho⟩ H' acc ws ∧ acc.length ≤ i + 1 ∧
        Post K U σ c1 H1 (RQ K Q) ((lcGo sc.gs t g f (wipeE s vs) (sc.items.drop (i + 1)) m').bind fun r m2 => fin (ws ++ r) m2), fun H' q => ⟨_, by omega, by omega, rfl, q⟩, fun x H' y => ?_⟩
      obtain ⟨yy, rx⟩ := yl x H' y
      obtain ⟨ey, hmy⟩ := yld_ext hm' yy
      have e2 := e.trans ey
      refine ⟨_, wipeE s vs, _, s1, ((hs1.mono e2).wipe vs), rx, es1, fun σ2 hs2 hwp => ⟨?_, ?_⟩⟩
      · have := hwp vs hv
        rw [this]
        exact wipe_wipe σ vs
      · refine ⟨_, s1, m', hs2, hmy, ?_⟩
        cases eg : g s1 m' with
        | stuck => rw [eg] at hp'; exact hp'.elim
        | exc x m2 => rw [eg] at hp'; exact hp'.elim
        | ok b m2 =>
          rw [eg] at hp'
          intro c3 H3 e3 hm3
          cases b with
          | false =>
            simp only [Bool.false_eq_true, if_false] at hp' ⊢
            obtain ⟨p2, p3, p4⟩ := lc_same (m1 := m1) hD e2 e3 hm3 (r.mono ey)
            exact ⟨c3.rho, m2, ws, acc, p2, p3, p4, by omega, hp'⟩
          | true =>
            simp only [if_true] at hp' ⊢
            refine ⟨c3, s1, m2, hs2.mono e3, hm3, ?_⟩
            cases ef : f s1 m2 with
            | stuck => rw [ef] at hp'; exact hp'.elim
            | exc x m3 => rw [ef] at hp'; exact hp'.elim
            | ok w m3 =>
              rw [ef] at hp'
              intro c4 H4 e4 hm4 v rv
              obtain ⟨p1, p2, p3, p4⟩ := lc_put hm1 hD e2 (e3.trans e4) hm4 (r.mono ey) rv
              refine ⟨acc, p1, by omega, c4.rho, m3, ws ++ [w], acc ++ [v], p2, p3, p4, by simp; omega, ?_⟩
              have hp' : Post K U σ c1 H1 (RQ K Q) (((lcGo sc.gs t g f (wipeE s vs) (List.drop (i + 1) sc.items) m3).bind fun ys m3 => Res.ok (w :: ys) m3).bind fun r m2 => fin (ws ++ r) m2) := hp'
              rw [Res.bind_assoc] at hp'
              simpa [List.append_assoc] using hp'
section
variable {X : Cx} {elt tg iter : Expr} {ifs : List Expr} {scope : Scope} {own : List (Str × Nat)} {pos spos py : Pos} {src : IX} {t : Tg} {g : EX Bool} {f : EX W} {fin : List W → Hm → Res W} {U : WX}
theorem x_lc (ok : FinOk fin) (hv : t.inn (own.map (·.2)) = true) (hc : X.calm = true) (hN : X.N.Nodup) (hi : PI X tg iter (TI' X.K U src)) (bo : BlkOk X.N X.env.scope scope own)
    (hg : ∀ (s : Shared) (H : Hp) (C : Addr) (cl : List (Str × Addr)) (fp : List Addr), PG (X.blk s H scope (compEnvC scope cl C X.env) fp) tg (TG' X.K t)) (ht : ∀ (s : Shared) (H : Hp) (C : Addr) (cl : List (Str × Addr)) (fp : List Addr), PTs (X.blk s H scope (compEnvC scope cl C X.env) fp) ifs (TB X.K U0 g))
    (he : ∀ (s : Shared) (H : Hp) (C : Addr) (cl : List (Str × Addr)) (fp : List Addr), PE (X.blk s H scope (compEnvC scope cl C X.env) fp) elt (T X.K U0 f)) (hs : ∀ x, foldedSetIterable iter X.env x = pure x := by intro _; rfl) :
    PE X (.ListComp elt [⟨tg, iter, ifs, 0⟩] scope pos) (T X.K U (eLc fin src t g f (own.map (·.2)))) :=
  imp (pe_lc hc hN hi bo hg ht he hs) fun _ _ _ h => lc_imp ok hv h
end
end Mir

namespace Mir
open PySem PySem.Spec PyProof.Rows L2

/-! ### statements -/
inductive Out where
  | nx (s : Ev)
  | rt (w : W)
  | bk (s : Ev)
  | ct (s : Ev)
  | ex (x : Exn) (s : Ev)
abbrev SR := Option (Out × Hm)
abbrev SX := Ev → Hm → SR
def Res.st {α : Type} (r : Res α) (s : Ev) (k : α → Hm → SR) : SR := match r with
  | .stuck => none
  | .ok a m => k a m
  | .exc x m => some (.ex x s, m)
@[simp] theorem st_stuck {α : Type} {s : Ev} {k : α → Hm → SR} : (Res.stuck : Res α).st s k = none := rfl
@[simp] theorem st_ok {α : Type} {a : α} {m : Hm} {s : Ev} {k : α → Hm → SR} : (Res.ok a m).st s k = k a m := rfl
@[simp] theorem st_exc {α : Type} {x : Exn} {m : Hm} {s : Ev} {k : α → Hm → SR} : (Res.exc x m : Res α).st s k = some (.ex x s, m) := rfl
def PostO (K : PySem.W.Frag) (U : WX) (D : Ends) (c : Cfg) (H : Hp) (o : Out) : Prop := match o with
  | .nx s => ∀ σ, SRel K c H s σ → D.nx σ H
  | .rt w => ∀ v, RpW K c H v w → D.rt v H
  | .bk s => ∀ σ, SRel K c H s σ → D.bk σ H
  | .ct s => ∀ σ, SRel K c H s σ → D.ct σ H
  | .ex x s => ∀ σ cls dx, SRel K c H s σ → XRel K c H x cls dx → U cls dx σ H
def PostS (K : PySem.W.Frag) (U : WX) (D : Ends) (c : Cfg) (H : Hp) : SR → Prop
  | none => False
  | some (o, m') => ∀ c' H', Ext c H c' H' → HRel K c' m' H' → PostO K U D c' H' o
def TSt (K : PySem.W.Frag) (U : WX) (f : SX) : TS := fun D σ H => ∃ c s m, SRel K c H s σ ∧ HRel K c m H ∧ PostS K U D c H (f s m)
section
variable {K : PySem.W.Frag} {U : WX} {σ : L2.St} {c c1 : Cfg} {H H1 : Hp} {m : Hm} {s : Ev} {D : Ends}
theorem PostS.ext {r : SR} (e : Ext c H c1 H1) (h : PostS K U D c H r) : PostS K U D c1 H1 r := by
  cases r with
  | none => exact h
  | some p => exact fun c' H' e' hm => h c' H' (e.trans e') hm
theorem PostS.ok {o : Out} (h : PostS K U D c H (some (o, m))) (hm : HRel K c m H) : PostO K U D c H o := h c H Ext.refl hm
theorem Post.st {α : Type} {r : Res α} {k : α → Hm → SR} {R : Cfg → Hp → α → Hm → Prop} (hs : SRel K c H s σ) (hp : PostS K U D c H (r.st s k))
    (h : ∀ c1 H1 a m1, Ext c H c1 H1 → SRel K c1 H1 s σ → HRel K c1 m1 H1 → PostS K U D c1 H1 (k a m1) → R c1 H1 a m1) : Post K U σ c H R r := by
  cases r with
  | stuck => exact hp
  | ok a m' => exact fun c' H' e' hm' => h c' H' a m' e' (hs.mono e') hm' (hp.ext e')
  | exc x m' => exact fun c' H' cls dx e' hm' xr => hp c' H' e' hm' σ cls dx (hs.mono e') xr
end
section
variable {X : Cx} {st : Stmt} {rest : List Stmt} {f g : SX} {e : Expr} {pos : Pos} {U : WX}
def sSkip : SX := fun s m => some (.nx s, m)
theorem ss_nil : PSs X [] (TSt X.K U sSkip) := impSs pss_nil fun D σ H ⟨c, s, m, hs, hm, hp⟩ => hp.ok hm σ hs
theorem s_pass : PS X (.Pass pos) (TSt X.K U sSkip) := impS ps_pass fun D σ H ⟨c, s, m, hs, hm, hp⟩ => hp.ok hm σ hs
def sSeq (f g : SX) : SX := fun s m => match f s m with
  | some (.nx s1, m1) => g s1 m1
  | r => r
theorem seq_imp {K : PySem.W.Frag} {D : Ends} {σ : L2.St} {H : Hp} (h : TSt K U (sSeq f g) D σ H) : tSeq (TSt K U f) (TSt K U g) D σ H := by
  obtain ⟨c, s, m, hs, hm, hp⟩ := h
  refine ⟨c, s, m, hs, hm, ?_⟩
  unfold sSeq at hp
  cases e : f s m with
  | none => rw [e] at hp; exact hp
  | some p =>
    obtain ⟨o, m'⟩ := p
    rw [e] at hp
    cases o with
    | nx s1 => exact fun c' H' e' hm' σ1 hs1 => ⟨c', s1, m', hs1, hm', hp.ext e'⟩
    | rt w => exact hp
    | bk s => exact hp
    | ct s => exact hp
    | ex x s => exact hp
theorem ss_cons (h1 : PS X st (TSt X.K U f)) (h2 : PSs X rest (TSt X.K U g)) : PSs X (st :: rest) (TSt X.K U (sSeq f g)) := impSs (pss_cons h1 h2) fun _ _ _ h => seq_imp h
theorem ss_one (h1 : PS X st (TSt X.K U f)) : PSs X [st] (TSt X.K U f) := pss_one h1
def sBreak : SX := fun s m => some (.bk s, m)
def sCont : SX := fun s m => some (.ct s, m)
theorem s_break : PS X (.Break pos) (TSt X.K U sBreak) := impS ps_break fun D σ H ⟨c, s, m, hs, hm, hp⟩ => hp.ok hm σ hs
theorem s_continue : PS X (.Continue pos) (TSt X.K U sCont) := impS ps_continue fun D σ H ⟨c, s, m, hs, hm, hp⟩ => hp.ok hm σ hs
theorem s_doc {x j pos pos'} : PS X (.Expr (.Constant (.str x) j pos) pos') (TSt X.K U sSkip) := impS ps_doc fun D σ H ⟨c, s, m, hs, hm, hp⟩ => hp.ok hm σ hs
/-- code that is not reached -/
def sNever : SX := fun _ _ => none
theorem s_never : PS X st (TSt X.K U sNever) := impS ps_never fun D σ H ⟨c, s, m, hs, hm, hp⟩ => hp
theorem ss_never {sts : List Stmt} : PSs X sts (TSt X.K U sNever) := impSs pss_never fun D σ H ⟨c, s, m, hs, hm, hp⟩ => hp
def sExpr (f : EX W) : SX := fun s m => (f s m).st s fun _ m1 => some (.nx s, m1)
theorem s_expr {f : EX W} (he : PE X e (T X.K U f)) (hs : swapsWith e none pos.line X.env = pure false := by rfl) : PS X (.Expr e pos) (TSt X.K U (sExpr f)) := by
  refine impS (ps_expr he hs) ?_
  rintro D σ H ⟨c, s, m, hs, hm, hp⟩
  exact ⟨c, s, m, hs, hm, Post.st hs hp fun c1 H1 a m1 e1 hs1 hm1 hp1 v rv => hp1.ok hm1 σ hs1⟩
def sRet (f : EX W) : SX := fun s m => (f s m).st s fun w m1 => some (.rt w, m1)
theorem s_ret {f : EX W} (he : PE X e (T X.K U f)) : PS X (.Return (some e) pos) (TSt X.K U (sRet f)) := by
  refine impS (ps_ret he) ?_
  rintro D σ H ⟨c, s, m, hs, hm, hp⟩
  exact ⟨c, s, m, hs, hm, Post.st hs hp fun c1 H1 a m1 e1 hs1 hm1 hp1 v rv => hp1.ok hm1 v rv⟩
def sRetN : SX := fun s m => some (.rt (.p .none), m)
theorem s_retN : PS X (.Return none pos) (TSt X.K U sRetN) := impS ps_retN fun D σ H ⟨c, s, m, hs, hm, hp⟩ => hp.ok hm .non (.p .non)
def sIf (b : EX Bool) (f g : SX) : SX := fun s m => (b s m).st s fun k m1 => if k = true then f s m1 else g s m1
theorem s_if {c : Expr} {a b : List Stmt} {t : EX Bool} (hc : PT X c (TB X.K U t)) (ha : PSs X a (TSt X.K U f)) (hb : PSs X b (TSt X.K U g)) : PS X (.If c a b pos) (TSt X.K U (sIf t f g)) := by
  refine impS (ps_if hc ha hb) ?_
  rintro D σ H ⟨c, s, m, hs, hm, hp⟩
  refine ⟨c, s, m, hs, hm, Post.st hs hp fun c1 H1 a m1 e1 hs1 hm1 hp1 => ?_⟩
  cases a with
  | true => exact ⟨c1, s, m1, hs1, hm1, hp1⟩
  | false => exact ⟨c1, s, m1, hs1, hm1, hp1⟩
def sSet (i : Nat) (f : EX W) : SX := fun s m => (f s m).st s fun w m1 => some (.nx (s.set i (some w)), m1)
theorem asg_imp {K : PySem.W.Frag} {f : EX W} {i : Nat} {D : Ends} {σ : L2.St} {H : Hp} (h : TSt K U (sSet i f) D σ H) : tAsg (T K U f) (gName i) D σ H := by
  obtain ⟨c, s, m, hs, hm, hp⟩ := h
  exact ⟨c, s, m, hs, hm, Post.st hs hp fun c1 H1 a m1 e1 hs1 hm1 hp1 v rv => hp1.ok hm1 _ (hs1.set rv)⟩
theorem s_set {i : Nat} {x : Str} {f : EX W} {pos' : Pos} (hN : X.N.Nodup) (hi : X.N[i]? = some x) (hx : Loc X.env.scope x) (he : PE X e (T X.K U f)) (hs : swapsWith e (some (.Name x pos')) pos.line X.env = pure false := by rfl) (hf : X.fn x = true ∨ X.env.scope.names.lookup x = some .local := by first | exact .inl rfl | exact .inr rfl | assumption) :
    PS X (.Assign [.Name x pos'] e pos) (TSt X.K U (sSet i f)) := impS (ps_set hN hi hx he hs hf) fun _ _ _ h => asg_imp h
/-- name = [..] with the name a local -/
theorem s_setLc {i : Nat} {y : Str} {py : Pos} {elt tg iter : Expr} {ifs : List Expr} {scope : Scope} {own : List (Str × Nat)} {pos spos : Pos} {src : IX} {t : Tg} {g : EX Bool} {f : EX W} {fin : List W → Hm → Res W} (ok : FinOk fin) (hv : t.inn (own.map (·.2)) = true) (hc : X.calm = true) (hN : X.N.Nodup) (hy : X.N[i]? = some y) (hyl : X.env.scope.names.lookup y = some .local)
    (hsw : swapsWith (.ListComp elt [⟨tg, iter, ifs, 0⟩] scope pos) (some (.Name y py)) spos.line X.env = pure true) (hi : PI X tg iter (TI' X.K U src)) (bo : BlkOk X.N X.env.scope scope own)
    (hg : ∀ (s : Shared) (H : Hp) (C : Addr) (cl : List (Str × Addr)) (fp : List Addr), PG (X.blk s H scope (compEnvC scope cl C X.env) fp) tg (TG' X.K t)) (ht : ∀ (s : Shared) (H : Hp) (C : Addr) (cl : List (Str × Addr)) (fp : List Addr), PTs (X.blk s H scope (compEnvC scope cl C X.env) fp) ifs (TB X.K U0 g))
    (he : ∀ (s : Shared) (H : Hp) (C : Addr) (cl : List (Str × Addr)) (fp : List Addr), PE (X.blk s H scope (compEnvC scope cl C X.env) fp) elt (T X.K U0 f)) (hs : ∀ x, foldedSetIterable iter X.env x = pure x := by intro _; rfl) :
    PS X (.Assign [.Name y py] (.ListComp elt [⟨tg, iter, ifs, 0⟩] scope pos) spos) (TSt X.K U (sSet i (eLc fin src t g f (own.map (·.2))))) := by
  refine impS (ps_setLc hc hN hy hyl hsw hi bo hg ht he hs) fun D σ H h => ?_
  obtain ⟨c, s, m, hs, hm, hp⟩ := h
  exact lc_imp ok hv ⟨c, s, m, hs, hm, Post.st hs hp fun c1 H1 a m1 e1 hs1 hm1 hp1 v rv => hp1.ok hm1 _ (hs1.set rv)⟩
/-- names = value -/
def sPut (t : Tg) (f : EX W) : SX := fun s m => (f s m).st s fun w m1 => match t.put w s with
  | some s1 => some (.nx s1, m1)
  | none => none
theorem s_put {tg : Expr} {t : Tg} {f : EX W} (he : PE X e (T X.K U f)) (hg : PG X tg (TG' X.K t)) (hs : swapsWithSole [tg] e pos.line X.env = pure false := by rfl) (hw : swappedStores [tg] e X.env = pure none := by rfl)
    (h1 : (assignEach [tg] X.env).map (·.2) = [assign tg X.env] := by rfl) : PS X (.Assign [tg] e pos) (TSt X.K U (sPut t f)) := by
  refine impS (ps_asg he hg hs hw h1) fun D σ H h => ?_
  obtain ⟨c, s, m, hs, hm, hp⟩ := h
  refine ⟨c, s, m, hs, hm, Post.st hs hp fun c1 H1 a m1 e1 hs1 hm1 hp1 v rv => ?_⟩
  split at hp1
  · rename_i s1 e1
    exact ⟨c1, s, a, s1, hs1, rv, e1, fun σ' hs' _ => hp1.ok hm1 σ' hs'⟩
  · exact hp1.elim
/-- o[i] = value, a list's place -/
def setIx (o i w : W) (m : Hm) : Option Hm := match o, i with
  | .loc n, .p (.int i) => match m[n]? with
    | some (.lst ws) => (match ixN ws.length i with
      | some k => some (m.set n (.lst (ws.set k w)))
      | none => none)
    | _ => none
  | _, _ => none
def sSetIx (fo fi f : EX W) : SX := fun s m => (f s m).st s fun w m1 => (fo s m1).st s fun o m2 => (fi s m2).st s fun i m3 => match setIx o i w m3 with
  | some m4 => some (.nx s, m4)
  | none => none
theorem g_subL {o i : Expr} {fo fi : EX W} (ho : PE X o (T X.K U fo)) (hi : PE X i (T X.K U fi))
    (ha : ∀ v, assign (.Subscript o i pos) X.env v = (do
      let ov ← holding [v] (eval o X.env)
      let iv ← holding [v, ov] (eval i X.env)
      standAt pos
      holding [v, ov, iv] (setItem ov iv v)
      release [v, ov, iv] []) := by intro _; rfl) : PG X (.Subscript o i pos) (gSub (T X.K U fo) (T X.K U fi) rSetL) := pg_sub ho hi set_list ha
theorem s_setIx {o i : Expr} {pos' : Pos} {fo fi f : EX W} (he : PE X e (T X.K U f)) (ho : PE X o (T X.K U fo)) (hi : PE X i (T X.K U fi))
    (ha : ∀ v, assign (.Subscript o i pos') X.env v = (do
      let ov ← holding [v] (eval o X.env)
      let iv ← holding [v, ov] (eval i X.env)
      standAt pos'
      holding [v, ov, iv] (setItem ov iv v)
      release [v, ov, iv] []) := by intro _; rfl)
    (hs : swapsWithSole [.Subscript o i pos'] e pos.line X.env = pure false := by rfl) (hw : swappedStores [.Subscript o i pos'] e X.env = pure none := by rfl)
    (h1 : (assignEach [.Subscript o i pos'] X.env).map (·.2) = [assign (.Subscript o i pos') X.env] := by rfl) : PS X (.Assign [.Subscript o i pos'] e pos) (TSt X.K U (sSetIx fo fi f)) := by
  refine impS (ps_asg he (g_subL ho hi ha) hs hw h1) fun D σ H h => ?_
  obtain ⟨c, s, m, hs, hm, hp⟩ := h
  refine ⟨c, s, m, hs, hm, Post.st hs hp fun c1 H1 w m1 e1 hs1 hm1 hp1 v rv => ?_⟩
  refine ⟨c1, s, m1, hs1, hm1, Post.st hs1 hp1 fun c2 H2 o m2 e2 hs2 hm2 hp2 ov ro => ?_⟩
  refine ⟨c2, s, m2, hs2, hm2, Post.st hs2 hp2 fun c3 H3 i m3 e3 hs3 hm3 hp3 iv ri => ?_⟩
  have rv := (rv.mono e2).mono e3
  have ro := ro.mono e3
  split at hp3
  · rename_i m4 e4
    unfold setIx at e4
    split at e4
    · rename_i n k
      split at e4
      · rename_i ws q
        split at e4
        · rename_i j ej
          cases e4
          cases ro with | loc h =>
          cases ri with | p ri =>
          cases ri
          obtain ⟨xs, hx, z, rr⟩ := hm3.lst h q
          have ex : Ext c3 H3 c3 (upd H3 _ (.lst (xs.set j v))) := Ext.write h
          refine ⟨_, xs, _, j, rfl, rfl, hx, by rw [rr.length]; exact ej, ?_⟩
          exact hp3 c3 _ ex (hm3.write h ⟨_, upd_same, by simpa using z, (rr.set j rv).mono ex⟩) σ (hs3.mono ex)
        · cases e4
      · cases e4
    · cases e4
  · exact hp3.elim

/-! ### loops -/
def forGo (gs : List (Nat × List W)) (t : Tg) (body : SX) : List W → SX
  | [], s, m => if gOk m gs = true then some (.nx s, m) else none
  | w :: r, s, m => if gOk m gs = true then (match t.put w s with
    | none => none
    | some s1 => match body s1 m with
      | some (.nx s2, m2) => forGo gs t body r s2 m2
      | some (.ct s2, m2) => forGo gs t body r s2 m2
      | some (.bk s2, m2) => some (.nx s2, m2)
      | o => o) else none
def sFor (src : IX) (t : Tg) (body : SX) : SX := fun s m => (src s m).st s fun sc m1 => forGo sc.gs t body sc.items s m1
theorem for_imp {K : PySem.W.Frag} {src : IX} {t : Tg} {body : SX} {D : Ends} {σ : L2.St} {H : Hp} (h : TSt K U (sFor src t body) D σ H) : tFor (TI' K U src) (TG' K t) (TSt K U body) D σ H := by
  obtain ⟨c, s, m, hs, hm, hp⟩ := h
  refine ⟨c, s, m, hs, hm, Post.st hs hp fun c1 H1 sc m1 e1 hs1 hm1 hp1 J hJ => ?_⟩
  refine ⟨fun i me σ H => i ≤ sc.items.length ∧ me = sc.items.length - i ∧ ∃ c s m, Ext c1 H1 c H ∧ SRel K c H s σ ∧ HRel K c m H ∧ PostS K U D c H (forGo sc.gs t body (sc.items.drop i) s m), ⟨sc.items.length, Nat.zero_le _, by simp, c1, s, m1, .refl, hs1, hm1, by simpa using hp1⟩, ?_⟩
  rintro i me σ H ⟨hi, rfl, c, s, m, e, hs, hm, hp⟩
  by_cases hi2 : i < sc.items.length
  case neg =>
    have hi3 : sc.items.length ≤ i := by omega
    rw [List.drop_eq_nil_of_le hi3] at hp
    unfold forGo at hp
    by_cases hg : gOk m sc.gs = true
    case neg => rw [if_neg hg] at hp; exact hp.elim
    rw [if_pos hg] at hp
    exact .inl ⟨(hJ _ H m e hm hg i).1 (by omega), hp.ok hm σ hs⟩
  case pos =>
    rw [List.drop_eq_getElem_cons hi2] at hp
    unfold forGo at hp
    by_cases hg : gOk m sc.gs = true
    case neg => rw [if_neg hg] at hp; exact hp.elim
    rw [if_pos hg] at hp
    obtain ⟨go, yl⟩ := (hJ _ H m e hm hg i).2 _ (List.getElem?_eq_getElem hi2)
    cases es : t.put sc.items[i] s with
    | none => rw [es] at hp; exact hp.elim
    | some s1 =>
      rw [es] at hp
      refine .inr ⟨go, fun σ H' => ∃ c s m, Ext c1 H1 c H' ∧ SRel K c H' s σ ∧ HRel K c m H' ∧ PostS K U D c H' (forGo sc.gs t body (sc.items.drop (i + 1)) s m), fun σ' H' q => ⟨_, by omega, by omega, rfl, q⟩, fun x H' y => ?_⟩
      obtain ⟨yy, rx⟩ := yl x H' y
      obtain ⟨ey, hmy⟩ := yld_ext hm yy
      refine ⟨c, s, _, s1, hs.mono ey, rx, es, fun σ2 hs2 _ => ⟨c, s1, m, hs2, hmy, ?_⟩⟩
      have hp := hp.ext ey
      have e2 := e.trans ey
      cases eb : body s1 m with
      | none => simp only [eb] at hp; exact hp.elim
      | some p =>
        obtain ⟨o, m2⟩ := p
        simp only [eb] at hp
        intro c3 H3 e3 hm3
        cases o with
        | nx s2 => exact fun σ3 hs3 => ⟨c3, s2, m2, e2.trans e3, hs3, hm3, hp.ext e3⟩
        | ct s2 => exact fun σ3 hs3 => ⟨c3, s2, m2, e2.trans e3, hs3, hm3, hp.ext e3⟩
        | bk s2 => exact hp c3 H3 e3 hm3
        | rt w => exact hp c3 H3 e3 hm3
        | ex x s2 => exact hp c3 H3 e3 hm3
theorem s_for {tg iter : Expr} {body : List Stmt} {src : IX} {t : Tg} {f : SX} (hp : PassesOwn (model X.prog X.w) X.A X.env X.xe) (hc : X.calm = true) (hi : PI X tg iter (TI' X.K U src)) (hg : PG X tg (TG' X.K t)) (hb : PSs X body (TSt X.K U f))
    (hs : ∀ x, foldedSetIterable iter X.env x = pure x := by intro _; rfl) : PS X (.For tg iter body [] pos) (TSt X.K U (sFor src t f)) := impS (ps_for hp hc hi hg hb hs) fun _ _ _ h => for_imp h
def whGo (b : EX Bool) (body : SX) : Nat → SX
  | 0, _, _ => none
  | n + 1, s, m => (b s m).st s fun k m1 => if k = true then (match body s m1 with
    | some (.nx s2, m2) => whGo b body n s2 m2
    | some (.ct s2, m2) => whGo b body n s2 m2
    | some (.bk s2, m2) => some (.nx s2, m2)
    | o => o) else some (.nx s, m1)
/-- fuel by the state at the start -/
def sWhile (fu : Nat) (b : EX Bool) (body : SX) : SX := whGo b body fu
theorem while_imp {K : PySem.W.Frag} {fu : Nat} {b : EX Bool} {body : SX} {D : Ends} {σ : L2.St} {H : Hp} (h : TSt K U (sWhile fu b body) D σ H) : tWhile (TB K U b) (TSt K U body) D σ H := by
  refine ⟨fun n σ H => ∃ c s m, SRel K c H s σ ∧ HRel K c m H ∧ PostS K U D c H (whGo b body n s m), ⟨fu, h⟩, ?_⟩
  rintro n σ H ⟨c, s, m, hs, hm, hp⟩
  cases n with
  | zero => exact hp.elim
  | succ n =>
    unfold whGo at hp
    refine ⟨c, s, m, hs, hm, Post.st hs hp fun c1 H1 k m1 e1 hs1 hm1 hp1 => ?_⟩
    cases k with
    | false => exact hp1.ok hm1 σ hs1
    | true =>
      simp only [if_true] at hp1 ⊢
      refine ⟨fun σ H => ∃ c s m, SRel K c H s σ ∧ HRel K c m H ∧ PostS K U D c H (whGo b body n s m), fun σ' H' q => ⟨n, Nat.lt_succ_self n, q⟩, c1, s, m1, hs1, hm1, ?_⟩
      cases eb : body s m1 with
      | none => simp only [eb] at hp1; exact hp1.elim
      | some p =>
        obtain ⟨o, m2⟩ := p
        simp only [eb] at hp1
        intro c3 H3 e3 hm3
        cases o with
        | nx s2 => exact fun σ3 hs3 => ⟨c3, s2, m2, hs3, hm3, hp1.ext e3⟩
        | ct s2 => exact fun σ3 hs3 => ⟨c3, s2, m2, hs3, hm3, hp1.ext e3⟩
        | bk s2 => exact hp1 c3 H3 e3 hm3
        | rt w => exact hp1 c3 H3 e3 hm3
        | ex x s2 => exact hp1 c3 H3 e3 hm3
theorem s_while {fu : Nat} {c : Expr} {body : List Stmt} {b : EX Bool} {f : SX} (hp : PassesOwn (model X.prog X.w) X.A X.env X.xe) (hc : PT X c (TB X.K U b)) (hb : PSs X body (TSt X.K U f)) : PS X (.While c body [] pos) (TSt X.K U (sWhile fu b f)) := impS (ps_while hp hc hb) fun _ _ _ h => while_imp h
end
end Mir

namespace Mir
open PySem PySem.Spec PyProof.Rows L2

/-! ### letting go of cells -/
mutual
def okW (k : Nat) : W → Bool
  | .p _ => true
  | .ro _ => true
  | .loc n => decide (n < k)
  | .tw ws => okWs k ws
  | .kt _ => true
def okWs (k : Nat) : List W → Bool
  | [] => true
  | w :: ws => okW k w && okWs k ws
end
def okC (k : Nat) : Cell → Bool
  | .lst ws => okWs k ws
  | .dct kvs => okWs k (kvs.map (·.2))
  | .dtt kvs => okWs k (kvs.map (·.2))
  | .lck kvs => okWs k (kvs.map (·.2))
  | .ins _ fs => okWs k (fs.map (·.2))
def okM (k : Nat) (m : Hm) : Bool := (m.take k).all (okC k)
def okE (k : Nat) (s : Ev) : Bool := s.all fun o => match o with
  | some w => okW k w
  | none => true
abbrev cut (k : Nat) (c : Cfg) : Cfg := ⟨c.fb, c.rho.take k⟩
section
variable {K : PySem.W.Frag} {c c' : Cfg} {H H' : Hp} {m : Hm} {k : Nat}
theorem cut_sub {a : Addr} (h : a ∉ c.rho) : a ∉ (cut k c).rho := fun q => h (List.mem_of_mem_take q)
theorem TupAt.cut {a : Addr} {xs : List V} (h : TupAt K c H a xs) : TupAt K (Mir.cut k c) H a xs := by
  rcases h with ⟨h, n, n2⟩ | h
  · exact .inl ⟨h, n, cut_sub n2⟩
  · exact .inr h
theorem LstAt.cut {a : Addr} {xs : List V} (h : LstAt K c H a xs) : LstAt K (Mir.cut k c) H a xs := by
  rcases h with ⟨h, n, n2⟩ | h
  · exact .inl ⟨h, n, cut_sub n2⟩
  · exact .inr h
mutual
theorem Rp.cut : ∀ {v : V} {d : PyData}, Rp K c H v d → Rp K (Mir.cut k c) H v d
  | _, _, .non => .non
  | _, _, .bl b => .bl b
  | _, _, .int i => .int i
  | _, _, .str x => .str x
  | _, _, .lst h n n2 z r => .lst h n (cut_sub n2) z (RpAll.cut r)
  | _, _, .tup h z r => .tup h.cut z (RpAll.cut r)
theorem RpAll.cut : ∀ {vs : List V} {ds : List PyData}, RpAll K c H vs ds → RpAll K (Mir.cut k c) H vs ds
  | _, _, .nil => .nil
  | _, _, .cons r t => .cons (Rp.cut r) (RpAll.cut t)
end
mutual
theorem RpW.cut : ∀ {v : V} {w : W}, RpW K c H v w → okW k w = true → RpW K (Mir.cut k c) H v w
  | _, _, .p r, _ => .p r.cut
  | _, _, .ro h z r, _ => .ro h.cut z r.cut
  | _, _, .loc h, e => .loc (by
    have e : decide (_ < k) = true := e
    show (c.rho.take k)[_]? = some _
    rw [List.getElem?_take_of_lt (of_decide_eq_true e)]
    exact h)
  | _, _, .tw h z r, e => .tw h.cut z (RpWs.cut r e)
  | _, _, .kt h d n n2 z r, _ => .kt h d n (cut_sub n2) z r.cut
theorem RpWs.cut : ∀ {vs : List V} {ws : List W}, RpWs K c H vs ws → okWs k ws = true → RpWs K (Mir.cut k c) H vs ws
  | _, _, .nil, _ => .nil
  | _, _, .cons r t, e => by
    have e : (okW k _ && okWs k _) = true := e
    rw [Bool.and_eq_true] at e
    exact .cons (RpW.cut r e.1) (RpWs.cut t e.2)
end
theorem CellOk.cut {a : Addr} {x : Cell} (h : CellOk K c H a x) (e : okC k x = true) : CellOk K (Mir.cut k c) H a x := by
  cases x with
  | lst ws => obtain ⟨xs, e1, z, r⟩ := h; exact ⟨xs, e1, z, r.cut e⟩
  | dct kvs => obtain ⟨vs, e1, z, k', r⟩ := h; exact ⟨vs, e1, z, k', r.cut e⟩
  | dtt kvs => obtain ⟨vs, e1, z, k', r⟩ := h; exact ⟨vs, e1, z, k', r.cut e⟩
  | lck kvs => obtain ⟨o, vs, e1, z, k', r⟩ := h; exact ⟨o, vs, e1, z, k', r.cut e⟩
  | ins C fs => obtain ⟨dx, vs, e1, k', r⟩ := h; exact ⟨dx, vs, e1, k', r.cut e⟩
theorem HRel.cut (h : HRel K c m H) (e : okM k m = true) : HRel K (Mir.cut k c) (m.take k) H := by
  refine ⟨by simp [h.len], h.nd.sublist (List.take_sublist ..), h.fb, fun a ha q => h.dj a ha (List.mem_of_mem_take q), fun n x hx => ?_⟩
  have hn : n < k := by
    by_cases q : n < k
    · exact q
    · rw [List.getElem?_eq_none (by simp; omega)] at hx; cases hx
  have hx' := hx
  rw [List.getElem?_take_of_lt hn] at hx'
  obtain ⟨a, ha, ok⟩ := h.at_ n x hx'
  refine ⟨a, ?_, ok.cut ((List.all_eq_true.mp e) x (List.mem_of_getElem? hx))⟩
  show (c.rho.take k)[n]? = some a
  rw [List.getElem?_take_of_lt hn]; exact ha
theorem Ext.cut (e : Ext c H c' H') (hk : c.rho.length ≤ k) : Ext c H (Mir.cut k c') H' := by
  obtain ⟨l, hl, hn⟩ := e.rho
  refine ⟨e.fb, ⟨l.take (k - c.rho.length), ?_, fun a ha => hn a (List.mem_of_mem_take ha)⟩, e.keep, e.live⟩
  show c'.rho.take k = _
  rw [hl, List.take_append, List.take_of_length_le hk]
theorem SRel.cut {s : Ev} {σ : L2.St} (h : SRel K c H s σ) (e : okE k s = true) : SRel K (Mir.cut k c) H s σ :=
  ⟨h.1, fun i w q => let ⟨v, e1, r⟩ := h.2 i w q; ⟨v, e1, r.cut ((List.all_eq_true.mp e) (some w) (List.mem_of_getElem? q))⟩⟩
theorem SRel.wipeL {s : Ev} {σ : L2.St} (h : SRel K c H s σ) (vs : List Nat) : SRel K c H (wipeE s vs) σ := by
  refine h.forget ?_ ?_
  · induction vs with
    | nil => rfl
    | cons v vs ih => simp [wipeE, ih]
  · induction vs with
    | nil => intro i w q; exact q
    | cons v vs ih =>
      intro i w q
      unfold wipeE at q
      by_cases e : v = i
      · subst e
        by_cases hl : v < (wipeE s vs).length
        · rw [List.getElem?_set_self hl] at q; cases q
        · rw [List.getElem?_eq_none (by simpa using hl)] at q; cases q
      · rw [List.getElem?_set_ne e] at q
        exact ih i w q
end
/-- names forgotten, new cells let go if nothing holds them -/
def tidy (k : Nat) (mask : List Nat) (s : Ev) (m : Hm) : Ev × Hm := if (okE k (wipeE s mask) && okM k m) = true then (wipeE s mask, m.take k) else (wipeE s mask, m)
def sTidy (mask : List Nat) (f : SX) : SX := fun s m => match f s m with
  | some (.nx s1, m1) => some (.nx (tidy m.length mask s1 m1).1, (tidy m.length mask s1 m1).2)
  | some (.ct s1, m1) => some (.ct (tidy m.length mask s1 m1).1, (tidy m.length mask s1 m1).2)
  | r => r
theorem tidy_ok {K : PySem.W.Frag} {c c' : Cfg} {H H' : Hp} {m m1 : Hm} {s : Ev} {σ : L2.St} {mask : List Nat} (hm : HRel K c m H) (e : Ext c H c' H') (hm1 : HRel K c' m1 H') (hs : SRel K c' H' s σ) :
    ∃ c2, Ext c H c2 H' ∧ HRel K c2 (tidy m.length mask s m1).2 H' ∧ SRel K c2 H' (tidy m.length mask s m1).1 σ := by
  unfold tidy
  split
  · rename_i h
    rw [Bool.and_eq_true] at h
    exact ⟨_, e.cut (Nat.le_of_eq hm.len), hm1.cut h.2, (hs.wipeL mask).cut h.1⟩
  · exact ⟨c', e, hm1, hs.wipeL mask⟩
theorem tidy_imp {K : PySem.W.Frag} {U : WX} {mask : List Nat} {f : SX} {D : Ends} {σ : L2.St} {H : Hp} (h : TSt K U (sTidy mask f) D σ H) : TSt K U f D σ H := by
  obtain ⟨c, s, m, hs, hm, hp⟩ := h
  refine ⟨c, s, m, hs, hm, ?_⟩
  unfold sTidy at hp
  cases e : f s m with
  | none => simp only [e] at hp; exact hp
  | some p =>
    obtain ⟨o, m1⟩ := p
    simp only [e] at hp
    cases o with
    | nx s1 =>
      intro c' H' e' hm' σ' hs'
      obtain ⟨c2, a, b, d⟩ := tidy_ok (mask := mask) hm e' hm' hs'
      exact hp c2 H' a b σ' d
    | ct s1 =>
      intro c' H' e' hm' σ' hs'
      obtain ⟨c2, a, b, d⟩ := tidy_ok (mask := mask) hm e' hm' hs'
      exact hp c2 H' a b σ' d
    | rt w => exact hp
    | bk s => exact hp
    | ex x s => exact hp
theorem ss_tidy {X : Cx} {U : WX} {st : List Stmt} {f : SX} (mask : List Nat) (h : PSs X st (TSt X.K U f)) : PSs X st (TSt X.K U (sTidy mask f)) := impSs h fun _ _ _ h => tidy_imp h

/-! ### the end of a call -/
def frzL (f : W → Option PyData) : List W → Option (List PyData)
  | [] => some []
  | w :: ws => match f w with
    | some d => (frzL f ws).map (d :: ·)
    | none => none
def frz (k : Nat) (m : Hm) : Nat → W → Option PyData
  | 0, w => match w with
    | .p d => some d
    | _ => none
  | n + 1, w => match w with
    | .p d => some d
    | .loc j => if k ≤ j then (match m[j]? with
      | some (.lst ws) => (frzL (frz k m n) ws).map .list
      | _ => none) else none
    | .tw ws => (frzL (frz k m n) ws).map .tuple
    | .ro _ => none
    | .kt ds => some (.tuple ds)
section
variable {K : PySem.W.Frag} {c : Cfg} {H : Hp} {m : Hm} {k : Nat}
theorem frz_ok (hm : HRel K c m H) : ∀ (n : Nat), (∀ (v : V) (w : W) (d : PyData), RpW K c H v w → frz k m n w = some d → Rp K (cut k c) H v d) ∧ ∀ (vs : List V) (ws : List W) (ds : List PyData), RpWs K c H vs ws → frzL (frz k m n) ws = some ds → RpAll K (cut k c) H vs ds := by
  intro n
  have all : ∀ n, (∀ (v : V) (w : W) (d : PyData), RpW K c H v w → frz k m n w = some d → Rp K (cut k c) H v d) → ∀ (ws : List W) (vs : List V) (ds : List PyData), RpWs K c H vs ws → frzL (frz k m n) ws = some ds → RpAll K (cut k c) H vs ds := by
    intro n h1 ws
    induction ws with
    | nil => intro vs ds r e; cases r; simp only [frzL] at e; cases e; exact .nil
    | cons w ws ih =>
      intro vs ds r e
      cases r with
      | cons r t =>
        simp only [frzL] at e
        split at e
        · rename_i d e1
          obtain ⟨ds', e2, rfl⟩ := Option.map_eq_some_iff.mp e
          exact .cons (h1 _ _ _ r e1) (ih _ _ t e2)
        · cases e
  induction n with
  | zero =>
    have h1 : ∀ (v : V) (w : W) (d : PyData), RpW K c H v w → frz k m 0 w = some d → Rp K (cut k c) H v d := by
      intro v w d r e
      cases r with
      | p r => simp only [frz] at e; cases e; exact r.cut
      | ro => simp [frz] at e
      | loc => simp [frz] at e
      | tw => simp [frz] at e
      | kt => simp [frz] at e
    exact ⟨h1, fun vs ws ds => all 0 h1 ws vs ds⟩
  | succ n ih =>
    have h1 : ∀ (v : V) (w : W) (d : PyData), RpW K c H v w → frz k m (n + 1) w = some d → Rp K (cut k c) H v d := by
      intro v w d r e
      cases r with
      | p r => simp only [frz] at e; cases e; exact r.cut
      | ro => simp [frz] at e
      | @loc a j h =>
        simp only [frz] at e
        split at e
        · rename_i hj
          split at e
          · rename_i ws q
            obtain ⟨ds, e1, rfl⟩ := Option.map_eq_some_iff.mp e
            obtain ⟨xs, hx, z, rr⟩ := hm.lst h q
            refine .lst hx (fun z => hm.dj a z (List.mem_of_getElem? h)) (fun z => ?_) z (ih.2 _ _ _ rr e1)
            obtain ⟨i, hi, ei⟩ := List.mem_iff_getElem?.mp z |>.imp fun i hi => (⟨(List.getElem?_eq_some_iff.mp hi).1, hi⟩ : i < (c.rho.take k).length ∧ _)
            have hik : i < k := by simp at hi; omega
            rw [List.getElem?_take_of_lt hik] at ei
            have := (List.getElem?_inj (List.getElem?_eq_some_iff.mp h).1 hm.nd).mp (h.trans ei.symm)
            omega
          · cases e
        · cases e
      | tw h z r =>
        simp only [frz] at e
        obtain ⟨ds, e1, rfl⟩ := Option.map_eq_some_iff.mp e
        exact .tup h.cut z (ih.2 _ _ _ r e1)
      | kt h d n n2 z r =>
        simp only [frz] at e
        cases e
        exact .tup (TupAt.cut (.inl ⟨.inr ⟨_, h⟩, n, n2⟩)) z r.cut
    exact ⟨h1, fun vs ws ds => all (n + 1) h1 ws vs ds⟩
end
def endFn (fz : Bool) (k : Nat) (w : W) (m : Hm) : Res W := if okM k m = true then (if okW k w = true then .ok w (m.take k) else if fz = true then (match frz k m 4 w with
    | some d => .ok (.p d) (m.take k)
    | none => .ok w m) else .ok w m) else .ok w m
def endX (k : Nat) (x : Exn) (m : Hm) : Res W := if (okM k m && okWs k (x.fs.map (·.2))) = true then .exc x (m.take k) else .exc x m
def startE (n : Nat) (ws : List W) : Ev := ws.map some ++ List.replicate (n - ws.length) none
abbrev FF := List W → Hm → Res W
def retE (fz : Bool) (k : Nat) : SR → Res W
  | some (.rt w, m1) => endFn fz k w m1
  | some (.nx _, m1) => endFn fz k (.p .none) m1
  | some (.ex x _, m1) => endX k x m1
  | _ => .stuck
/-- a def: p the parameters, n the names in all -/
def mkFn (fz : Bool) (p n : Nat) (body : SX) : FF := fun ws m => if decide (ws.length = p) = true then retE fz m.length (body (startE n ws) m) else .stuck
abbrev UE (E : XK) : WX := fun cls dx _ H => E cls dx H
/-- what a def with the mirror F promises -/
def SpF (K : PySem.W.Frag) (F : FF) (p : Nat) : Sp := fun vs H Q E => vs.length = p ∧ ∃ c ws m, HRel K c m H ∧ RpWs K c H vs ws ∧ Post K (UE E) [] c H (RQ K Q) (F ws m)
theorem start_rel {K : PySem.W.Frag} {c : Cfg} {H : Hp} {vs : List V} {ws : List W} {N : List Str} {n : Nat} (r : RpWs K c H vs ws) (hn : N.length = n) : SRel K c H (startE n ws) (L2.start N vs) := by
  unfold startE L2.start
  refine ⟨by simp [r.length, hn], fun i w q => ?_⟩
  by_cases hi : i < ws.length
  · rw [List.getElem?_append_left (by simpa using hi), List.getElem?_map] at q
    obtain ⟨w', e1, e2⟩ := Option.map_eq_some_iff.mp q
    cases e2
    obtain ⟨v, hv, rv⟩ := r.get e1
    refine ⟨v, ?_, rv⟩
    rw [List.getElem?_append_left (by simp; rw [r.length]; exact hi), List.getElem?_map, hv]; rfl
  · rw [List.getElem?_append_right (by simp; omega)] at q
    have := List.mem_of_getElem? q
    rw [List.mem_replicate] at this
    cases this.2
theorem Post.u {K : PySem.W.Frag} {U U' : WX} {σ σ' : L2.St} {c : Cfg} {H : Hp} {α : Type} {R : Cfg → Hp → α → Hm → Prop} {r : Res α} (h : Post K U σ c H R r) (hu : ∀ cls dx H, U cls dx σ H → U' cls dx σ' H) : Post K U' σ' c H R r := by
  cases r with
  | stuck => exact h
  | ok a m' => exact h
  | exc x m' => exact fun c' H' cls dx e' hm' xr => hu _ _ _ (h c' H' cls dx e' hm' xr)
/-- a def's body -/
theorem fn_imp {K : PySem.W.Frag} {fz : Bool} {p n : Nat} {f : SX} {N : List Str} {vs : List V} {H : Hp} {Q : VK} {E : XK} (hn : N.length = n) (h : SpF K (mkFn fz p n f) p vs H Q E) : TSt K (UE E) f { nx := fun _ H' => Q .non H', rt := Q } (L2.start N vs) H := by
  obtain ⟨hl, c, ws, m, hm, r, hp⟩ := h
  refine ⟨c, startE n ws, m, start_rel r hn, hm, ?_⟩
  unfold mkFn retE at hp
  rw [if_pos (by simpa [← r.length] using hl)] at hp
  have fin : ∀ (w : W) (m1 : Hm) (c' : Cfg) (H' : Hp) (v : V), Post K (UE E) [] c H (RQ K Q) (endFn fz m.length w m1) → Ext c H c' H' → HRel K c' m1 H' → RpW K c' H' v w → Q v H' := by
    intro w m1 c' H' v hp e hm1 rv
    have hk := Nat.le_of_eq hm.len
    unfold endFn at hp
    split at hp
    · rename_i h1
      split at hp
      · rename_i h2
        exact hp _ H' (e.cut hk) (hm1.cut h1) v (rv.cut h2)
      · split at hp
        · split at hp
          · rename_i d e1
            exact hp _ H' (e.cut hk) (hm1.cut h1) v (.p ((frz_ok hm1 4).1 _ _ _ rv e1))
          · exact hp _ H' e hm1 v rv
        · exact hp _ H' e hm1 v rv
    · exact hp _ H' e hm1 v rv
  cases e : f (startE n ws) m with
  | none => simp only [e] at hp; exact hp
  | some q =>
    obtain ⟨o, m1⟩ := q
    simp only [e] at hp
    cases o with
    | nx s => exact fun c' H' e' hm' σ hs => fin _ _ _ _ _ hp e' hm' (.p .non)
    | rt w => exact fun c' H' e' hm' v rv => fin _ _ _ _ _ hp e' hm' rv
    | bk s => exact hp.elim
    | ct s => exact hp.elim
    | ex x s =>
      intro c' H' e' hm' σ cls dx hs xr
      have hp : Post K (UE E) [] c H (RQ K Q) (endX m.length x m1) := hp
      unfold endX at hp
      split at hp
      · rename_i h1
        rw [Bool.and_eq_true] at h1
        refine hp _ H' cls dx (e'.cut (Nat.le_of_eq hm.len)) (hm'.cut h1.1) ?_
        obtain ⟨x1, d, fs, x2, x3, x4, x5⟩ := xr
        exact ⟨x1, d, fs, x2, x3, x4, x5.cut h1.2⟩
      · exact hp _ H' cls dx e' hm' xr
end Mir

namespace Mir
open PySem PySem.Spec PyProof.Rows L2

/-! ### calls -/
/-- the def of that name keeps the promise of the mirror F -/
def OkD (P : Program) (w : World) (K : PySem.W.Frag) (mg : Str → Option Value) (base : Heap) (k : Nat) (x : Str) (F : FF) (ps : List Str) : Prop :=
  ∃ f fd, mg x = some (.ref f) ∧ PySem.W.keepIn K (.ref f) = true ∧ Binds K fd ps [] ∧ FnOk P w K mg base (L2.CX P w) k f fd ps (SpF K F ps.length)
theorem OkD.mono {P : Program} {w : World} {K : PySem.W.Frag} {mg : Str → Option Value} {base : Heap} {j k : Nat} {x : Str} {F : FF} {ps : List Str} (h : OkD P w K mg base j x F ps) (hk : j ≤ k) : OkD P w K mg base k x F ps :=
  let ⟨f, fd, a, b, c, d⟩ := h
  ⟨f, fd, a, b, c, d.mono hk⟩
def eCall (p : Nat) (F : FF) (fa : EX (List W)) : EX W := fun s m => (fa s m).bind fun ws m1 => if decide (ws.length = p) = true then F ws m1 else .stuck
section
variable {X : Cx} {U : WX} {k : Nat} {x : Str} {F : FF} {ps : List Str} {p pos : Pos} {e : Expr} {es : List Expr} {fa : EX (List W)}
theorem x_call {n : Nat} (o : OkD X.prog X.w X.K X.mg X.base k x F ps) (hr : Room k X.A) (tk : Takes X U) (ha : PA X (e :: es) (TL X.K U fa)) (hn : ps.length = n := by rfl) (hg : Gl X x := by rfl) (hdb : (x == ("__debug__" : Str)) = false := by decide) (he : starEach (e :: es) X.env = (false, eval e X.env) :: starEach es X.env := by rfl) (hpl : (backTo pos (starEach es X.env)).any (·.1) = false := by rfl) :
    PE X (.Call (.Name x p) (e :: es) [] pos) (T X.K U (eCall n F fa)) := by
  subst hn
  obtain ⟨f, fd, hm, hk, hb, ok⟩ := o
  refine imp (pe_callS (E := WE U) ok hr hg hm hk hb (fun σ => passAt tk σ) ha hdb he hpl) ?_
  rintro σ H Q ⟨c, s, m, hs, hmm, hp⟩
  refine TL.run hs hmm hp fun c1 H1 ws m1 vs e1 hs1 hm1 rv hp1 => ?_
  split at hp1
  · rename_i hl
    have hl := of_decide_eq_true hl
    exact ⟨by rw [rv.length]; exact hl, c1, ws, m1, hm1, rv, hp1.u fun _ _ _ h => h⟩
  · exact hp1.elim
end
abbrev cx (P : Program) (w : World) (K : PySem.W.Frag) (mg : Str → Option Value) (base : Heap) (N : List Str) (qual : Str) (scope : Scope) (f : Addr) (cd : Value) (A : Around) (outer : List Env) (s : Shared) (H : Hp) (E : XK) : Cx := cxOf (L2.CX P w) P w K mg base N qual scope f cd A outer s H E
section
variable {P : Program} {w : World} {K : PySem.W.Frag} {mg : Str → Option Value} {base : Heap} {x qual : Str} {params : Arguments} {body : List Stmt} {scope : Scope} {f : Addr} {fd : FuncData}
theorem takes_cx {N : List Str} {cd : Value} {A : Around} {outer : List Env} {s : Shared} {H : Hp} {E : XK} : Takes (cx P w K mg base N qual scope f cd A outer s H E) (UE E) := takes_of rfl rfl rfl rfl
theorem owns_cx {N : List Str} {cd : Value} {A : Around} {outer : List Env} {s : Shared} {H : Hp} {E : XK} : PassesOwn (model P w) (cx P w K mg base N qual scope f cd A outer s H E).A (cx P w K mg base N qual scope f cd A outer s H E).env (cx P w K mg base N qual scope f cd A outer s H E).xe := passes_of (X := cx P w K mg base N qual scope f cd A outer s H E) (K := fun e s'' => L2.CX P w outer H s E e s'') (E₁ := fun e s'' => L2.CX P w outer H s E e s'') rfl
/-- a def by its body -/
theorem fn_mk {N ps : List Str} {k n p : Nat} {fz : Bool} {b : SX} (F : FunD K x qual params body scope [] [] f fd) (S : FnScope N ps scope) (hn : N.length = n) (hp : ps.length = p)
    (h : ∀ (cd : Value) (A : Around) (outer : List Env) (s : Shared) (H : Hp) (E : XK), Room k (A.deeper (envOfC qual scope s.heap.objs.size f cd)) → PSs (cx P w K mg base N qual scope f cd A outer s H E) body (TSt K (UE E) b)) : FnOk P w K mg base (L2.CX P w) (k + 1) f fd ps (SpF K (mkFn fz p n b) ps.length) := by
  refine F.ok S (fun vs H Q E h => h.1) fun cdv A outer s H vs Q E hr hs => ⟨_, h cdv A outer s H E hr, ?_⟩
  subst hp
  exact fn_imp hn hs
theorem OkD.mk {N ps : List Str} {k n p : Nat} {fz : Bool} {b : SX} (F : FunD K x qual params body scope [] [] f fd) (hm : mg x = some (.ref f)) (hb : Binds K fd ps []) (S : FnScope N ps scope) (hn : N.length = n) (hp : ps.length = p)
    (h : ∀ (cd : Value) (A : Around) (outer : List Env) (s : Shared) (H : Hp) (E : XK), Room k (A.deeper (envOfC qual scope s.heap.objs.size f cd)) → PSs (cx P w K mg base N qual scope f cd A outer s H E) body (TSt K (UE E) b)) : OkD P w K mg base (k + 1) x (mkFn fz p n b) ps :=
  ⟨f, fd, hm, F.kp, hb, fn_mk F S hn hp h⟩
theorem OkD.zero {N ps : List Str} {k : Nat} (F : FunD K x qual params body scope [] [] f fd) (hm : mg x = some (.ref f)) (hb : Binds K fd ps []) (S : FnScope N ps scope) : OkD P w K mg base (k + 1) x (fun _ _ => .stuck) ps :=
  ⟨f, fd, hm, F.kp, hb, F.ok S (fun vs H Q E h => h.1) fun cdv A outer s H vs Q E hr hs => ⟨tNever, pss_never, hs.2.elim fun c h => h.elim fun ws h => h.elim fun m h => h.2.2⟩⟩
theorem u65 {k : Nat} {A : Around} (r : Room k A) : A.units + 65 < cLine := by have := r.un; omega
/-- the law's call: what the mirror answers at a script of whole numbers -/
theorem law_sp {F : FF} (h : ∀ ns : List Int, ns.length ≤ 63 → ∃ m, F [.ro (ns.map .int)] [] = .ok (.p (.bool true)) m) (H : Hp) (a : Addr) (ns : List Int) (hl : ns.length ≤ 63) (hS : SqL K H a (ns.map V.int)) : SpF K F 1 [.ref a] H (fun v _ => v = .bl true) fun _ _ _ => False := by
  obtain ⟨m, hm⟩ := h ns hl
  have rp : ∀ (c : Cfg) (H : Hp) (ns : List Int), RpAll K c H (ns.map V.int) (ns.map PyData.int) := fun c H ns => by
    induction ns with
    | nil => exact .nil
    | cons n ns ih => exact .cons (.int n) ih
  refine ⟨rfl, ⟨[], []⟩, [.ro (ns.map .int)], [], ⟨rfl, List.nodup_nil, fun p hp => by simp at hp, fun a ha => by simp [Cfg.fa] at ha, fun n x hx => by simp at hx⟩, ?_, ?_⟩
  · refine .cons (.ro ?_ (by rw [List.length_map, sizeLine_eq]; omega) (rp _ _ _)) .nil
    rcases hS with h | h
    · exact .inl ⟨h, by simp [Cfg.fa], by simp⟩
    · exact .inr h
  · rw [hm]
    intro c' H' e hm v rv
    cases rv with | p r =>
    cases r
    rfl
end
/-- the end over a head by facts, the exceptions' word told world by world -/
theorem walk_w {l : PySem.W.OpenLaw} {n k : Nat} {q : Program} {loose : List Str} {XP : (Str → Option Value) → Heap → Prop} {YP : World → Heap → Prop} {d : DefRec} {x : Str} (hn : l.most = some n) (hn2 : n ≤ sizeLine) (hdf : d.params.defaults = []) (hr : Room k callerA)
    (F : ∀ (w : World) (mg : Str → Option Value) (fa : Addr) (h : Heap), YP w h → h.Ns mainGlobals mg → mg d.name = some (.ref fa) → ∃ (K : PySem.W.Frag) (fd : FuncData) (sp : Sp), K.In h ∧ (∀ (s : Shared) (u : Value), BindsTo s fd ⟨[u], []⟩ [(x, u)]) ∧
      (∀ (H : Hp) (a : Addr) (ns : List Int), ns.length ≤ n → SqL K H a (ns.map V.int) → sp [.ref a] H (fun v _ => v = .bl true) fun _ _ _ => False) ∧ ∀ base : Heap, K.In base → base.Ns mainGlobals mg → FnOk l.prog w K mg base (L2.CX l.prog w) k fa fd [x] sp) :
    PySem.W.WalkO q loose XP YP l.row.toRowW d [] fun f vs => PySem.call f vs := by
  refine Att.attach_call hn hdf fun w s₀ s₁ mg mb fa o pm cd doc a vs ns G Y ho hd hcd hmg hobj hints hlen hg => ?_
  obtain ⟨K, fd, sp, KX, hb, hsp, hF⟩ := F w mg fa _ Y G.T.g hmg
  refine law_call (CX := L2.CX l.prog w) KX G.T.g G.T.b G.T.builtins G.T.nolimit hg hobj hints (Nat.le_trans hlen hn2) hr hF hb (fun H _ hS => hsp H a ns hlen hS) fun H e s' hc => ?_
  obtain ⟨_, _, _, _, _, _, _, _, _, _, _, _, z⟩ := hc
  exact z
end Mir

namespace Mir
open PySem PySem.Spec PyProof.Rows L2

/-! ### the mirrors, reckoned -/
section
variable {s : Ev} {m : Hm} {f g h : EX W} {b c : EX Bool} {fs : EX (List W)} {i : Nat} {d : PyData} {w : W}
@[simp] theorem r_var : eVar i s m = match s[i]? with
  | some (some w) => .ok w m
  | _ => .stuck := rfl
@[simp] theorem r_c : eC d s m = .ok (.p d) m := rfl
@[simp] theorem r_op2 {k : W → W → Hm → Res W} : eOp2 k f g s m = (f s m).bind fun a m1 => (g s m1).bind fun b m2 => k a b m2 := rfl
@[simp] theorem r_op1 {k : W → Hm → Res W} : eOp1 k f s m = (f s m).bind k := rfl
@[simp] theorem r_not : eNot f s m = (f s m).bind fun w m1 => match w with
  | .p (.bool b) => .ok (.p (.bool !b)) m1
  | _ => .stuck := rfl
@[simp] theorem r_and : eAnd f g s m = (f s m).bind fun w m1 => match w with
  | .p (.bool b) => if b = true then g s m1 else .ok (.p (.bool false)) m1
  | _ => .stuck := by
  unfold eAnd
  congr 1
  funext w m1
  cases w with
  | p d => cases d with
    | bool b => cases b <;> rfl
    | _ => rfl
  | _ => rfl
@[simp] theorem r_or : eOr f g s m = (f s m).bind fun w m1 => match w with
  | .p (.bool b) => if b = true then .ok (.p (.bool true)) m1 else g s m1
  | _ => .stuck := by
  unfold eOr
  congr 1
  funext w m1
  cases w with
  | p d => cases d with
    | bool b => cases b <;> rfl
    | _ => rfl
  | _ => rfl
@[simp] theorem r_if : eIf b f g s m = (b s m).bind fun k m1 => if k = true then f s m1 else g s m1 := rfl
@[simp] theorem r_anil : aNil s m = .ok [] m := rfl
@[simp] theorem r_acons : aCons f fs s m = (f s m).bind fun w m1 => (fs s m1).bind fun ws m2 => .ok (w :: ws) m2 := rfl
@[simp] theorem r_cb {k : List W → Hm → Res W} : eCB k fs s m = (fs s m).bind k := rfl
@[simp] theorem r_call {p : Nat} {F : FF} : eCall p F fs s m = (fs s m).bind fun ws m1 => if decide (ws.length = p) = true then F ws m1 else .stuck := rfl
@[simp] theorem r_btru : bTru f s m = (f s m).bind tru := rfl
@[simp] theorem r_bval : bVal f s m = (f s m).bind boolOf := rfl
@[simp] theorem r_boolOf {k : Bool} : boolOf (.p (.bool k)) m = .ok k m := rfl
@[simp] theorem r_tru {k : Bool} : tru (.p (.bool k)) m = .ok k m := rfl
@[simp] theorem r_bnot : bNot b s m = (b s m).bind fun k m1 => .ok (!k) m1 := rfl
@[simp] theorem r_band : bAnd b c s m = (b s m).bind fun k m1 => if k = true then c s m1 else .ok false m1 := rfl
@[simp] theorem r_bor : bOr b c s m = (b s m).bind fun k m1 => if k = true then .ok true m1 else c s m1 := rfl
@[simp] theorem r_byes : bYes s m = .ok true m := rfl
@[simp] theorem r_tup : eTup fs s m = (fs s m).bind fun ws m1 => if ws.length ≤ sizeLine then .ok (mkTup ws) m1 else .stuck := rfl
@[simp] theorem r_lst : eLst fs s m = (fs s m).bind fun ws m1 => if ws.length ≤ sizeLine then (match allP ws with
  | some ds => .ok (.p (.list ds)) m1
  | none => .stuck) else .stuck := rfl
@[simp] theorem r_lstL : eLstL fs s m = (fs s m).bind fun ws m1 => if ws.length ≤ sizeLine then .ok (.loc m1.length) (m1 ++ [.lst ws]) else .stuck := rfl
@[simp] theorem r_chain {k k' : W → W → Hm → Res W} : eChain k k' f g h s m = (f s m).bind fun a m1 => (g s m1).bind fun b m2 => (k a b m2).bind fun r m3 => match r with
  | .p (.bool t) => if t = true then (h s m3).bind fun c m4 => k' b c m4 else .ok (.p (.bool false)) m3
  | _ => .stuck := by
  unfold eChain
  congr 1
  funext a m1
  congr 1
  funext b m2
  congr 1
  funext w m3
  cases w with
  | p d => cases d with
    | bool b => cases b <;> rfl
    | _ => rfl
  | _ => rfl
-- statements
@[simp] theorem ret_rt {fz : Bool} {k : Nat} : retE fz k (some (.rt w, m)) = endFn fz k w m := rfl
@[simp] theorem ret_nx {fz : Bool} {k : Nat} : retE fz k (some (.nx s, m)) = endFn fz k (.p .none) m := rfl
@[simp] theorem ret_ex {fz : Bool} {k : Nat} {x : Exn} : retE fz k (some (.ex x s, m)) = endX k x m := rfl
variable {S S' : SX}
@[simp] theorem q_skip : sSkip s m = some (.nx s, m) := rfl
@[simp] theorem q_seq : sSeq S S' s m = match S s m with
  | some (.nx s1, m1) => S' s1 m1
  | r => r := rfl
@[simp] theorem q_never : sNever s m = none := rfl
@[simp] theorem q_expr : sExpr f s m = (f s m).st s fun _ m1 => some (.nx s, m1) := rfl
@[simp] theorem q_ret : sRet f s m = (f s m).st s fun w m1 => some (.rt w, m1) := rfl
@[simp] theorem q_retN : sRetN s m = some (.rt (.p .none), m) := rfl
@[simp] theorem q_if : sIf b S S' s m = (b s m).st s fun k m1 => if k = true then S s m1 else S' s m1 := rfl
@[simp] theorem q_set : sSet i f s m = (f s m).st s fun w m1 => some (.nx (s.set i (some w)), m1) := rfl
@[simp] theorem q_put {t : Tg} : sPut t f s m = (f s m).st s fun w m1 => match t.put w s with
  | some s1 => some (.nx s1, m1)
  | none => none := rfl
@[simp] theorem q_setIx : sSetIx f g h s m = (h s m).st s fun w m1 => (f s m1).st s fun o m2 => (g s m2).st s fun i m3 => match setIx o i w m3 with
  | some m4 => some (.nx s, m4)
  | none => none := rfl
end
theorem le_size {n : Nat} (h : n ≤ 16777216) : n ≤ sizeLine := by rw [sizeLine_eq]; exact h
/-! values -/
section
variable {m : Hm}
@[simp] theorem o_add (i j : Int) : addM (.p (.int i)) (.p (.int j)) m = .ok (.p (.int (i + j))) m := rfl
@[simp] theorem o_sub (i j : Int) : subM (.p (.int i)) (.p (.int j)) m = .ok (.p (.int (i - j))) m := rfl
@[simp] theorem o_le (i j : Int) : leM (.p (.int i)) (.p (.int j)) m = .ok (.p (.bool (decide (i ≤ j)))) m := rfl
@[simp] theorem o_gt (i j : Int) : gtM (.p (.int i)) (.p (.int j)) m = .ok (.p (.bool (decide (j < i)))) m := rfl
@[simp] theorem o_ge (i j : Int) : geM (.p (.int i)) (.p (.int j)) m = .ok (.p (.bool (decide (j ≤ i)))) m := rfl
@[simp] theorem o_lt (i j : Int) : ltM (.p (.int i)) (.p (.int j)) m = .ok (.p (.bool (decide (i < j)))) m := rfl
@[simp] theorem o_eqI (i j : Int) : eqM false (.p (.int i)) (.p (.int j)) m = .ok (.p (.bool (i == j))) m := rfl
@[simp] theorem o_neI (i j : Int) : eqM true (.p (.int i)) (.p (.int j)) m = .ok (.p (.bool (!(i == j)))) m := rfl
@[simp] theorem o_ixT {ds : List PyData} (i : Int) : idxM (.p (.tuple ds)) (.p (.int i)) m = match atI ds i with
  | some d => .ok (.p d) m
  | none => .stuck := rfl
@[simp] theorem o_ixL {ds : List PyData} (i : Int) : idxM (.p (.list ds)) (.p (.int i)) m = match atI ds i with
  | some d => .ok (.p d) m
  | none => .stuck := rfl
@[simp] theorem o_lenT {ds : List PyData} : lenM [.p (.tuple ds)] m = .ok (.p (.int ds.length)) m := by simp [lenM, seqW]
@[simp] theorem o_lenL {ds : List PyData} : lenM [.p (.list ds)] m = .ok (.p (.int ds.length)) m := by simp [lenM, seqW]
@[simp] theorem o_all (bs : List Bool) : allM true [.p (.list (bs.map .bool))] m = .ok (.p (.bool (bs.all id))) m := by
  have := boolsOf_map bs
  simp [allM, isL, seqW, List.map_map, Function.comp_def] at this ⊢
  rw [this]
@[simp] theorem o_any (bs : List Bool) : allM false [.p (.list (bs.map .bool))] m = .ok (.p (.bool (bs.any id))) m := by
  have := boolsOf_map bs
  simp [allM, isL, seqW, List.map_map, Function.comp_def] at this ⊢
  rw [this]
theorem atI_nat {α : Type} {xs : List α} {i : Nat} {x : α} (h : xs[i]? = some x) : atI xs (i : Int) = some x := by
  obtain ⟨hl, e⟩ := List.getElem?_eq_some_iff.mp h
  unfold atI ixN
  rw [if_pos (by omega), if_pos (by omega)]
  simpa using h
theorem atI_lit {α : Type} {xs : List α} {i : Nat} : atI xs (i : Int) = xs[i]? := by
  cases h : xs[i]? with
  | some x => exact atI_nat h
  | none =>
    have := List.getElem?_eq_none_iff.mp h
    unfold atI ixN
    rw [if_pos (by omega), if_neg (by omega)]
    rfl
@[simp] theorem atI_0 {α : Type} {xs : List α} : atI xs 0 = xs[0]? := atI_lit (i := 0)
@[simp] theorem atI_1 {α : Type} {xs : List α} : atI xs 1 = xs[1]? := atI_lit (i := 1)
@[simp] theorem atI_2 {α : Type} {xs : List α} : atI xs 2 = xs[2]? := atI_lit (i := 2)
end
/-- a comprehension that changes nothing -/
theorem lc_pure {α : Type} {fin : List W → Hm → Res W} {src : IX} {t : Tg} {g : EX Bool} {f : EX W} {vs : List Nat} {s : Ev} {m : Hm} (xs : List α) (e : α → W) (p : α → Bool) (h : α → W) {gs : List (Nat × List W)} (hs : src s m = .ok ⟨xs.map e, gs⟩ m) (hg : gOk m gs = true) (hz : xs.length ≤ 16777216)
    (hb : ∀ x ∈ xs, ∃ s1, t.put (e x) (wipeE s vs) = some s1 ∧ g s1 m = .ok (p x) m ∧ (p x = true → f s1 m = .ok (h x) m)) : eLc fin src t g f vs s m = fin ((xs.filter p).map h) m := by
  unfold eLc
  rw [hs]
  simp only [bind_ok, List.length_map]
  rw [if_pos (decide_eq_true (le_size hz))]
  have go : ∀ ys : List α, (∀ x ∈ ys, x ∈ xs) → lcGo gs t g f (wipeE s vs) (ys.map e) m = .ok ((ys.filter p).map h) m := by
    intro ys
    induction ys with
    | nil => intro _; simp [lcGo, hg]
    | cons y ys ih =>
      intro hy
      obtain ⟨s1, h1, h2, h3⟩ := hb y (hy y List.mem_cons_self)
      have ih' := ih fun x hx => hy x (List.mem_cons_of_mem _ hx)
      simp only [List.map_cons, lcGo, hg, if_true, h1, h2]
      cases hp : p y with
      | false => simp [ih', hp]
      | true => simp [h3 hp, ih', hp]
  rw [go xs fun _ h => h, bind_ok]
/-- .. whose values are data -/
theorem lc_data {α : Type} {src : IX} {t : Tg} {g : EX Bool} {f : EX W} {vs : List Nat} {s : Ev} {m : Hm} (xs : List α) (e : α → W) (p : α → Bool) (h : α → PyData) {gs : List (Nat × List W)} (hs : src s m = .ok ⟨xs.map e, gs⟩ m) (hg : gOk m gs = true) (hz : xs.length ≤ 16777216)
    (hb : ∀ x ∈ xs, ∃ s1, t.put (e x) (wipeE s vs) = some s1 ∧ g s1 m = .ok (p x) m ∧ (p x = true → f s1 m = .ok (.p (h x)) m)) : eLc lcFin src t g f vs s m = .ok (.p (.list ((xs.filter p).map h))) m := by
  rw [lc_pure xs e p (fun x => .p (h x)) hs hg hz hb]
  have : ((xs.filter p).map fun x => W.p (h x)) = ((xs.filter p).map h).map W.p := by simp
  unfold lcFin
  rw [this, allP_map]
/-- .. all of it -/
theorem lc_map {α : Type} {src : IX} {t : Tg} {f : EX W} {vs : List Nat} {s : Ev} {m : Hm} (xs : List α) (e : α → W) (h : α → PyData) {gs : List (Nat × List W)} (hs : src s m = .ok ⟨xs.map e, gs⟩ m) (hg : gOk m gs = true) (hz : xs.length ≤ 16777216)
    (hb : ∀ x ∈ xs, ∃ s1, t.put (e x) (wipeE s vs) = some s1 ∧ f s1 m = .ok (.p (h x)) m) : eLc lcFin src t bYes f vs s m = .ok (.p (.list (xs.map h))) m := by
  rw [lc_data (g := bYes) xs e (fun _ => true) h hs hg hz fun x hx => let ⟨s1, a, b⟩ := hb x hx; ⟨s1, a, rfl, fun _ => b⟩]
  rw [List.filter_eq_self.mpr fun _ _ => rfl]
/-- a loop with a way out -/
def loopE {α β : Type} (st : β → α → β ⊕ (W × Hm)) : List α → β → β ⊕ (W × Hm)
  | [], b => .inl b
  | x :: xs, b => match st b x with
    | .inl b' => loopE st xs b'
    | .inr w => .inr w
def outE {β : Type} (I : β → Ev) (M : β → Hm) : β ⊕ (W × Hm) → SR
  | .inl b => some (.nx (I b), M b)
  | .inr (w, m) => some (.rt w, m)
theorem for_loop {α β : Type} {gs : List (Nat × List W)} {t : Tg} {body : SX} {e : α → W} {xs : List α} (st : β → α → β ⊕ (W × Hm)) (I : β → Ev) (M : β → Hm) (Iv : β → Prop) (hg : ∀ b, Iv b → gOk (M b) gs = true)
    (hb : ∀ b, ∀ x ∈ xs, Iv b → (∃ s1, t.put (e x) (I b) = some s1 ∧ body s1 (M b) = outE I M (st b x)) ∧ ∀ b', st b x = .inl b' → Iv b') (b : β) (h0 : Iv b) : forGo gs t body (xs.map e) (I b) (M b) = outE I M (loopE st xs b) ∧ ∀ b', loopE st xs b = .inl b' → Iv b' := by
  induction xs generalizing b with
  | nil =>
    simp only [loopE, forGo, List.map_nil, hg b h0, if_true, outE, Sum.inl.injEq]
    exact ⟨trivial, fun b' e => e ▸ h0⟩
  | cons x xs ih =>
    obtain ⟨⟨s1, h1, h2⟩, h3⟩ := hb b x List.mem_cons_self h0
    have ih := fun b' h => ih (fun b x hx => hb b x (List.mem_cons_of_mem _ hx)) b' h
    simp only [loopE, List.map_cons, forGo, hg b h0, if_true, h1, h2]
    cases hs : st b x with
    | inl b' => exact ih b' (h3 b' hs)
    | inr w => exact ⟨rfl, fun b' e => by cases e⟩
theorem for_rw {α β : Type} {gs : List (Nat × List W)} {t : Tg} {body : SX} {e : α → W} {xs : List α} {s : Ev} {m : Hm} (st : β → α → β ⊕ (W × Hm)) (I : β → Ev) (M : β → Hm) (Iv : β → Prop) (b : β) (hs : I b = s) (hm : M b = m) (hg : ∀ b, Iv b → gOk (M b) gs = true)
    (hb : ∀ b, ∀ x ∈ xs, Iv b → (∃ s1, t.put (e x) (I b) = some s1 ∧ body s1 (M b) = outE I M (st b x)) ∧ ∀ b', st b x = .inl b' → Iv b') (h0 : Iv b) : forGo gs t body (xs.map e) s m = outE I M (loopE st xs b) := by
  subst hs hm
  exact (for_loop st I M Iv hg hb b h0).1
/-- .. with what is behind known -/
theorem for_rwP {α β : Type} {gs : List (Nat × List W)} {t : Tg} {body : SX} {e : α → W} {xs : List α} {s : Ev} {m : Hm} (st : β → α → β ⊕ (W × Hm)) (I : β → Ev) (M : β → Hm) (Iv : List α → β → Prop) (b : β) (hs : I b = s) (hm : M b = m) (hg : ∀ pre b, Iv pre b → gOk (M b) gs = true)
    (hb : ∀ pre x post b, xs = pre ++ x :: post → Iv pre b → (∃ s1, t.put (e x) (I b) = some s1 ∧ body s1 (M b) = outE I M (st b x)) ∧ ∀ b', st b x = .inl b' → Iv (pre ++ [x]) b') (h0 : Iv [] b) : forGo gs t body (xs.map e) s m = outE I M (loopE st xs b) ∧ ∀ b', loopE st xs b = .inl b' → Iv xs b' := by
  subst hs hm
  have go : ∀ suf pre b, xs = pre ++ suf → Iv pre b → forGo gs t body (suf.map e) (I b) (M b) = outE I M (loopE st suf b) ∧ ∀ b', loopE st suf b = .inl b' → Iv xs b' := by
    intro suf
    induction suf with
    | nil =>
      intro pre b hx h0
      simp only [loopE, forGo, List.map_nil, hg pre b h0, if_true, outE, Sum.inl.injEq]
      exact ⟨trivial, fun b' e => by rw [hx, List.append_nil, ← e]; exact h0⟩
    | cons x suf ih =>
      intro pre b hx h0
      obtain ⟨⟨s1, h1, h2⟩, h3⟩ := hb pre x suf b hx h0
      simp only [loopE, List.map_cons, forGo, hg pre b h0, if_true, h1, h2]
      cases hs : st b x with
      | inl b' => exact ih (pre ++ [x]) b' (by rw [hx]; simp) (h3 b' hs)
      | inr w => exact ⟨rfl, fun b' e => by cases e⟩
  exact go xs [] b rfl h0
theorem loopE_total {α β : Type} {st : β → α → β ⊕ (W × Hm)} (h : ∀ b x, ∃ b', st b x = .inl b') : ∀ (xs : List α) (b : β), ∃ b', loopE st xs b = .inl b'
  | [], b => ⟨b, rfl⟩
  | x :: xs, b => by
    obtain ⟨b', e⟩ := h b x
    obtain ⟨b2, e2⟩ := loopE_total h xs b'
    exact ⟨b2, by simp only [loopE, e]; exact e2⟩
theorem flat_len {α β : Type} {f : α → List β} {n : Nat} (h : ∀ x, (f x).length ≤ n) : ∀ xs : List α, (xs.flatMap f).length ≤ n * xs.length
  | [] => by simp
  | x :: xs => by
    have h1 := flat_len h xs
    have h2 := h x
    rw [List.flatMap_cons, List.length_append, List.length_cons, Nat.mul_add]
    omega
theorem loopU_inr {α : Type} {st : Unit → α → Unit ⊕ (W × Hm)} {xs : List α} {q : W × Hm} (h : loopE st xs () = .inr q) : ∃ x ∈ xs, st () x = .inr q := by
  induction xs with
  | nil => cases h
  | cons x xs ih =>
    simp only [loopE] at h
    cases e : st () x with
    | inl b => rw [e] at h; obtain ⟨y, hy, q⟩ := ih h; exact ⟨y, List.mem_cons_of_mem _ hy, q⟩
    | inr p => rw [e] at h; cases h; exact ⟨x, List.mem_cons_self, e⟩
theorem loopU_inl {α : Type} {st : Unit → α → Unit ⊕ (W × Hm)} {xs : List α} {u : Unit} (h : loopE st xs () = .inl u) : ∀ x ∈ xs, st () x = .inl () := by
  induction xs with
  | nil => intro x hx; cases hx
  | cons x xs ih =>
    simp only [loopE] at h
    cases e : st () x with
    | inl b =>
      rw [e] at h
      intro y hy
      rcases List.mem_cons.mp hy with rfl | hy
      · exact e
      · exact ih h y hy
    | inr p => rw [e] at h; cases h
@[simp] theorem q_tidy {mask : List Nat} {f : SX} {s : Ev} {m : Hm} : sTidy mask f s m = match f s m with
  | some (.nx s1, m1) => some (.nx (tidy m.length mask s1 m1).1, (tidy m.length mask s1 m1).2)
  | some (.ct s1, m1) => some (.ct (tidy m.length mask s1 m1).1, (tidy m.length mask s1 m1).2)
  | r => r := rfl
@[simp] theorem tidy_same {mask : List Nat} {s : Ev} {m : Hm} : tidy m.length mask s m = (wipeE s mask, m) := by
  unfold tidy
  split <;> simp
theorem tidy_len {mask : List Nat} {k : Nat} {s : Ev} {m : Hm} (h : m.length = k) : tidy k mask s m = (wipeE s mask, m) := by
  subst h
  exact tidy_same
@[simp] theorem q_for {src : IX} {t : Tg} {body : SX} {s : Ev} {m : Hm} : sFor src t body s m = (src s m).st s fun sc m1 => forGo sc.gs t body sc.items s m1 := rfl
/-! lists of whole numbers, read -/
def RL (m : Hm) (w : W) (ns : List Int) : Prop := w = .p (.list (ns.map .int)) ∨ ∃ n, w = .loc n ∧ m[n]? = some (.lst (ns.map fun i => .p (.int i)))
section
variable {m : Hm} {w : W} {ns : List Int}
theorem RL.data : RL m (.p (.list (ns.map .int))) ns := .inl rfl
theorem RL.src (h : RL m w ns) : ∃ gs, srcOf w m = .ok ⟨ns.map fun i => .p (.int i), gs⟩ m ∧ gOk m gs = true := by
  rcases h with rfl | ⟨n, rfl, e⟩
  · exact ⟨[], by simp [srcOf, Function.comp_def], rfl⟩
  · exact ⟨[(n, ns.map fun i => .p (.int i))], by simp only [srcOf, e], by simp [gOk, e]⟩
theorem allP_ints (ns : List Int) : allP (ns.map fun i => .p (.int i)) = some (ns.map .int) := by
  have : (ns.map fun i => W.p (.int i)) = (ns.map PyData.int).map W.p := by simp
  rw [this, allP_map]
theorem RL.rd (h : RL m w ns) : Mir.rd m w = some (.list (ns.map .int)) := by
  rcases h with rfl | ⟨n, rfl, e⟩
  · rfl
  · simp [Mir.rd, e, allP_ints]
theorem RL.len (h : RL m w ns) : lenM [w] m = .ok (.p (.int ns.length)) m := by
  rcases h with rfl | ⟨n, rfl, e⟩
  · simp
  · simp [lenM, seqW, e]
theorem any_eqv (v : Int) (ns : List Int) : (ns.any ((fun z => PyData.eqv z (.int v)) ∘ PyData.int)) = decide (v ∈ ns) := by
  rw [Bool.eq_iff_iff]
  simp [PyData.eqv]
theorem lay_ints (ns : List Int) : PyData.canLayAll0 (ns.map .int) = true ∧ PyData.depthAll (ns.map .int) = 0 := by
  induction ns with
  | nil => exact ⟨rfl, rfl⟩
  | cons n ns ih => simp [PyData.canLayAll0, PyData.depthAll, PyData.canLay0, PyData.depth, ih]
theorem sh_ints (ns : List Int) : SeqAt.shaped (.list (ns.map .int)) = true := by
  simp [SeqAt.shaped, PyData.canLay0, PyData.depth, lay_ints]
theorem sh_int (i : Int) : SeqAt.shaped (.int i) = true := rfl
theorem RL.inn (h : RL m w ns) (v : Int) : inM false (.p (.int v)) w m = .ok (.p (.bool (decide (v ∈ ns)))) m ∧ inM true (.p (.int v)) w m = .ok (.p (.bool (!decide (v ∈ ns)))) m := by
  have e := h.rd
  constructor <;> simp [inM, e, sh_ints, sh_int, any_eqv]
@[simp] theorem o_inT (v : Int) (ns : List Int) : inM false (.p (.int v)) (.p (.tuple (ns.map .int))) m = .ok (.p (.bool (decide (v ∈ ns)))) m := by
  have : ((ns.map PyData.int).all flatP) = true := by simp [flatP]
  simp [inM, flatP, any_eqv]
end
@[simp] theorem fin_p {α : Type} (xs : List α) (h : α → PyData) (m : Hm) : lcFin (xs.map fun x => .p (h x)) m = .ok (.p (.list (xs.map h))) m := by
  have : (xs.map fun x => W.p (h x)) = (xs.map h).map W.p := by simp
  unfold lcFin
  rw [this, allP_map]
theorem endFn_p {fz : Bool} {d : PyData} {m : Hm} : endFn fz m.length (.p d) m = .ok (.p d) m := by
  unfold endFn
  simp [okW]
@[simp] theorem r_lm {k : W → List W → Hm → Res W} {f : EX W} {fs : EX (List W)} {s : Ev} {m : Hm} : eLM k f fs s m = (f s m).bind fun w m1 => if lstAt w m1 = true then (fs s m1).bind fun ws m2 => k w ws m2 else .stuck := rfl
theorem lstAt_loc {m : Hm} {n : Nat} {ws : List W} (h : m[n]? = some (.lst ws)) : lstAt (.loc n) m = true := by simp [lstAt, isL, seqW, h]
theorem o_remove {m : Hm} {n : Nat} {ns : List Int} {k : Int} (h : m[n]? = some (.lst (ns.map fun i => .p (.int i)))) (hk : k ∈ ns) : removeM (.loc n) [.p (.int k)] m = .ok (.p .none) (m.set n (.lst ((ns.erase k).map fun i => .p (.int i)))) := by
  simp [removeM, h, allP_ints, hk, Function.comp_def]
theorem o_append {m : Hm} {n : Nat} {ws : List W} {y : W} (h : m[n]? = some (.lst ws)) (hl : ws.length < 16777216) : appendM (.loc n) [y] m = .ok (.p .none) (m.set n (.lst (ws ++ [y]))) := by
  simp [appendM, h, sizeLine_eq, hl]
@[simp] theorem r_none {s : Ev} {m : Hm} : oNone s m = .ok none m := rfl
@[simp] theorem r_some {f : EX W} {s : Ev} {m : Hm} : oSome f s m = (f s m).bind fun w m1 => match w with
  | .p (.int i) => .ok (some i) m1
  | _ => .stuck := rfl
@[simp] theorem r_cut {f : EX W} {fl fh : PX} {s : Ev} {m : Hm} : eCut f fl fh s m = (f s m).bind fun w m1 => (fl s m1).bind fun lo m2 => (fh s m2).bind fun hi m3 => cutM w lo hi m3 := rfl
@[simp] theorem o_isNone {w : W} {m : Hm} {b : Bool} : isNoneM b w (.p .none) m = .ok (.p (.bool (if b = true then !isNone w else isNone w))) m := rfl
@[simp] theorem isNone_loc {n : Nat} : isNone (.loc n) = false := rfl
@[simp] theorem isNone_n : isNone (.p .none) = true := rfl
@[simp] theorem isNone_t {ds : List PyData} : isNone (.p (.tuple ds)) = false := rfl
@[simp] theorem isNone_l {ds : List PyData} : isNone (.p (.list ds)) = false := rfl
@[simp] theorem r_rg1 {k : RK} {f : EX W} {s : Ev} {m : Hm} : eRg1 k f s m = (f s m).bind fun w m1 => match w with
  | .p (.int n) => rgMk k 0 n m1
  | _ => .stuck := rfl
@[simp] theorem r_iseq {f : EX W} {s : Ev} {m : Hm} : iSeq f s m = (f s m).bind srcOf := rfl
@[simp] theorem r_irg1 {f : EX W} {s : Ev} {m : Hm} : iRg1 f s m = (f s m).bind fun w m1 => match w with
  | .p (.int n) => if (decide (-1000000 ≤ n) && decide (n ≤ 1000000)) = true then .ok ⟨(rgP 0 n).map .p, []⟩ m1 else .stuck
  | _ => .stuck := rfl
@[simp] theorem srcOf_l {ds : List PyData} {m : Hm} : srcOf (.p (.list ds)) m = .ok ⟨ds.map .p, []⟩ m := rfl
@[simp] theorem srcOf_t {ds : List PyData} {m : Hm} : srcOf (.p (.tuple ds)) m = .ok ⟨ds.map .p, []⟩ m := rfl
def rgI (n : Nat) : List Int := (List.range n).map fun i : Nat => (i : Int)
theorem rgP_eq (n : Nat) : rgP 0 (n : Int) = (rgI n).map .int := by simp [rgP, rgI]
theorem rg_c {n : Nat} {m : Hm} (h : n ≤ 1000000) : rgMk .c 0 (n : Int) m = .ok (.loc m.length) (m ++ [.lst ((rgI n).map fun i => .p (.int i))]) := by
  unfold rgMk
  rw [if_pos (by simp [rgOk]; omega), rgP_eq]
  simp [Function.comp_def]
theorem rg_l {n : Nat} {m : Hm} (h : n ≤ 1000000) : rgMk .l 0 (n : Int) m = .ok (.p (.list ((rgI n).map .int))) m := by
  unfold rgMk
  rw [if_pos (by simp [rgOk]; omega), rgP_eq]
theorem rg_it {n : Nat} {m : Hm} (h : n ≤ 1000000) : (if (decide (-1000000 ≤ (n : Int)) && decide ((n : Int) ≤ 1000000)) = true then (.ok ⟨(rgP 0 n).map .p, []⟩ m : Res Src) else .stuck) = .ok ⟨(rgI n).map fun i => .p (.int i), []⟩ m := by
  rw [if_pos (by simp; omega), rgP_eq]
  simp [Function.comp_def]
theorem frzL_p {f : W → Option PyData} (hf : ∀ d, f (.p d) = some d) (ds : List PyData) : frzL f (ds.map .p) = some ds := by
  induction ds with
  | nil => rfl
  | cons d ds ih => simp [frzL, hf, ih]
theorem frz_p {k n : Nat} {m : Hm} {d : PyData} : frz k m n (.p d) = some d := by cases n <;> rfl
theorem frzL_map {α : Type} {k n : Nat} {m : Hm} (h : α → PyData) (xs : List α) : frzL (frz k m n) (xs.map fun i => .p (h i)) = some (xs.map h) := by
  have := frzL_p (f := frz k m n) (fun d => frz_p) (xs.map h)
  simpa [Function.comp_def] using this
theorem frz_loc {α : Type} {k n j : Nat} {m : Hm} {h : α → PyData} {xs : List α} (hk : k ≤ j) (hy : m[j]? = some (.lst (xs.map fun i => .p (h i)))) : frz k m (n + 1) (.loc j) = some (.list (xs.map h)) := by
  show (if k ≤ j then (match m[j]? with
    | some (.lst ws) => (frzL (frz k m n) ws).map PyData.list
    | _ => none) else none) = _
  rw [if_pos hk, hy]
  simp only [frzL_map, Option.map_some]
/-- at the end of a def with one cell of old -/
theorem end1_p {fz : Bool} {x : Cell} {r : Hm} {d : PyData} (hx : okC 1 x = true) : endFn fz 1 (.p d) (x :: r) = .ok (.p d) [x] := by
  simp [endFn, okM, okW, hx]
theorem end1_l {α : Type} {x : Cell} {y z : Hm} {xs : List α} {h : α → PyData} {k : Nat} (hx : okC 1 x = true) (hk : 1 ≤ k) (hy : (x :: y)[k]? = some (.lst (xs.map fun i => .p (h i)))) : endFn true 1 (.loc k) (x :: y) = .ok (.p (.list (xs.map h))) [x] := by
  have : ¬ k < 1 := by omega
  have e := frz_loc (n := 3) hk hy
  unfold endFn
  rw [e]
  simp [okM, okW, hx, this]
theorem o_addL {xs ys : List PyData} {m : Hm} (h : xs.length + ys.length ≤ 16777216) : addM (.p (.list xs)) (.p (.list ys)) m = .ok (.p (.list (xs ++ ys))) m := by
  simp [addM, sizeLine_eq, h]
theorem o_addT {xs ys : List PyData} {m : Hm} (h : xs.length + ys.length ≤ 16777216) : addM (.p (.tuple xs)) (.p (.tuple ys)) m = .ok (.p (.tuple (xs ++ ys))) m := by
  simp [addM, sizeLine_eq, h]
/-! ### the stream -/
def strm (ns : List Int) (c k : Int) : Cell := .lst [.p (.list (ns.map .int)), .p (.int c), .p (.int k)]
theorem endFn_len {fz : Bool} {d : PyData} {k : Nat} {m : Hm} (h : m.length = k) : endFn fz k (.p d) m = .ok (.p d) m := by
  subst h
  exact endFn_p
theorem o_mod {i j : Int} {m : Hm} (h : 0 < j) : modM (.p (.int i)) (.p (.int j)) m = .ok (.p (.int (i % j))) m := by simp [modM, intM, h]
theorem o_div {i j : Int} {m : Hm} (h : 0 < j) (h2 : j < 1073741824) : divM (.p (.int i)) (.p (.int j)) m = .ok (.p (.int (i / j))) m := by simp [divM, intM, h, h2]
theorem o_mulr {i j : Int} {m : Hm} (h : smallI j = true) : mulI (.p (.int i)) (.p (.int j)) m = .ok (.p (.int (i * j))) m := by simp [mulI, intM, h]
theorem o_pow18 {m : Hm} : powM (.p (.int 10)) (.p (.int 18)) m = .ok (.p (.int 1000000000000000000)) m := Eq.trans (b := powM (.p (.int 10)) (.p (.int 18)) m) rfl rfl
@[simp] theorem o_int {i : Int} {m : Hm} : intM1 [.p (.int i)] m = .ok (.p (.int i)) m := rfl
@[simp] theorem o_intb {b : Bool} {m : Hm} : intM1 [.p (.bool b)] m = .ok (.p (.int (if b = true then 1 else 0))) m := by cases b <;> rfl
@[simp] theorem o_abs {i : Int} {m : Hm} : absM [.p (.int i)] m = .ok (.p (.int (if i < 0 then -i else i))) m := rfl
@[simp] theorem o_ixC {n : Nat} {i : Int} {m : Hm} : idxM (.loc n) (.p (.int i)) m = match m[n]? with
  | some (.lst ws) => (match atI ws i with
    | some w => .ok w m
    | none => .stuck)
  | _ => .stuck := rfl
/-- a loop whose turns are known by what they leave -/
theorem for_ex {α : Type} {gs : List (Nat × List W)} {t : Tg} {body : SX} {e : α → W} {xs : List α} {s : Ev} {m : Hm} (Iv : List α → Ev → Hm → Prop) (hg : ∀ pre s m, Iv pre s m → gOk m gs = true)
    (hb : ∀ pre x post s m, xs = pre ++ x :: post → Iv pre s m → ∃ s1, t.put (e x) s = some s1 ∧ ∃ s' m', body s1 m = some (.nx s', m') ∧ Iv (pre ++ [x]) s' m') (h0 : Iv [] s m) : ∃ s' m', forGo gs t body (xs.map e) s m = some (.nx s', m') ∧ Iv xs s' m' := by
  have go : ∀ suf pre s m, xs = pre ++ suf → Iv pre s m → ∃ s' m', forGo gs t body (suf.map e) s m = some (.nx s', m') ∧ Iv xs s' m' := by
    intro suf
    induction suf with
    | nil =>
      intro pre s m hx h0
      exact ⟨s, m, by simp [forGo, hg pre s m h0], by rw [hx, List.append_nil]; exact h0⟩
    | cons x suf ih =>
      intro pre s m hx h0
      obtain ⟨s1, h1, s2, m2, h2, h3⟩ := hb pre x suf s m hx h0
      obtain ⟨s3, m3, h4, h5⟩ := ih (pre ++ [x]) s2 m2 (by rw [hx]; simp) h3
      exact ⟨s3, m3, by simp only [List.map_cons, forGo, hg pre s m h0, if_true, h1, h2]; exact h4, h5⟩
  exact go xs [] s m rfl h0
/-- a comprehension whose test draws -/
theorem lcGo_draw {α : Type} {t : Tg} {g : EX Bool} {f : EX W} {s : Ev} {ns : List Int} {r : Hm} {e : α → W} (h : α → PyData) : ∀ (xs : List α) (c : Int) (k : Nat),
    (∀ x ∈ xs, ∃ s1, t.put (e x) s = some s1 ∧ (∀ (c : Int) (k : Nat), ∃ (b : Bool) (c' : Int) (k' : Nat), g s1 (strm ns c k :: r) = .ok b (strm ns c' k' :: r)) ∧ ∀ m, f s1 m = .ok (.p (h x)) m) →
    ∃ (sub : List α) (c' : Int) (k' : Nat), lcGo [] t g f s (xs.map e) (strm ns c k :: r) = .ok ((sub.map h).map .p) (strm ns c' k' :: r) ∧ sub.Sublist xs
  | [], c, k, _ => ⟨[], c, k, by simp [lcGo], .slnil⟩
  | x :: xs, c, k, hb => by
    obtain ⟨s1, h1, h2, h3⟩ := hb x List.mem_cons_self
    obtain ⟨b, c1, k1, h4⟩ := h2 c k
    obtain ⟨sub, c2, k2, h5, h6⟩ := lcGo_draw h xs c1 k1 fun y hy => hb y (List.mem_cons_of_mem _ hy)
    cases b with
    | false => exact ⟨sub, c2, k2, by simp only [List.map_cons, lcGo, gOk_nil, if_true, h1, h4]; simpa using h5, h6.cons _⟩
    | true => exact ⟨x :: sub, c2, k2, by simp only [List.map_cons, lcGo, gOk_nil, if_true, h1, h4, h3, h5, bind_ok], h6.cons₂ _⟩
@[simp] theorem okC_strm {ns : List Int} {c k : Int} {n : Nat} : okC n (strm ns c k) = true := rfl
theorem rgP_int (n : Int) : rgP 0 n = (rgI n.toNat).map .int := by simp [rgP, rgI]
theorem atI_mem {α : Type} {xs : List α} {d : Int} (h0 : 0 ≤ d) (h1 : d < xs.length) : ∃ x ∈ xs, atI xs d = some x := by
  obtain ⟨k, rfl⟩ := Int.eq_ofNat_of_zero_le h0
  have hk : k < xs.length := by omega
  exact ⟨xs[k], List.getElem_mem hk, by rw [atI_lit]; exact List.getElem?_eq_getElem hk⟩
theorem cutA_mem {α : Type} {xs : List α} {lo hi : Option Int} : ∀ x ∈ cutA xs lo hi, x ∈ xs := fun x hx => List.mem_of_mem_drop (List.mem_of_mem_take hx)
theorem cutA_to {α : Type} {xs : List α} {n : Nat} : cutA xs none (some (n : Int)) = xs.take n := by
  unfold cutA
  rw [HT.sIx_none, HT.sIx_nat]
  simp
/-! shapes of data -/
def Sh (n : Nat) (d : PyData) : Prop := d.canLay0 = true ∧ d.depth ≤ n
theorem Sh.mono {m n : Nat} {d : PyData} (h : Sh m d) (k : m ≤ n) : Sh n d := ⟨h.1, Nat.le_trans h.2 k⟩
theorem Sh.ok {n : Nat} {d : PyData} (h : Sh n d) (k : n ≤ 64) : SeqAt.shaped d = true := by
  unfold SeqAt.shaped
  rw [h.1]
  exact decide_eq_true (Nat.le_trans h.2 k)
theorem sh_all {n : Nat} : ∀ {xs : List PyData}, (∀ x ∈ xs, Sh n x) → PyData.canLayAll0 xs = true ∧ PyData.depthAll xs ≤ n
  | [], _ => ⟨rfl, Nat.zero_le _⟩
  | x :: xs, h => by
    have h1 := h x List.mem_cons_self
    have h2 := sh_all fun y hy => h y (List.mem_cons_of_mem _ hy)
    exact ⟨by unfold PyData.canLayAll0; rw [h1.1, h2.1]; rfl, by unfold PyData.depthAll; exact Nat.max_le.mpr ⟨h1.2, h2.2⟩⟩
theorem Sh.tup {n : Nat} {xs : List PyData} (h : ∀ x ∈ xs, Sh n x) : Sh (n + 1) (.tuple xs) := ⟨by unfold PyData.canLay0; exact (sh_all h).1, by unfold PyData.depth; exact Nat.succ_le_succ (sh_all h).2⟩
theorem Sh.lst {n : Nat} {xs : List PyData} (h : ∀ x ∈ xs, Sh n x) : Sh (n + 1) (.list xs) := ⟨by unfold PyData.canLay0; exact (sh_all h).1, by unfold PyData.depth; exact Nat.succ_le_succ (sh_all h).2⟩
theorem Sh.int {n : Nat} (i : Int) : Sh n (.int i) := ⟨rfl, Nat.zero_le _⟩
theorem Sh.non {n : Nat} : Sh n .none := ⟨rfl, Nat.zero_le _⟩
theorem Sh.bl {n : Nat} (b : Bool) : Sh n (.bool b) := ⟨rfl, Nat.zero_le _⟩
end Mir

namespace Mir
open PySem PySem.Spec PyProof.Rows L2

/-! ### sorted(xs) of data -/
abbrev byD {α : Type} (p q : α × PyData) : Bool := PySem.W.dataLe false (fun b : α × PyData => b.2) p q
def rSortD (K : PySem.W.Frag) : List V → Hp → VK → Prop := fun vs H Q => ∃ (a : Addr) (xs : List V) (ds : List PyData), vs = [V.ref a] ∧ SqL K H a xs ∧ DpAll K H xs ds ∧ PySem.W.AllAlike ds ∧ PySem.W.Sortable ds ∧ (∀ d ∈ ds, d.depth ≤ 60) ∧
  ∀ p, H p = none → Q (.ref p) (upd H p (.lst (((xs.zip ds).mergeSort byD).map (·.1))))
theorem dp_len {K : PySem.W.Frag} {H : Hp} : ∀ {xs : List V} {ds : List PyData}, DpAll K H xs ds → xs.length = ds.length
  | _, _, .nil => rfl
  | _, _, .cons _ t => by simp [dp_len t]
theorem cr_sortedD {X : Cx} (hu : X.A.units + 65 < cLine) : CallR X (.builtin "sorted") (rSortD X.K) := by
  intro pins s σ H vs us Q I r h
  obtain ⟨a, xs, ds, rfl, hs, hd, hal, hk, hdp, q⟩ := h
  obtain ⟨its, rv, hl, hz⟩ := I.list hs
  rw [Vals.ref1 r]
  have len := dp_len hd
  have snd : (xs.zip ds).map (·.2) = ds := by
    have : (xs.zip ds).map Prod.snd = ds := List.map_snd_zip (Nat.le_of_eq len.symm)
    exact this
  have each : ∀ {xs : List V} {ds : List PyData} {its : List Value}, DpAll X.K H xs ds → Vals xs its → PySem.W.EachIs (fun (u : Value) (b : V × PyData) => RelV b.1 u) its (xs.zip ds) ∧ PySem.W.EachIs (fun (u : Value) (b : V × PyData) => ∃ as, Reads s.heap u b.2 as) its (xs.zip ds) := by
    intro xs
    induction xs with
    | nil => intro ds its h r; cases h; cases r; exact ⟨.nil, .nil⟩
    | cons x xs ih =>
      intro ds its h r
      cases h with
      | cons h1 h2 =>
        cases r with
        | cons r1 r2 =>
          obtain ⟨e1, e2⟩ := ih h2 r2
          exact ⟨.cons r1 e1, .cons (Dp.reads I _ _ _ h1 r1) e2⟩
  obtain ⟨e1, e2⟩ := each hd rv
  have lz : (xs.zip ds).length = xs.length := by rw [List.length_zip, len, Nat.min_self]
  refine PySem.W.sorted_data (enc := fun b : V × PyData => b.2) (R := fun (u : Value) (b : V × PyData) => RelV b.1 u) hl.isList e1 e2 (by rw [snd]; exact hal) (by rw [snd]; exact hk) (by rw [lz]; exact hz)
    (fun b hb => by
      have : b.2 ∈ ds := by rw [← snd]; exact List.mem_map.mpr ⟨b, hb, rfl⟩
      have := hdp _ this
      omega) fun out ho hout => ?_
  obtain ⟨ep, he'⟩ := PyProof.Rows.sortedAll_at s.heap its out.toArray
  have back : ∀ {us : List Value} {bs : List (V × PyData)}, PySem.W.EachIs (fun (u : Value) (b : V × PyData) => RelV b.1 u) us bs → Vals (bs.map (·.1)) us := by
    intro us bs h
    induction h with
    | nil => exact .nil
    | cons h _ ih => exact .cons h ih
  have hlen : (((xs.zip ds).mergeSort byD).map (·.1)).length ≤ sizeLine := by
    rw [List.length_map, List.length_mergeSort, lz]; exact hz
  exact ⟨.ref _, upd H (s.heap.objs.size + 1) (.lst (((xs.zip ds).mergeSort byD).map (·.1))), I.laid (t' := s.toks) (fun _ _ => PyProof.Rows.sortedAll_old) (Nat.le_succ _) ⟨hlen, out, ep, back hout, he'⟩, rfl, q _ (I.hok.fresh (Nat.le_succ _))⟩
def alikeB (ds : List PyData) : Bool := ds.all fun d => ds.all fun e => PySem.W.alike d e
def hdT : PyData → Bool
  | .tuple (_ :: _) => true
  | _ => false
def noT : PyData → Bool
  | .tuple _ => false
  | .none => false
  | _ => true
def sortB (ds : List PyData) : Bool := alikeB ds && ((ds.all hdT || ds.all noT) && ds.all fun d => decide (d.depth ≤ 60))
def insB {α : Type} (le : α → α → Bool) (a : α) : List α → List α
  | [] => [a]
  | b :: bs => if le a b = true then a :: b :: bs else b :: insB le a bs
def isortB {α : Type} (le : α → α → Bool) : List α → List α
  | [] => []
  | a :: l => insB le a (isortB le l)
theorem insB_mid {α : Type} {le : α → α → Bool} {a : α} : ∀ {l1 l2 : List α}, (∀ b ∈ l1, le a b = false) → (∀ b ∈ l2, le a b = true) → insB le a (l1 ++ l2) = l1 ++ a :: l2
  | [], [], _, _ => rfl
  | [], b :: l2, _, h => by simp [insB, h b List.mem_cons_self]
  | b :: l1, l2, h1, h2 => by
    have := insB_mid (l1 := l1) (l2 := l2) (fun c hc => h1 c (List.mem_cons_of_mem _ hc)) h2
    simp [insB, h1 b List.mem_cons_self, this]
theorem isortB_eq {α : Type} {le : α → α → Bool} (trans : ∀ a b c, le a b = true → le b c = true → le a c = true) (total : ∀ a b, (le a b || le b a) = true) : ∀ l : List α, l.mergeSort le = isortB le l
  | [] => by simp [isortB]
  | a :: l => by
    obtain ⟨l1, l2, e1, e2, h⟩ := List.mergeSort_cons trans total a l
    have pw := List.pairwise_mergeSort trans total (a :: l)
    rw [e1] at pw
    have h2 : ∀ b ∈ l2, le a b = true := fun b hb => (List.pairwise_cons.mp (List.pairwise_append.mp pw).2.1).1 b hb
    rw [e1, isortB, ← isortB_eq trans total l, e2, insB_mid (fun b hb => by simpa using h b hb) h2]
def srt (ds : List PyData) : List PyData := isortB (PySem.W.dataLe false id) ds
theorem srt_eq (ds : List PyData) : ds.mergeSort (PySem.W.dataLe false id) = srt ds := by
  have T := PySem.W.sortLe_total (PyProof.Rows.listOrd PyProof.Rows.itemOrd) false (fun b : PyData => PySem.W.keyToks b)
  exact isortB_eq (le := PySem.W.dataLe false id) (fun a b c => T.trans a b c) (fun a b => Bool.or_eq_true_iff.mpr (T.total a b)) ds
def sortedM : List W → Hm → Res W
  | [w], m => if isL w = true then (match (seqW m w).bind allP with
    | some ds => if sortB ds = true then .ok (.p (.list (srt ds))) m else .stuck
    | none => .stuck) else .stuck
  | _, _ => .stuck
theorem rp_pairs {K : PySem.W.Frag} {c : Cfg} {H : Hp} : ∀ {L : List (V × PyData)}, (∀ p ∈ L, Rp K c H p.1 p.2) → RpAll K c H (L.map (·.1)) (L.map (·.2))
  | [], _ => .nil
  | p :: L, h => .cons (h p List.mem_cons_self) (rp_pairs fun q hq => h q (List.mem_cons_of_mem _ hq))
theorem rp_zip {K : PySem.W.Frag} {c : Cfg} {H : Hp} : ∀ {xs : List V} {ds : List PyData}, RpAll K c H xs ds → ∀ p ∈ xs.zip ds, Rp K c H p.1 p.2
  | _, _, .nil, p, h => by cases h
  | _, _, .cons r t, p, h => by
    rcases List.mem_cons.mp h with rfl | h
    · exact r
    · exact rp_zip t p h
theorem srt_zip {xs : List V} {ds : List PyData} (h : xs.length = ds.length) : ((xs.zip ds).mergeSort byD).map (·.2) = srt ds := by
  have e := List.map_mergeSort (r := byD) (s := PySem.W.dataLe false id) (f := fun b : V × PyData => b.2) (l := xs.zip ds) fun a _ b _ => rfl
  rw [e]
  have : (xs.zip ds).map Prod.snd = ds := List.map_snd_zip (Nat.le_of_eq h.symm)
  rw [← srt_eq]
  exact congrArg (fun l => l.mergeSort (PySem.W.dataLe false id)) this
theorem sortB_ok {ds : List PyData} (h : sortB ds = true) : PySem.W.AllAlike ds ∧ PySem.W.Sortable ds ∧ ∀ d ∈ ds, d.depth ≤ 60 := by
  unfold sortB alikeB at h
  simp only [Bool.and_eq_true, Bool.or_eq_true, List.all_eq_true, decide_eq_true_eq] at h
  refine ⟨fun d hd e he => h.1 d hd e he, h.2.1.imp (fun q d hd => ?_) (fun q d hd => ?_), h.2.2⟩
  · have := q d hd
    cases d with
    | tuple xs => cases xs with
      | nil => cases this
      | cons x r => exact ⟨x, r, rfl⟩
    | _ => cases this
  · have := q d hd
    cases d with
    | tuple => cases this
    | none => cases this
    | _ => exact ⟨by simp, by simp⟩
theorem sortedM_ok {K : PySem.W.Frag} : CallM K (rSortD K) sortedM := by
  intro U σ c H m vs ws Q hm r hp
  unfold sortedM at hp
  split at hp
  · obtain ⟨v, rfl, r1⟩ := r.oneI
    split at hp
    · rename_i hl
      split at hp
      · rename_i ds ed
        obtain ⟨ws', e1, e2⟩ := Option.bind_eq_some_iff.mp ed
        obtain ⟨a, xs, rfl, hs, z, rr⟩ := seqW_list hm r1 e1 hl
        have ra := allP_rp rr e2
        split at hp
        · rename_i hb
          obtain ⟨b1, b2, b3⟩ := sortB_ok hb
          refine ⟨a, xs, ds, rfl, hs, ra.dp, b1, b2, b3, fun p hpn => ?_⟩
          have len := ra.length
          have hL : ∀ q ∈ (xs.zip ds).mergeSort byD, Rp K c H q.1 q.2 := fun q hq => rp_zip ra q (List.mem_mergeSort.mp hq)
          have rp := rp_pairs hL
          rw [srt_zip len] at rp
          have lz : (((xs.zip ds).mergeSort byD).map (·.1)).length ≤ sizeLine := by
            rw [List.length_map, List.length_mergeSort, List.length_zip, len, Nat.min_self, ← len]; exact z
          exact hp c _ (Ext.new hpn) (hm.new hpn) _ (.p (Rp.newL hm hpn lz rp))
        · exact hp.elim
      · exact hp.elim
    · exact hp.elim
  · exact hp.elim
end Mir

namespace Mir
open PySem PySem.Spec PyProof.Rows L2

/-! ### tuples whose object is known: their methods may be called -/
def unK : W → W
  | .kt ds => .p (.tuple ds)
  | w => w
theorem unK_ok {K : PySem.W.Frag} {c : Cfg} {H : Hp} {v : V} {w : W} (r : RpW K c H v w) : RpW K c H v (unK w) := by
  cases w with
  | kt ds => exact r.ktI
  | _ => exact r
def eUn (f : EX W) : EX W := fun s m => (f s m).bind fun w m1 => .ok (unK w) m1
theorem x_un {X : Cx} {U : WX} {e : Expr} {f : EX W} (h : PE X e (T X.K U f)) : PE X e (T X.K U (eUn f)) := by
  refine imp h ?_
  rintro σ H Q ⟨c, s, m, hs, hm, hp⟩
  exact T.run hs hm hp fun c1 H1 w m1 v e1 hs1 hm1 rv hp1 => hp1.ok hm1 v (unK_ok rv)
/-- tuple(a list), the object kept in mind -/
def rTupK (K : PySem.W.Frag) : List V → Hp → VK → Prop := fun xs H Q => ∃ p ys, xs = [V.ref p] ∧ SqL K H p ys ∧ ∀ (o : Obj) (l : Addr), o.dict = none → H l = none → Q (.ref l) (upd H l (.frz o (.tup ys)))
theorem call_tupK {X : Cx} : CallR X (.type "tuple") (rTupK X.K) := by
  intro pins s σ H xs us Q I r h
  obtain ⟨p, ys, rfl, hq, q⟩ := h
  obtain ⟨u, rfl, rx⟩ := vals1 r
  cases rx
  obtain ⟨its, rv, pl, hz⟩ := I.list hq
  have hlen := rv.length
  refine call_tuple_list pl.isList (fun g kp => ?_) (by simp only [List.size_toArray] <;> omega)
  have I1 : Inv X pins σ H { s with heap := g } := I.kept (t' := s.toks) kp
  refine ⟨.ref g.objs.size, upd H g.objs.size (.frz { cls := .type "tuple", data := .seq its.toArray } (.tup ys)), ?_, rfl, q _ _ rfl (I1.hok.fresh (Nat.le_refl _))⟩
  exact I1.laid (t' := s.toks) (fun b o e => Heap.get?_push_of_some _ e) (Nat.le_refl _) ⟨Heap.get?_push_size _ rfl, hz, its, rv, IsTup.new _ _⟩
def tupleK : List W → Hm → Res W
  | [w], m => if isL w = true then (match (seqW m w).bind allP with
    | some ds => .ok (.kt ds) m
    | none => .stuck) else .stuck
  | _, _ => .stuck
theorem tupleK_ok {K : PySem.W.Frag} : CallM K (rTupK K) tupleK := by
  intro U σ c H m vs ws Q hm r hp
  unfold tupleK at hp
  split at hp
  · obtain ⟨v, rfl, r1⟩ := r.oneI
    split at hp
    · rename_i hl
      split at hp
      · rename_i ds ed
        obtain ⟨ws', e1, e2⟩ := Option.bind_eq_some_iff.mp ed
        obtain ⟨a, xs, rfl, hs, z, rr⟩ := seqW_list hm r1 e1 hl
        have ra := allP_rp rr e2
        exact ⟨a, xs, rfl, hs, fun o l ho hl => hp c _ (Ext.new hl) (hm.new hl) _ (.kt upd_same ho (hm.free hl).1 (hm.free hl).2 z (ra.mono (Ext.new hl)))⟩
      · exact hp.elim
    · exact hp.elim
  · exact hp.elim
/-- o.m(e, ..) of such a tuple -/
def Known (x : V) (H : Hp) : Prop := ∃ a o xs, x = V.ref a ∧ H a = some (.frz o (.tup xs)) ∧ o.dict = none
theorem known_is {X : Cx} {pins : List (Addr × Obj)} {σ : L2.St} {H : Hp} {s : Shared} {x : V} {v : Value} (I : Inv X pins σ H s) (r : RelV x v) (k : Known x H) : s.TypeIs v "tuple" ∧ ∀ a, v = .ref a → ∃ ob, s.heap.get? a = some ob ∧ ob.dict = none := by
  obtain ⟨a, o, xs, rfl, ha, hd⟩ := k
  cases r
  obtain ⟨he, _, its, _, o', ho', hc, _⟩ := I.hok a _ ha
  exact ⟨⟨o', ho', hc⟩, fun b e => by cases e; exact ⟨o, he, hd⟩⟩
section
variable {X : Cx} {o e : Expr} {es : List Expr} {to : TE} {t : TA} {name : Str} {apos cpos : Pos} {id : String} {r : V → List V → Hp → VK → Prop}
theorem pe_known (slot : Slot "tuple" name id) (hty : typeOf (.builtin id) = pure (.type "method_descriptor")) (hm : MtR X id r) (ho : PE X o to) (ha : PA X (e :: es) t) (hbase : attributeBase o name X.env (eval o X.env) = eval o X.env := by rfl)
    (hfew : ((backTo cpos (starEach (e :: es) X.env)).all (fun x => !x.1) && (backToKw cpos (keywordEach [] X.env)).all (fun x => x.1.isSome) && decide ((e :: es).length + ([] : List Keyword).length + (if ([] : List Keyword).isEmpty then 0 else 1) < 30)) = true := by rfl)
    (hline : (apos.endLine == cpos.line) = true := by rfl) (hs : starEach (e :: es) X.env = (false, eval e X.env) :: starEach es X.env := by rfl) (hplain : (backTo cpos (starEach es X.env)).any (·.1) = false := by rfl) :
    PE X (.Call (.Attribute o name apos) (e :: es) [] cpos) (fun σ H Q => to σ H fun x H1 => Known x H1 ∧ t σ H1 fun xs H2 => r x xs H2 Q) := by
  refine ⟨fun pins s σ H Q I h => ?_⟩
  refine wpAny_Call_method_late hbase hfew hline rfl (thn (ho.run pins s σ H _ I h) fun v s1 ⟨x, H1, I1, r1, kn, q1⟩ => ?_)
  obtain ⟨h1, h2⟩ := known_is I1 r1 kn
  refine ⟨"tuple", id, PySem.F.plainAttrs_tuple, slot, hty, h1, h2, ?_⟩
  have hA := ha.run cpos pins s1 σ H1 _ I1 q1
  rw [hs] at hA ⊢
  refine Calls.callWith_builtin (by show (false || (backTo cpos (starEach es X.env)).any (·.1)) = false; rw [hplain] <;> rfl) (Calls.evalArgs_plain ?_)
  exact thn hA fun us s2 ⟨vs, H2, I2, r2, q2⟩ => hm pins s2 σ H2 x vs v us Q I2 r1 r2 q2
end
/-- t.index(x) of data that is there -/
def rTix (K : PySem.W.Frag) : V → List V → Hp → VK → Prop := fun x xs H Q => ∃ (a : Addr) (ys : List V) (y : V) (d : PyData) (ds : List PyData) (j : Nat) (z : PyData), x = .ref a ∧ xs = [y] ∧ SqT K H a ys ∧ DpAll K H ys ds ∧ Dp K H y d ∧
  SeqAt.shaped (.list ds) = true ∧ SeqAt.shaped d = true ∧ ds[j]? = some z ∧ PyData.eqv z d = true ∧ (∀ (k : Nat) z', k < j → ds[k]? = some z' → PyData.eqv z' d = false) ∧ Q (.int (j : Nat)) H
theorem mt_tix {X : Cx} (hu : X.A.units + 65 < cLine) : MtR X "tuple.index" (rTix X.K) := by
  intro pins s σ H x xs v us Q I rx rxs h
  obtain ⟨a, ys, y, d, ds, j, z, rfl, rfl, hT, hD, hy, sl, sd, hz, hzj, hno, q⟩ := h
  cases rx
  obtain ⟨uy, rfl, ry⟩ := vals1 rxs
  obtain ⟨bs, rd⟩ := Dp.reads I d y uy hy ry
  obtain ⟨its, rv, ⟨⟨cls, dd, data, sls⟩, ho, hc, n, hdt⟩, hlen⟩ := I.tuple hT
  simp only at hc hdt
  subst hc hdt
  obtain ⟨as, ra⟩ := Dp.readsAll I ds _ its hD rv
  have lay : PyData.canLayAll0 ds = true := SeqAt.canLay_of_shaped sl
  have hn : its.length = ds.length := SeqAt.ReadsAll.length ds its as ra
  have hmap : its.map (SeqAt.readOf s.heap) = ds := SeqAt.readsAll_map ds its as lay ra
  obtain ⟨hjd, _⟩ := List.getElem?_eq_some_iff.mp hz
  have hj : j < its.toArray.size := by rw [List.size_toArray]; omega
  have rdAt : ∀ (k : Nat) (hk : k < its.toArray.size) (z' : PyData), ds[k]? = some z' → SeqAt.readOf s.heap its.toArray[k] = z' := by
    intro k hk z' hz'
    have hkl : k < its.length := by rw [List.size_toArray] at hk; exact hk
    rw [← hmap, List.getElem?_map, List.getElem?_eq_getElem hkl] at hz'
    have e1 : SeqAt.readOf s.heap its[k] = z' := Option.some.inj hz'
    simpa using e1
  have room : X.A.units + 1 + min (PyData.depthAll ds) d.depth < cLine := by
    have := SeqAt.depth_of_shaped sd
    have : min (PyData.depthAll ds) d.depth ≤ d.depth := Nat.min_le_right _ _
    omega
  refine call_meets PySem.F.slot_tuple_index ⟨_, ho, rfl⟩ PySem.F.entry_tuple_index (PySem.F.args_tuple_index_2 _ _) (TI.tuple_indexAt a its.toArray n dd sls uy (fun u => PyData.eqv (SeqAt.readOf s.heap u) d) j hj ?_ ?_)
    ⟨ho, SeqAt.items_eqAt (vs := its.toArray) (show ReadsAll s.heap its.toArray.toList ds as from ra) rd lay (SeqAt.canLay_of_shaped sd) room, ?_⟩
  · show PyData.eqv (SeqAt.readOf s.heap its.toArray[j]) d = true
    rw [rdAt j hj z hz]
    exact hzj
  · intro k hk hkj
    have hkd : k < ds.length := by omega
    show PyData.eqv (SeqAt.readOf s.heap its.toArray[k]) d = false
    rw [rdAt k hk _ (List.getElem?_eq_getElem hkd)]
    exact hno k _ hkj (List.getElem?_eq_getElem hkd)
  · exact ⟨.int (j : Nat), H, I.tok _, ⟨_, rfl⟩, q⟩
def tixM : W → List W → Hm → Res W
  | .kt ds, [y], m => (match rd m y with
    | some d => if (SeqAt.shaped (.list ds) && (SeqAt.shaped d && ds.any fun z => PyData.eqv z d)) = true then .ok (.p (.int (idxOf d ds : Nat))) m else .stuck
    | none => .stuck)
  | _, _, _ => .stuck
def eTix (f g : EX W) : EX W := fun s m => (f s m).bind fun w m1 => match w with
  | .kt ds => (g s m1).bind fun y m2 => tixM (.kt ds) [y] m2
  | _ => .stuck
theorem x_tix {X : Cx} {U : WX} {o e : Expr} {f g : EX W} {apos cpos : Pos} (hu : X.A.units + 65 < cLine) (ho : PE X o (T X.K U f)) (he : PE X e (T X.K U g)) (hbase : attributeBase o "index" X.env (eval o X.env) = eval o X.env := by rfl)
    (hfew : ((backTo cpos (starEach [e] X.env)).all (fun x => !x.1) && (backToKw cpos (keywordEach [] X.env)).all (fun x => x.1.isSome) && decide ([e].length + ([] : List Keyword).length + (if ([] : List Keyword).isEmpty then 0 else 1) < 30)) = true := by rfl)
    (hline : (apos.endLine == cpos.line) = true := by rfl) (hs : starEach [e] X.env = (false, eval e X.env) :: starEach [] X.env := by rfl) (hplain : (backTo cpos (starEach [] X.env)).any (·.1) = false := by rfl) :
    PE X (.Call (.Attribute o "index" apos) [e] [] cpos) (T X.K U (eTix f g)) := by
  refine imp (pe_known PySem.F.slot_tuple_index PySem.F.type_tuple_index (mt_tix hu) ho (a_cons he a_nil hs) hbase hfew hline hs hplain) ?_
  rintro σ H Q ⟨c, s, m, hs, hm, hp⟩
  refine T.run hs hm hp fun c1 H1 w m1 v e1 hs1 hm1 rv hp1 => ?_
  split at hp1
  · rename_i ds
    have rv0 := rv
    cases rv0 with | @kt a ob xs ds h hd n n2 z r =>
    refine ⟨⟨a, ob, xs, rfl, h, hd⟩, ?_⟩
    have hp2 : Post X.K U σ c1 H1 (RQ X.K Q) (((aCons g aNil) s m1).bind fun ws m2 => tixM (.kt ds) ws m2) := by
      have e : (((aCons g aNil) s m1).bind fun ws m2 => tixM (.kt ds) ws m2) = (g s m1).bind fun y m2 => tixM (.kt ds) [y] m2 := by
        unfold aCons aNil
        cases g s m1 <;> rfl
      rw [e]; exact hp1
    refine TL.run hs1 hm1 hp2 fun c2 H2 ws m2 vs e2 hs2 hm2 r2 hp2 => ?_
    have rk := rv.mono e2
    cases rk with | kt h hd n n2 z r =>
    unfold tixM at hp2
    split at hp2
    · rename_i ds' y m3 e
      cases e
      obtain ⟨yv, rfl, ry⟩ := r2.oneI
      split at hp2
      · rename_i d ed
        split at hp2
        · rename_i hz
          rw [Bool.and_eq_true, Bool.and_eq_true] at hz
          obtain ⟨h1, h2, h3⟩ := hz
          have hlt : idxOf d ds < ds.length := List.findIdx_lt_length_of_exists (by simpa using h3)
          refine ⟨a, _, yv, d, ds, idxOf d ds, ds[idxOf d ds], rfl, rfl, .inl (.inr ⟨_, h⟩), r.dp, rd_dp hm2 ry ed, h1, h2, List.getElem?_eq_getElem hlt, ?_, fun k z hk hz => ?_, hp2.ok hm2 _ (.p (.int _))⟩
          · exact List.findIdx_getElem (w := hlt)
          · have hk' := List.not_of_lt_findIdx (p := fun z => PyData.eqv z d) (xs := ds) hk
            obtain ⟨hk2, e⟩ := List.getElem?_eq_some_iff.mp hz
            rw [e] at hk'
            simpa using hk'
        · exact hp2.elim
      · exact hp2.elim
    · exact hp2.elim
  · exact hp1.elim
end Mir

namespace Mir
open PySem PySem.Spec PyProof.Rows L2

/-! ### dicts whose keys are ints and texts -/
def eDict : EX W := fun _ m => .ok (.loc m.length) (m ++ [.dct []])
theorem x_dict {X : Cx} {U : WX} {pos : Pos} : PE X (.Dict [] [] pos) (T X.K U eDict) := by
  refine imp pe_dnewK ?_
  rintro σ H Q ⟨c, s, m, hs, hm, hp⟩ p hpn
  have ok : CellOk X.K ⟨c.fb, c.rho ++ [p]⟩ (upd H p (.dK [])) p (.dct []) := ⟨[], upd_same, Nat.zero_le _, rfl, .nil⟩
  exact hp _ _ (Ext.cell hpn) (hm.cell hpn ok) _ (.loc (by rw [← hm.len]; simp))
def keyP : PyData → Option Key
  | .int i => some (.inl i)
  | .str x => some (.inr x)
  | _ => none
def putW (kvs : List (Key × W)) (k : Key) (w : W) : List (Key × W) := if (kvs.any fun kv => decide (kv.1 = k)) = true then kvs.map (fun kv => if kv.1 = k then (kv.1, w) else kv) else kvs ++ [(k, w)]
def getW (kvs : List (Key × W)) (k : Key) : Option W := (kvs.find? fun kv => decide (kv.1 = k)).map (·.2)
section
variable {K : PySem.W.Frag} {c : Cfg} {H : Hp} {m : Hm}
theorem key_ok {v : V} {d : PyData} {k : Key} (r : Rp K c H v d) (e : keyP d = some k) : v = kV k := by
  cases r <;> first | (cases e; rfl) | cases e
/-- keys alike, values that stand for each other -/
inductive Al (K : PySem.W.Frag) (c : Cfg) (H : Hp) : List (Key × V) → List (Key × W) → Prop
  | nil : Al K c H [] []
  | cons {k : Key} {v : V} {w : W} {vs : List (Key × V)} {ws : List (Key × W)} : RpW K c H v w → Al K c H vs ws → Al K c H ((k, v) :: vs) ((k, w) :: ws)
theorem Al.of : ∀ {vs : List (Key × V)} {ws : List (Key × W)}, vs.map (·.1) = ws.map (·.1) → RpWs K c H (vs.map (·.2)) (ws.map (·.2)) → Al K c H vs ws
  | [], [], _, _ => .nil
  | (k, v) :: vs, (k', w) :: ws, e, r => by
    simp only [List.map_cons, List.cons.injEq] at e
    obtain ⟨rfl, e⟩ := e
    cases r with
    | cons r t => exact .cons r (Al.of e t)
  | [], _ :: _, e, _ => by simp at e
  | _ :: _, [], e, _ => by simp at e
theorem Al.to {vs : List (Key × V)} {ws : List (Key × W)} (h : Al K c H vs ws) : vs.map (·.1) = ws.map (·.1) ∧ RpWs K c H (vs.map (·.2)) (ws.map (·.2)) := by
  induction h with
  | nil => exact ⟨rfl, .nil⟩
  | cons r _ ih => exact ⟨by simp [ih.1], .cons r ih.2⟩
theorem Al.any {vs : List (Key × V)} {ws : List (Key × W)} (h : Al K c H vs ws) (k : Key) : (vs.any fun kv => decide (kv.1 = k)) = ws.any fun kv => decide (kv.1 = k) := by
  induction h with
  | nil => rfl
  | cons r _ ih => simp [ih]
theorem Al.upd {vs : List (Key × V)} {ws : List (Key × W)} (h : Al K c H vs ws) {k : Key} {v : V} {w : W} (r : RpW K c H v w) : Al K c H (vs.map fun kv => if kv.1 = k then (kv.1, v) else kv) (ws.map fun kv => if kv.1 = k then (kv.1, w) else kv) := by
  induction h with
  | nil => exact .nil
  | @cons k' v' w' vs ws r' _ ih =>
    simp only [List.map_cons]
    by_cases e : k' = k
    · simp only [e, if_true]; exact .cons r ih
    · simp only [e, if_false]; exact .cons r' ih
theorem Al.snoc {vs : List (Key × V)} {ws : List (Key × W)} (h : Al K c H vs ws) {k : Key} {v : V} {w : W} (r : RpW K c H v w) : Al K c H (vs ++ [(k, v)]) (ws ++ [(k, w)]) := by
  induction h with
  | nil => exact .cons r .nil
  | cons r' _ ih => exact .cons r' ih
theorem Al.put {vs : List (Key × V)} {ws : List (Key × W)} (h : Al K c H vs ws) {k : Key} {v : V} {w : W} (r : RpW K c H v w) : Al K c H (putK vs k v) (putW ws k w) := by
  unfold putK putW
  rw [h.any k]
  split
  · exact h.upd r
  · exact h.snoc r
theorem Al.len {vs : List (Key × V)} {ws : List (Key × W)} (h : Al K c H vs ws) : vs.length = ws.length := by
  induction h with
  | nil => rfl
  | cons _ _ ih => simp [ih]
theorem Al.get {vs : List (Key × V)} {ws : List (Key × W)} (h : Al K c H vs ws) {k : Key} {w : W} (e : getW ws k = some w) : ∃ v, valV vs k = some v ∧ RpW K c H v w := by
  induction h with
  | nil => cases e
  | @cons k' v' w' vs ws r _ ih =>
    unfold getW at e
    by_cases q : k' = k
    · subst q
      simp at e
      subst e
      exact ⟨v', valV_pos rfl, r⟩
    · rw [List.find?_cons_of_neg (by simpa using q)] at e
      obtain ⟨v, e1, r1⟩ := ih e
      exact ⟨v, by rw [valV_neg q]; exact e1, r1⟩
theorem Al.sub {vs : List (Key × V)} {ws : List (Key × W)} {c' : Cfg} {H' : Hp} (h : Al K c H vs ws) (e : Sub c H c' H') : Al K c' H' vs ws := by
  induction h with
  | nil => exact .nil
  | cons r _ ih => exact .cons (r.sub e) ih
theorem putK_len {vs : List (Key × V)} {k : Key} {v : V} : (putK vs k v).length ≤ vs.length + 1 := by
  unfold putK
  split <;> simp
theorem HRel.dct (hm : HRel K c m H) {n : Nat} {a : Addr} {kvs : List (Key × W)} (h : c.rho[n]? = some a) (q : m[n]? = some (.dct kvs)) : ∃ vs, H a = some (.dK vs) ∧ vs.length ≤ sizeLine ∧ Al K c H vs kvs := by
  obtain ⟨b, hb, vs, hx, z, k, rr⟩ := hm.at_ _ _ q
  rw [h] at hb; cases hb
  exact ⟨vs, hx, z, .of k rr⟩
end
/-- d[y] = v -/
def setKy (o y w : W) (m : Hm) : Option Hm := match o, y with
  | .loc n, .p d => match m[n]?, keyP d with
    | some (.dct kvs), some k => if kvs.length < sizeLine then some (m.set n (.dct (putW kvs k w))) else none
    | _, _ => none
  | _, _ => none
def sSetKy (fo fi f : EX W) : SX := fun s m => (f s m).st s fun w m1 => (fo s m1).st s fun o m2 => (fi s m2).st s fun i m3 => match setKy o i w m3 with
  | some m4 => some (.nx s, m4)
  | none => none
theorem s_setKy {X : Cx} {U : WX} {pos pos' : Pos} {e o i : Expr} {fo fi f : EX W} (hu : X.A.units + 1 < cLine) (he : PE X e (T X.K U f)) (ho : PE X o (T X.K U fo)) (hi : PE X i (T X.K U fi))
    (hs : swapsWith e (some (.Subscript o i pos')) pos.line X.env = pure false := by rfl) : PS X (.Assign [.Subscript o i pos'] e pos) (TSt X.K U (sSetKy fo fi f)) := by
  refine impS (ps_dput hu ho hi he hs) fun D σ H h => ?_
  obtain ⟨c, s, m, hs, hm, hp⟩ := h
  refine ⟨c, s, m, hs, hm, Post.st hs hp fun c1 H1 w m1 e1 hs1 hm1 hp1 v rv => ?_⟩
  refine ⟨c1, s, m1, hs1, hm1, Post.st hs1 hp1 fun c2 H2 o m2 e2 hs2 hm2 hp2 ov ro => ?_⟩
  refine ⟨c2, s, m2, hs2, hm2, Post.st hs2 hp2 fun c3 H3 i m3 e3 hs3 hm3 hp3 iv ri => ?_⟩
  have rv := (rv.mono e2).mono e3
  have ro := ro.mono e3
  split at hp3
  · rename_i m4 e4
    unfold setKy at e4
    split at e4
    · rename_i n d
      split at e4
      · rename_i kvs k q1 q2
        split at e4
        · rename_i hl
          cases e4
          cases ro with | loc h =>
          cases ri with | p ri =>
          obtain ⟨vs, hx, z, al⟩ := hm3.dct h q1
          have ln := al.len
          have ex : Ext c3 H3 c3 (upd H3 _ (.dK (putK vs k v))) := Ext.write h
          refine ⟨_, _, rfl, .inl ⟨vs, k, hx, key_ok ri q2, by omega, rfl⟩, ?_⟩
          have al2 := (al.put (k := k) rv).sub ex.sub
          have pl := putK_len (vs := vs) (k := k) (v := v)
          exact hp3 c3 _ ex (hm3.write h ⟨_, upd_same, by omega, al2.to.1, al2.to.2⟩) σ (hs3.mono ex)
        · cases e4
      · cases e4
    · cases e4
  · exact hp3.elim
end Mir

namespace Mir
open PySem PySem.Spec PyProof.Rows L2

/-! ### sorted(d), sum(xs) -/
def inlK : List (Key × W) → Option (List Int)
  | [] => some []
  | (.inl i, _) :: r => (inlK r).map (i :: ·)
  | _ :: _ => none
theorem inlK_keys : ∀ {kvs : List (Key × W)} {ks : List Int}, inlK kvs = some ks → kvs.map (·.1) = ks.map Sum.inl
  | [], ks, e => by cases e; rfl
  | (.inl i, w) :: r, ks, e => by
    unfold inlK at e
    obtain ⟨ks', e', rfl⟩ := Option.map_eq_some_iff.mp e
    simp [inlK_keys e']
  | (.inr x, w) :: r, ks, e => by cases e
def srtI (ks : List Int) : List Int := isortB (fun a b => decide (a ≤ b)) ks
theorem srtI_eq (ks : List Int) : ks.mergeSort (fun a b => decide (a ≤ b)) = srtI ks := isortB_eq (fun a b c h1 h2 => by simp at *; omega) (fun a b => by simp; omega) ks
theorem srtI_perm (ks : List Int) : (srtI ks).Perm ks := by rw [← srtI_eq]; exact List.mergeSort_perm ks _
theorem srtI_sorted (ks : List Int) : (srtI ks).Pairwise (· ≤ ·) := by
  have := List.pairwise_mergeSort (le := fun a b : Int => decide (a ≤ b)) (fun a b c h1 h2 => by simp at *; omega) (fun a b => by simp; omega) ks
  rw [← srtI_eq]
  exact this.imp fun h => by simpa using h
theorem srtI_unique {ks ys : List Int} (p : ys.Perm ks) (s : ys.Pairwise (· ≤ ·)) : ys = srtI ks := by
  have p2 := srtI_perm ks
  have s2 := srtI_sorted ks
  exact List.Perm.eq_of_pairwise (le := (· ≤ ·)) (fun a b _ _ h1 h2 => Int.le_antisymm h1 h2) s s2 (p.trans p2.symm)
def sortedKM : List W → Hm → Res W
  | [.loc n], m => match m[n]? with
    | some (.dct kvs) => (match inlK kvs with
      | some ks => if ks.length < 64 then .ok (.p (.list ((srtI ks).map .int))) m else .stuck
      | none => .stuck)
    | _ => .stuck
  | _, _ => .stuck
abbrev rSortK (K : PySem.W.Frag) : List V → Hp → VK → Prop := fun xs H Q => ∃ (a : Addr) (kvs : List (Key × V)) (ks : List Int), xs = [.ref a] ∧ Rd H a (.dK kvs) ∧ kvs.map (·.1) = ks.map Sum.inl ∧ ks.length < 64 ∧
    ∀ (ys : List Int) (p : Addr), ys.Perm ks → ys.Pairwise (· ≤ ·) → H p = none → Q (.ref p) (upd H p (.lst (ys.map V.int)))
theorem sortedKM_ok {K : PySem.W.Frag} : CallM K (rSortK K) sortedKM := by
  intro U σ c H m vs ws Q hm r hp
  unfold sortedKM at hp
  split at hp
  · obtain ⟨v, rfl, r1⟩ := r.oneI
    cases r1 with | loc h =>
    split at hp
    · rename_i kvs q
      split at hp
      · rename_i ks ek
        split at hp
        · rename_i hl
          obtain ⟨vs', hx, z, al⟩ := hm.dct h q
          refine ⟨_, vs', ks, rfl, .inl hx, al.to.1.trans (inlK_keys ek), hl, fun ys p hy hs hpn => ?_⟩
          rw [srtI_unique hy hs]
          have len : (srtI ks).length = ks.length := (srtI_perm ks).length_eq
          exact hp c _ (Ext.new hpn) (hm.new hpn) _ (.p (Rp.newL hm hpn (by rw [List.length_map, len, sizeLine_eq]; omega) (rpI _)))
        · exact hp.elim
      · exact hp.elim
    · exact hp.elim
  · exact hp.elim
def sumM : List W → Hm → Res W
  | [w], m => if isL w = true then (match ((seqW m w).bind allP).bind intsOf with
    | some ns => .ok (.p (.int ns.sum)) m
    | none => .stuck) else .stuck
  | _, _ => .stuck
theorem sumM_ok {K : PySem.W.Frag} : CallM K (rSum K) sumM := by
  intro U σ c H m vs ws Q hm r hp
  unfold sumM at hp
  split at hp
  · obtain ⟨v, rfl, r1⟩ := r.oneI
    split at hp
    · rename_i hl
      split at hp
      · rename_i ns en
        obtain ⟨ds, ed, ei⟩ := Option.bind_eq_some_iff.mp en
        obtain ⟨ws', e1, e2⟩ := Option.bind_eq_some_iff.mp ed
        obtain ⟨a, xs, rfl, hs, z, rr⟩ := seqW_list hm r1 e1 hl
        have ra := allP_rp rr e2
        rw [intsOf_eq ei] at ra
        have := ra.ints
        subst this
        exact ⟨a, ns, rfl, hs, hp.ok hm _ (.p (.int _))⟩
      · exact hp.elim
    · exact hp.elim
  · exact hp.elim
end Mir

namespace Mir
open PySem PySem.Spec PyProof.Rows L2

/-! ### comprehensions with two fors: the new list is a cell, k its number -/
def lcC (k : Nat) (gs : List (Nat × List W)) (t : Tg) (g : EX Bool) (f : EX W) (s : Ev) : List W → Hm → Res Unit
  | [], m => if gOk m gs = true then .ok () m else .stuck
  | w :: r, m => if gOk m gs = true then (match t.put w s with
    | none => .stuck
    | some s1 => match g s1 m with
      | .ok b m1 => if b = true then (match f s1 m1 with
          | .ok y m2 => (match m2[k]? with
            | some (.lst ws) => if ws.length < sizeLine then lcC k gs t g f s r (m2.set k (.lst (ws ++ [y]))) else .stuck
            | _ => .stuck)
          | _ => .stuck) else lcC k gs t g f s r m1
      | _ => .stuck) else .stuck
def lc2 (k : Nat) (gs : List (Nat × List W)) (t : Tg) (g : EX Bool) (src1 : IX) (t1 : Tg) (g1 : EX Bool) (f : EX W) (vs1 : List Nat) (s : Ev) : List W → Hm → Res Unit
  | [], m => if gOk m gs = true then .ok () m else .stuck
  | w :: r, m => if gOk m gs = true then (match t.put w s with
    | none => .stuck
    | some s1 => match g s1 m with
      | .ok b m1 => if b = true then (match src1 s1 m1 with
          | .ok sc m2 => (lcC k sc.gs t1 g1 f (wipeE s1 vs1) sc.items m2).bind fun _ m3 => lc2 k gs t g src1 t1 g1 f vs1 s r m3
          | _ => .stuck) else lc2 k gs t g src1 t1 g1 f vs1 s r m1
      | _ => .stuck) else .stuck
def eLc2 (src : IX) (t : Tg) (g : EX Bool) (src1 : IX) (t1 : Tg) (g1 : EX Bool) (f : EX W) (vs vs1 : List Nat) : EX W := fun s m => (src s m).bind fun sc m1 =>
  (lc2 m1.length sc.gs t g src1 t1 g1 f vs1 (wipeE s vs) sc.items (m1 ++ [.lst []])).bind fun _ m2 => .ok (.loc m1.length) m2
theorem lc2_imp {K : PySem.W.Frag} {U : WX} {src src1 : IX} {t t1 : Tg} {g g1 : EX Bool} {f : EX W} {vs vs1 : List Nat} (hv : t.inn vs = true) (hv1 : t1.inn vs1 = true) {σ : L2.St} {H : Hp} {Q : VK}
    (h : T K U (eLc2 src t g src1 t1 g1 f vs vs1) σ H Q) : tLc2 (TI' K U src) (TG' K t) (TB K U0 g) (TI' K U0 src1) (TG' K t1) (TB K U0 g1) (T K U0 f) vs vs1 σ H Q := by
  obtain ⟨c, s, m, hs, hm, hp⟩ := h
  unfold eLc2 at hp
  refine TI'.run hs hm hp fun c1 H1 sc m1 J e1 hs1 hm1 hJ hp1 => ?_
  intro D hD
  have eD : Ext c1 H1 ⟨c1.fb, c1.rho ++ [D]⟩ (upd H1 D (.lst [])) := Ext.cell hD
  have hmD : HRel K ⟨c1.fb, c1.rho ++ [D]⟩ (m1 ++ [.lst []]) (upd H1 D (.lst [])) := hm1.cell hD ⟨[], upd_same, Nat.zero_le _, .nil⟩
  have atD : (⟨c1.fb, c1.rho ++ [D]⟩ : Cfg).rho[m1.length]? = some D := by rw [← hm1.len]; simp
  have hsD := hs1.mono eD
  refine ⟨fun i me H => i ≤ sc.items.length ∧ me = sc.items.length - i ∧ ∃ c m, Ext ⟨c1.fb, c1.rho ++ [D]⟩ (upd H1 D (.lst [])) c H ∧ HRel K c m H ∧
    Post K U σ c H (RQ K Q) ((lc2 m1.length sc.gs t g src1 t1 g1 f vs1 (wipeE s vs) (sc.items.drop i) m).bind fun _ m2 => .ok (.loc m1.length) m2), ⟨sc.items.length, Nat.zero_le _, by simp, _, _, .refl, hmD, by simpa using hp1.ext eD⟩, ?_⟩
  rintro i me H ⟨hi, rfl, c, m, e, hm, hp⟩
  by_cases hi2 : i < sc.items.length
  case neg =>
    have hi3 : sc.items.length ≤ i := by omega
    rw [List.drop_eq_nil_of_le hi3] at hp
    unfold lc2 at hp
    by_cases hg : gOk m sc.gs = true
    case neg => rw [if_neg hg] at hp; exact hp.elim
    rw [if_pos hg] at hp
    exact .inl ⟨(hJ c H m (eD.trans e) hm hg i).1 (by omega), hp.ok hm _ (.loc (e.at atD))⟩
  case pos =>
    rw [List.drop_eq_getElem_cons hi2] at hp
    unfold lc2 at hp
    by_cases hg : gOk m sc.gs = true
    case neg => rw [if_neg hg] at hp; exact hp.elim
    rw [if_pos hg] at hp
    obtain ⟨go, yl⟩ := (hJ c H m (eD.trans e) hm hg i).2 _ (List.getElem?_eq_getElem hi2)
    cases es1 : t.put sc.items[i] (wipeE s vs) with
    | none => rw [es1] at hp; exact hp.elim
    | some s1 =>
    rw [es1] at hp
    refine .inr ⟨go, fun H' => ∃ c m, Ext ⟨c1.fb, c1.rho ++ [D]⟩ (upd H1 D (.lst [])) c H' ∧ HRel K c m H' ∧ Post K U σ c H' (RQ K Q) ((lc2 m1.length sc.gs t g src1 t1 g1 f vs1 (wipeE s vs) (sc.items.drop (i + 1)) m).bind fun _ m2 => .ok (.loc m1.length) m2), fun H' q => ⟨_, by omega, by omega, rfl, q⟩, fun x H' y => ?_⟩
    obtain ⟨yy, rx⟩ := yl x H' y
    obtain ⟨ey, hmy⟩ := yld_ext hm yy
    have e2 := e.trans ey
    refine ⟨c, wipeE s vs, _, s1, ((hsD.mono e2).wipe vs), rx, es1, fun σ2 hs2 hwp => ⟨?_, ?_⟩⟩
    · rw [hwp vs hv]
      exact wipe_wipe σ vs
    refine ⟨c, s1, m, hs2, hmy, ?_⟩
    have hp := hp.ext ey
    cases eg : g s1 m with
    | stuck => simp only [eg] at hp; exact hp.elim
    | exc x m2 => simp only [eg] at hp; exact hp.elim
    | ok b m2 =>
    simp only [eg] at hp
    intro c3 H3 e3 hm3
    have hp := hp.ext e3
    cases b with
    | false =>
      simp only [Bool.false_eq_true, if_false] at hp ⊢
      exact ⟨c3, m2, e2.trans e3, hm3, hp⟩
    | true =>
    simp only [if_true] at hp ⊢
    refine ⟨c3, s1, m2, hs2.mono e3, hm3, ?_⟩
    cases ei : src1 s1 m2 with
    | stuck => simp only [ei] at hp; exact hp.elim
    | exc x m3 => simp only [ei] at hp; exact hp.elim
    | ok sc1 m3 =>
    simp only [ei] at hp
    intro c4 H4 e4 hm4 J1 hJ1
    have hp := hp.ext e4
    have hs4 := (hs2.mono e3).mono e4
    have eo := (e2.trans e3).trans e4
    rw [Res.bind_assoc] at hp
    refine ⟨fun j k H => j ≤ sc1.items.length ∧ k = sc1.items.length - j ∧ ∃ c m, Ext c4 H4 c H ∧ HRel K c m H ∧ Post K U σ c H (RQ K Q) ((lcC m1.length sc1.gs t1 g1 f (wipeE s1 vs1) (sc1.items.drop j) m).bind fun _ m3 => (lc2 m1.length sc.gs t g src1 t1 g1 f vs1 (wipeE s vs) (sc.items.drop (i + 1)) m3).bind fun _ m2 => .ok (.loc m1.length) m2),
      ⟨sc1.items.length, Nat.zero_le _, by simp, c4, m3, .refl, hm4, by simpa using hp⟩, ?_⟩
    rintro j k H ⟨hj, rfl, c5, m5, e5, hm5, hp⟩
    by_cases hj2 : j < sc1.items.length
    case neg =>
      have hj3 : sc1.items.length ≤ j := by omega
      rw [List.drop_eq_nil_of_le hj3] at hp
      unfold lcC at hp
      by_cases hg : gOk m5 sc1.gs = true
      case neg => rw [if_neg hg] at hp; exact hp.elim
      rw [if_pos hg] at hp
      exact .inl ⟨(hJ1 c5 H m5 e5 hm5 hg j).1 (by omega), c5, m5, eo.trans e5, hm5, hp⟩
    case pos =>
      rw [List.drop_eq_getElem_cons hj2] at hp
      unfold lcC at hp
      by_cases hg : gOk m5 sc1.gs = true
      case neg => rw [if_neg hg] at hp; exact hp.elim
      rw [if_pos hg] at hp
      obtain ⟨go1, yl1⟩ := (hJ1 c5 H m5 e5 hm5 hg j).2 _ (List.getElem?_eq_getElem hj2)
      cases es2 : t1.put sc1.items[j] (wipeE s1 vs1) with
      | none => rw [es2] at hp; exact hp.elim
      | some s2 =>
      rw [es2] at hp
      refine .inr ⟨go1, fun H' => ∃ c m, Ext c4 H4 c H' ∧ HRel K c m H' ∧ Post K U σ c H' (RQ K Q) ((lcC m1.length sc1.gs t1 g1 f (wipeE s1 vs1) (sc1.items.drop (j + 1)) m).bind fun _ m3 => (lc2 m1.length sc.gs t g src1 t1 g1 f vs1 (wipeE s vs) (sc.items.drop (i + 1)) m3).bind fun _ m2 => .ok (.loc m1.length) m2),
        fun H' q => ⟨_, by omega, by omega, rfl, q⟩, fun x H' y => ?_⟩
      obtain ⟨yy1, rx1⟩ := yl1 x H' y
      obtain ⟨ey1, hmy1⟩ := yld_ext hm5 yy1
      have e6 := e5.trans ey1
      refine ⟨c5, wipeE s1 vs1, _, s2, ((hs4.mono e6).wipe vs1), rx1, es2, fun σ3 hs3 hwp1 => ⟨?_, ?_⟩⟩
      · rw [hwp1 vs1 hv1]
        exact wipe_wipe σ2 vs1
      refine ⟨c5, s2, m5, hs3, hmy1, ?_⟩
      have hp := hp.ext ey1
      cases eg1 : g1 s2 m5 with
      | stuck => simp only [eg1] at hp; exact hp.elim
      | exc x m6 => simp only [eg1] at hp; exact hp.elim
      | ok b m6 =>
      simp only [eg1] at hp
      intro c7 H7 e7 hm7
      have hp := hp.ext e7
      cases b with
      | false =>
        simp only [Bool.false_eq_true, if_false] at hp ⊢
        exact ⟨c7, m6, e6.trans e7, hm7, hp⟩
      | true =>
      simp only [if_true] at hp ⊢
      refine ⟨c7, s2, m6, hs3.mono e7, hm7, ?_⟩
      cases ef : f s2 m6 with
      | stuck => simp only [ef] at hp; exact hp.elim
      | exc x m8 => simp only [ef] at hp; exact hp.elim
      | ok w m8 =>
      simp only [ef] at hp
      intro c8 H8 e8 hm8 v rv
      have hp := hp.ext e8
      have eall := eo.trans ((e6.trans e7).trans e8)
      have hDr := eall.at atD
      split at hp
      · rename_i ws q
        split at hp
        · rename_i hl
          obtain ⟨xs, hx, z, rr⟩ := hm8.lst hDr q
          have ex : Ext c8 H8 c8 (upd H8 D (.lst (xs ++ [v]))) := Ext.write hDr
          have ln := rr.length
          refine ⟨xs, hx, by omega, c8, m8.set m1.length (.lst (ws ++ [w])), ((e6.trans e7).trans e8).trans ex, ?_, hp.ext ex⟩
          exact hm8.write hDr ⟨xs ++ [v], upd_same, by simp; omega, (rr.append (.cons rv .nil)).mono ex⟩
        · exact hp.elim
      · exact hp.elim
section
variable {X : Cx} {U : WX} {elt tg iter tg1 iter1 : Expr} {ifs ifs1 : List Expr} {scope : Scope} {own : List (Str × Nat)} {vs1 : List Nat} {pos spos py : Pos} {src src1 : IX} {t t1 : Tg} {g g1 : EX Bool} {f : EX W}
theorem x_lc2 (hv : t.inn (own.map (·.2)) = true) (hv1 : t1.inn vs1 = true) (hc : X.calm = true) (hN : X.N.Nodup) (hi : PI X tg iter (TI' X.K U src)) (bo : BlkOk X.N X.env.scope scope own) (hvs : ∀ i ∈ vs1, i ∈ own.map (·.2))
    (hg : ∀ (s : Shared) (H : Hp) (C : Addr) (cl : List (Str × Addr)) (fp : List Addr), PG (X.blk s H scope (compEnvC scope cl C X.env) fp) tg (TG' X.K t)) (ht : ∀ (s : Shared) (H : Hp) (C : Addr) (cl : List (Str × Addr)) (fp : List Addr), PTs (X.blk s H scope (compEnvC scope cl C X.env) fp) ifs (TB X.K U0 g))
    (hi1 : ∀ (s : Shared) (H : Hp) (C : Addr) (cl : List (Str × Addr)) (fp : List Addr), PI (X.blk s H scope (compEnvC scope cl C X.env) fp) tg1 iter1 (TI' X.K U0 src1))
    (hg1 : ∀ (s : Shared) (H : Hp) (C : Addr) (cl : List (Str × Addr)) (fp : List Addr), PG (X.blk s H scope (compEnvC scope cl C X.env) fp) tg1 (TG' X.K t1)) (ht1 : ∀ (s : Shared) (H : Hp) (C : Addr) (cl : List (Str × Addr)) (fp : List Addr), PTs (X.blk s H scope (compEnvC scope cl C X.env) fp) ifs1 (TB X.K U0 g1))
    (he : ∀ (s : Shared) (H : Hp) (C : Addr) (cl : List (Str × Addr)) (fp : List Addr), PE (X.blk s H scope (compEnvC scope cl C X.env) fp) elt (T X.K U0 f)) (hs : ∀ x, foldedSetIterable iter X.env x = pure x := by intro _; rfl) (hs1 : ∀ env x, foldedSetIterable iter1 env x = pure x := by intro _ _; rfl) :
    PE X (.ListComp elt [⟨tg, iter, ifs, 0⟩, ⟨tg1, iter1, ifs1, 0⟩] scope pos) (T X.K U (eLc2 src t g src1 t1 g1 f (own.map (·.2)) vs1)) :=
  imp (pe_lc2 hc hN hi bo hvs hg ht hi1 hg1 ht1 he hs hs1) fun _ _ _ h => lc2_imp hv hv1 h
end
/-! ### a fresh list, frozen at once -/
def frzE (k : Nat) (w : W) (m : Hm) : Res W := if okM k m = true then (match frz k m 4 w with
  | some d => .ok (.p d) (m.take k)
  | none => .ok w m) else .ok w m
def eFrz (f : EX W) : EX W := fun s m => (f s m).bind fun w m1 => frzE m.length w m1
theorem frz_imp {K : PySem.W.Frag} {U : WX} {f : EX W} {σ : L2.St} {H : Hp} {Q : VK} (h : T K U (eFrz f) σ H Q) : T K U f σ H Q := by
  obtain ⟨c, s, m, hs, hm, hp⟩ := h
  refine ⟨c, s, m, hs, hm, ?_⟩
  unfold eFrz at hp
  cases e : f s m with
  | stuck => rw [e] at hp; exact hp
  | exc x m1 => rw [e] at hp; exact hp
  | ok w m1 =>
    rw [e] at hp
    intro c' H' e' hm1 v rv
    have hp : Post K U σ c H (RQ K Q) (frzE m.length w m1) := hp
    unfold frzE at hp
    split at hp
    · rename_i hb
      split at hp
      · rename_i d ed
        exact hp _ H' (e'.cut (Nat.le_of_eq hm.len)) (hm1.cut hb) v (.p ((frz_ok hm1 4).1 _ _ _ rv ed))
      · exact hp c' H' e' hm1 v rv
    · exact hp c' H' e' hm1 v rv
theorem x_frz {X : Cx} {U : WX} {e : Expr} {f : EX W} (h : PE X e (T X.K U f)) : PE X e (T X.K U (eFrz f)) := imp h fun _ _ _ h => frz_imp h
section
variable {X : Cx} {U : WX} {elt tg iter tg1 iter1 : Expr} {ifs ifs1 : List Expr} {scope : Scope} {own : List (Str × Nat)} {vs1 : List Nat} {pos spos py : Pos} {src src1 : IX} {t t1 : Tg} {g g1 : EX Bool} {f : EX W}
/-- name = [.. for .. for ..], frozen -/
theorem s_setLc2 {i : Nat} {y : Str} (hv : t.inn (own.map (·.2)) = true) (hv1 : t1.inn vs1 = true) (hc : X.calm = true) (hN : X.N.Nodup) (hy : X.N[i]? = some y) (hyl : X.env.scope.names.lookup y = some .local)
    (hsw : swapsWith (.ListComp elt [⟨tg, iter, ifs, 0⟩, ⟨tg1, iter1, ifs1, 0⟩] scope pos) (some (.Name y py)) spos.line X.env = pure true) (hi : PI X tg iter (TI' X.K U src)) (bo : BlkOk X.N X.env.scope scope own) (hvs : ∀ i ∈ vs1, i ∈ own.map (·.2))
    (hg : ∀ (s : Shared) (H : Hp) (C : Addr) (cl : List (Str × Addr)) (fp : List Addr), PG (X.blk s H scope (compEnvC scope cl C X.env) fp) tg (TG' X.K t)) (ht : ∀ (s : Shared) (H : Hp) (C : Addr) (cl : List (Str × Addr)) (fp : List Addr), PTs (X.blk s H scope (compEnvC scope cl C X.env) fp) ifs (TB X.K U0 g))
    (hi1 : ∀ (s : Shared) (H : Hp) (C : Addr) (cl : List (Str × Addr)) (fp : List Addr), PI (X.blk s H scope (compEnvC scope cl C X.env) fp) tg1 iter1 (TI' X.K U0 src1))
    (hg1 : ∀ (s : Shared) (H : Hp) (C : Addr) (cl : List (Str × Addr)) (fp : List Addr), PG (X.blk s H scope (compEnvC scope cl C X.env) fp) tg1 (TG' X.K t1)) (ht1 : ∀ (s : Shared) (H : Hp) (C : Addr) (cl : List (Str × Addr)) (fp : List Addr), PTs (X.blk s H scope (compEnvC scope cl C X.env) fp) ifs1 (TB X.K U0 g1))
    (he : ∀ (s : Shared) (H : Hp) (C : Addr) (cl : List (Str × Addr)) (fp : List Addr), PE (X.blk s H scope (compEnvC scope cl C X.env) fp) elt (T X.K U0 f)) (hs : ∀ x, foldedSetIterable iter X.env x = pure x := by intro _; rfl) (hs1 : ∀ env x, foldedSetIterable iter1 env x = pure x := by intro _ _; rfl) :
    PS X (.Assign [.Name y py] (.ListComp elt [⟨tg, iter, ifs, 0⟩, ⟨tg1, iter1, ifs1, 0⟩] scope pos) spos) (TSt X.K U (sSet i (eFrz (eLc2 src t g src1 t1 g1 f (own.map (·.2)) vs1)))) := by
  refine impS (ps_setLc2 hc hN hy hyl hsw hi bo hvs hg ht hi1 hg1 ht1 he hs hs1) fun D σ H h => ?_
  obtain ⟨c, s, m, hs, hm, hp⟩ := h
  exact lc2_imp hv hv1 (frz_imp ⟨c, s, m, hs, hm, Post.st hs hp fun c1 H1 a m1 e1 hs1 hm1 hp1 v rv => hp1.ok hm1 _ (hs1.set rv)⟩)
end
theorem u1 {k : Nat} {A : Around} (r : Room k A) : A.units + 1 < cLine := by have := r.un; omega
end Mir

namespace Mir
open PySem PySem.Spec PyProof.Rows L2
theorem lcC_pure {β : Type} {k : Nat} {t : Tg} {f : EX W} {s : Ev} {e : β → W} (h : β → PyData) : ∀ (ys : List β) (m : Hm) (ws : List W), m[k]? = some (.lst ws) → ws.length + ys.length ≤ 16777216 →
    (∀ y ∈ ys, ∃ s1, t.put (e y) s = some s1 ∧ ∀ m', f s1 m' = .ok (.p (h y)) m') → lcC k [] t bYes f s (ys.map e) m = .ok () (m.set k (.lst (ws ++ (ys.map h).map .p)))
  | [], m, ws, hk, _, _ => by
    have : m.set k (.lst ws) = m := by
      apply List.ext_getElem?
      intro i
      by_cases e : k = i
      · subst e
        rw [List.getElem?_set_self (List.getElem?_eq_some_iff.mp hk).1, hk]
      · rw [List.getElem?_set_ne e]
    simp [lcC, this]
  | y :: ys, m, ws, hk, hl, hb => by
    obtain ⟨s1, h1, h2⟩ := hb y List.mem_cons_self
    have hlt := (List.getElem?_eq_some_iff.mp hk).1
    have ih := lcC_pure h ys (m.set k (.lst (ws ++ [.p (h y)]))) (ws ++ [.p (h y)]) (List.getElem?_set_self hlt) (by simp at hl ⊢; omega) fun z hz => hb z (List.mem_cons_of_mem _ hz)
    have hz : ws.length < sizeLine := by rw [sizeLine_eq]; simp at hl; omega
    simp only [List.map_cons, lcC, gOk_nil, if_true, h1, r_byes, h2, hk, hz, ih, List.set_set, List.append_assoc, List.cons_append, List.nil_append]
theorem lc2_pure {α β : Type} {k : Nat} {t t1 : Tg} {src1 : IX} {f : EX W} {vs1 : List Nat} {s : Ev} {e : α → W} (e1 : β → W) (ys : α → List β) (h : α → β → PyData) : ∀ (xs : List α) (m : Hm) (ws : List W), m[k]? = some (.lst ws) → ws.length + (xs.flatMap fun x => (ys x).map (h x)).length ≤ 16777216 →
    (∀ x ∈ xs, ∃ s1, t.put (e x) s = some s1 ∧ (∀ m', src1 s1 m' = .ok ⟨(ys x).map e1, []⟩ m') ∧ ∀ y ∈ ys x, ∃ s2, t1.put (e1 y) (wipeE s1 vs1) = some s2 ∧ ∀ m', f s2 m' = .ok (.p (h x y)) m') →
    lc2 k [] t bYes src1 t1 bYes f vs1 s (xs.map e) m = .ok () (m.set k (.lst (ws ++ (xs.flatMap fun x => (ys x).map (h x)).map .p)))
  | [], m, ws, hk, _, _ => by
    have := lcC_pure (k := k) (t := t) (f := f) (s := s) (e := e1) (fun _ : β => PyData.none) [] m ws hk (by simpa using Nat.le_trans (Nat.le_add_right _ _) ‹_›) (by simp)
    simp [lcC] at this
    simp [lc2]
    exact this
  | x :: xs, m, ws, hk, hl, hb => by
    obtain ⟨s1, h1, h2, h3⟩ := hb x List.mem_cons_self
    have hlt := (List.getElem?_eq_some_iff.mp hk).1
    simp only [List.flatMap_cons, List.length_append, List.length_map] at hl
    have c := lcC_pure (k := k) (t := t1) (f := f) (s := wipeE s1 vs1) (e := e1) (h x) (ys x) m ws hk (by omega) h3
    have ih := lc2_pure e1 ys h xs (m.set k (.lst (ws ++ ((ys x).map (h x)).map .p))) (ws ++ ((ys x).map (h x)).map .p) (List.getElem?_set_self hlt) (by simp only [List.length_append, List.length_map]; omega) fun z hz => hb z (List.mem_cons_of_mem _ hz)
    simp only [List.map_cons, lc2, gOk_nil, if_true, h1, r_byes, h2, c, bind_ok, ih, List.set_set, List.flatMap_cons, List.map_append, List.append_assoc]
/-- a two-for comprehension of data, frozen -/
theorem frz_lc2 {α β : Type} {t t1 : Tg} {src src1 : IX} {f : EX W} {vs vs1 : List Nat} {s : Ev} {m : Hm} (xs : List α) (e : α → W) (e1 : β → W) (ys : α → List β) (h : α → β → PyData) (hs : src s m = .ok ⟨xs.map e, []⟩ m) (hw : okM m.length m = true) (hl : (xs.flatMap fun x => (ys x).map (h x)).length ≤ 16777216)
    (hb : ∀ x ∈ xs, ∃ s1, t.put (e x) (wipeE s vs) = some s1 ∧ (∀ m', src1 s1 m' = .ok ⟨(ys x).map e1, []⟩ m') ∧ ∀ y ∈ ys x, ∃ s2, t1.put (e1 y) (wipeE s1 vs1) = some s2 ∧ ∀ m', f s2 m' = .ok (.p (h x y)) m') :
    eFrz (eLc2 src t bYes src1 t1 bYes f vs vs1) s m = .ok (.p (.list (xs.flatMap fun x => (ys x).map (h x)))) m := by
  have hk : (m ++ [Cell.lst []])[m.length]? = some (.lst []) := by simp
  have q := lc2_pure (k := m.length) e1 ys h xs (m ++ [.lst []]) [] hk (by simpa using hl) hb
  unfold eFrz eLc2
  rw [hs]
  simp only [bind_ok, q, List.nil_append]
  have e2 : (m ++ [Cell.lst []]).set m.length (.lst ((xs.flatMap fun x => (ys x).map (h x)).map .p)) = m ++ [.lst ((xs.flatMap fun x => (ys x).map (h x)).map .p)] := by simp
  rw [e2]
  unfold frzE
  have o1 : okM m.length (m ++ [.lst ((xs.flatMap fun x => (ys x).map (h x)).map .p)]) = true := by
    unfold okM at hw ⊢
    rw [List.take_left' rfl]
    rw [List.take_of_length_le (Nat.le_refl _)] at hw
    exact hw
  have o2 := frz_loc (k := m.length) (n := 3) (j := m.length) (m := m ++ [.lst ((xs.flatMap fun x => (ys x).map (h x)).map .p)]) (h := fun d : PyData => d) (xs := xs.flatMap fun x => (ys x).map (h x)) (Nat.le_refl _) (by simp)
  rw [if_pos o1, o2]
  simp
end Mir

namespace Mir
open PySem PySem.Spec PyProof.Rows L2
/-! ### more for the plain laws -/
abbrev sd (s : List Int) : PyData := .tuple (s.map .int)
theorem okM_app {k : Nat} {m e : Hm} (h : m.length = k) : okM k (m ++ e) = okM k m := by
  subst h; simp [okM]
theorem take_app {k : Nat} {m e : Hm} (h : m.length = k) : (m ++ e).take k = m := by
  subst h; simp
/-- a list of data, frozen or a new cell -/
def RD (k : Nat) (m : Hm) (w : W) (ds : List PyData) : Prop := w = .p (.list ds) ∨ ∃ n, w = .loc n ∧ k ≤ n ∧ m[n]? = some (.lst (ds.map .p))
section
variable {k : Nat} {m e : Hm} {w : W} {ds : List PyData}
theorem RD.src (h : RD k m w ds) : ∃ gs, srcOf w m = .ok ⟨ds.map .p, gs⟩ m ∧ ∀ g, gOk (m ++ g) gs = true := by
  rcases h with rfl | ⟨n, rfl, _, e⟩
  · exact ⟨[], rfl, fun _ => rfl⟩
  · refine ⟨[(n, ds.map .p)], by simp only [srcOf, e], fun g => ?_⟩
    have : (m ++ g)[n]? = some (.lst (ds.map .p)) := by rw [List.getElem?_append_left (List.getElem?_eq_some_iff.mp e).1]; exact e
    simp [gOk, this]
theorem end_p {d : PyData} {fz : Bool} (hk : m.length = k) (hw : okM k m = true) : endFn fz k (.p d) (m ++ e) = .ok (.p d) m := by
  unfold endFn
  rw [okM_app hk, if_pos hw, if_pos (show okW k (W.p d) = true from rfl), take_app hk]
theorem end_kt {fz : Bool} (hk : m.length = k) (hw : okM k m = true) : endFn fz k (.kt ds) (m ++ e) = .ok (.kt ds) m := by
  unfold endFn
  rw [okM_app hk, if_pos hw, if_pos (show okW k (W.kt ds) = true from rfl), take_app hk]
theorem end_RD (hk : m.length = k) (hw : okM k m = true) (h : RD k (m ++ e) w ds) : endFn true k w (m ++ e) = .ok (.p (.list ds)) m := by
  rcases h with rfl | ⟨n, rfl, hn, q⟩
  · exact end_p hk hw
  · unfold endFn
    have o2 := frz_loc (k := k) (n := 3) (j := n) (m := m ++ e) (h := fun d : PyData => d) (xs := ds) hn q
    have o3 : okW k (.loc n) = false := by simp [okW]; omega
    rw [okM_app hk, if_pos hw, o3, o2, take_app hk]
    simp
end
/-- a loop that goes through -/
theorem for_fold {α β : Type} {gs : List (Nat × List W)} {t : Tg} {body : SX} {e : α → W} {s : Ev} {m : Hm} (st : β → α → β) (I : β → Ev) (M : β → Hm) (Iv : List α → β → Prop) (xs : List α) (b : β) (hs : I b = s) (hm : M b = m) (hg : ∀ pre b, Iv pre b → gOk (M b) gs = true)
    (hb : ∀ pre x post b, xs = pre ++ x :: post → Iv pre b → ∃ s1, t.put (e x) (I b) = some s1 ∧ body s1 (M b) = some (.nx (I (st b x)), M (st b x)) ∧ Iv (pre ++ [x]) (st b x)) (h0 : Iv [] b) :
    forGo gs t body (xs.map e) s m = some (.nx (I (xs.foldl st b)), M (xs.foldl st b)) ∧ Iv xs (xs.foldl st b) := by
  subst hs hm
  have go : ∀ suf pre b, xs = pre ++ suf → Iv pre b → forGo gs t body (suf.map e) (I b) (M b) = some (.nx (I (suf.foldl st b)), M (suf.foldl st b)) ∧ Iv xs (suf.foldl st b) := by
    intro suf
    induction suf with
    | nil =>
      intro pre b hx h0
      exact ⟨by simp [forGo, hg pre b h0], by rw [hx, List.append_nil]; exact h0⟩
    | cons x suf ih =>
      intro pre b hx h0
      obtain ⟨s1, h1, h2, h3⟩ := hb pre x suf b hx h0
      have := ih (pre ++ [x]) (st b x) (by rw [hx]; simp) h3
      simp only [List.map_cons, forGo, hg pre b h0, if_true, h1, h2, List.foldl_cons]
      exact this
  exact go xs [] b rfl h0
/-- a loop that looks for the first one -/
theorem for_find {α : Type} {gs : List (Nat × List W)} {t : Tg} {body : SX} {e : α → W} {s : Ev} {m : Hm} (p : α → Bool) (r : α → W) (hg : gOk m gs = true) : ∀ (xs : List α),
    (∀ x ∈ xs, ∃ s1, t.put (e x) s = some s1 ∧ body s1 m = if p x = true then some (.rt (r x), m) else some (.nx s, m)) →
    forGo gs t body (xs.map e) s m = match xs.find? p with
      | some x => some (.rt (r x), m)
      | none => some (.nx s, m)
  | [], _ => by simp [forGo, hg]
  | x :: xs, hb => by
    obtain ⟨s1, h1, h2⟩ := hb x List.mem_cons_self
    have ih := for_find p r hg xs fun y hy => hb y (List.mem_cons_of_mem _ hy)
    cases hp : p x with
    | true =>
      rw [hp, if_pos rfl] at h2
      simp only [List.map_cons, forGo, hg, if_true, h1, h2, List.find?_cons, hp]
    | false =>
      rw [hp, if_neg Bool.false_ne_true] at h2
      simp only [List.map_cons, forGo, hg, if_true, h1, h2, List.find?_cons, hp]
      exact ih
/-- a comprehension by an invariant -/
theorem lc_ex {α : Type} {src : IX} {gs : List (Nat × List W)} {t : Tg} {g : EX Bool} {f : EX W} {vs : List Nat} {s : Ev} {m m0 : Hm} (xs : List α) (e : α → W) (Iv : List α → List PyData → Hm → Prop) (hs : src s m = .ok ⟨xs.map e, gs⟩ m0) (hz : xs.length ≤ 16777216) (hg : ∀ pre ds m, Iv pre ds m → gOk m gs = true)
    (hb : ∀ pre x post ds m, xs = pre ++ x :: post → Iv pre ds m → ∃ s1, t.put (e x) (wipeE s vs) = some s1 ∧ ∃ b m1, g s1 m = .ok b m1 ∧ (b = true → ∃ d m2, f s1 m1 = .ok (.p d) m2 ∧ Iv (pre ++ [x]) (ds ++ [d]) m2) ∧ (b = false → Iv (pre ++ [x]) ds m1)) (h0 : Iv [] [] m0) :
    ∃ ds m', eLc lcFin src t g f vs s m = .ok (.p (.list ds)) m' ∧ Iv xs ds m' := by
  have go : ∀ suf pre ds m, xs = pre ++ suf → Iv pre ds m → ∃ ys m', lcGo gs t g f (wipeE s vs) (suf.map e) m = .ok (ys.map .p) m' ∧ Iv xs (ds ++ ys) m' := by
    intro suf
    induction suf with
    | nil =>
      intro pre ds m hx h0
      exact ⟨[], m, by simp [lcGo, hg pre ds m h0], by rw [hx]; simpa using h0⟩
    | cons x suf ih =>
      intro pre ds m hx h0
      obtain ⟨s1, h1, b, m1, h2, h3, h4⟩ := hb pre x suf ds m hx h0
      cases b with
      | false =>
        obtain ⟨ys, m', q1, q2⟩ := ih (pre ++ [x]) ds m1 (by rw [hx]; simp) (h4 rfl)
        exact ⟨ys, m', by simp only [List.map_cons, lcGo, hg pre ds m h0, if_true, h1, h2, Bool.false_eq_true, if_false]; exact q1, q2⟩
      | true =>
        obtain ⟨d, m2, h5, h6⟩ := h3 rfl
        obtain ⟨ys, m', q1, q2⟩ := ih (pre ++ [x]) (ds ++ [d]) m2 (by rw [hx]; simp) h6
        exact ⟨d :: ys, m', by simp only [List.map_cons, lcGo, hg pre ds m h0, if_true, h1, h2, h5, q1, bind_ok], by simpa using q2⟩
  obtain ⟨ys, m', q1, q2⟩ := go xs [] [] m0 rfl h0
  refine ⟨ys, m', ?_, by simpa using q2⟩
  unfold eLc
  rw [hs]
  simp only [bind_ok, List.length_map]
  rw [if_pos (decide_eq_true (le_size hz)), q1]
  simp only [bind_ok, lcFin, allP_map]
/-! equality of tuples of ints -/
theorem eqvAll_ints : ∀ a b : List Int, PyData.eqvAll (a.map .int) (b.map .int) = decide (a = b)
  | [], [] => rfl
  | [], _ :: _ => rfl
  | _ :: _, [] => rfl
  | x :: a, y :: b => by
    have ih := eqvAll_ints a b
    have : PyData.eqvAll ((x :: a).map .int) ((y :: b).map .int) = ((x == y) && PyData.eqvAll (a.map .int) (b.map .int)) := rfl
    rw [this, ih, Bool.eq_iff_iff]
    simp
theorem eqv_sd (a b : List Int) : PyData.eqv (sd a) (sd b) = decide (a = b) := eqvAll_ints a b
theorem sh_sd (n : Nat) (a : List Int) : Sh (n + 1) (sd a) := Sh.tup fun x hx => by
  obtain ⟨i, _, rfl⟩ := List.mem_map.mp hx
  exact Sh.int i
@[simp] theorem o_eqT {a b : List Int} {m : Hm} : eqM false (.p (.tuple (a.map .int))) (.p (.tuple (b.map .int))) m = .ok (.p (.bool (decide (a = b)))) m := by
  have h1 := (sh_sd 0 a).ok (by omega)
  have h2 := (sh_sd 0 b).ok (by omega)
  have h3 := eqv_sd a b
  unfold sd at h1 h2 h3
  simp [eqM, h1, h2, h3]
@[simp] theorem o_neT {a b : List Int} {m : Hm} : eqM true (.p (.tuple (a.map .int))) (.p (.tuple (b.map .int))) m = .ok (.p (.bool (!decide (a = b)))) m := by
  have h1 := (sh_sd 0 a).ok (by omega)
  have h2 := (sh_sd 0 b).ok (by omega)
  have h3 := eqv_sd a b
  unfold sd at h1 h2 h3
  simp [eqM, h1, h2, h3]
theorem any_sd (v : List Int) (L : List (List Int)) : ((L.map sd).any fun z => PyData.eqv z (sd v)) = decide (v ∈ L) := by
  rw [List.any_map, Bool.eq_iff_iff]
  simp only [List.any_eq_true, Function.comp_apply, eqv_sd, decide_eq_true_eq]
  exact ⟨fun ⟨x, h, e⟩ => e ▸ h, fun h => ⟨v, h, rfl⟩⟩
theorem o_inLs {v : List Int} {L : List (List Int)} {m : Hm} : inM false (.p (sd v)) (.p (.list (L.map sd))) m = .ok (.p (.bool (decide (v ∈ L)))) m ∧ inM true (.p (sd v)) (.p (.list (L.map sd))) m = .ok (.p (.bool (!decide (v ∈ L)))) m := by
  have h1 := (sh_sd 0 v).ok (by omega)
  have h2 : SeqAt.shaped (.list (L.map sd)) = true := (Sh.lst (n := 1) fun x hx => by
    obtain ⟨a, _, rfl⟩ := List.mem_map.mp hx
    exact sh_sd 0 a).ok (by omega)
  have h3 := any_sd v L
  constructor <;> simp only [inM, rd_p, h1, h2, h3, Bool.and_self, if_true, Bool.false_eq_true, if_false]
theorem o_inTI {v : Int} {ns : List Int} {m : Hm} : inM true (.p (.int v)) (.p (.tuple (ns.map .int))) m = .ok (.p (.bool (!decide (v ∈ ns)))) m := by
  have := o_inT v ns (m := m)
  unfold inM at this ⊢
  simp only [rd_p] at this ⊢
  split at this
  · rename_i h
    rw [if_pos h]
    simp at this ⊢
    rw [this]
  · cases this
/-! sorted ints -/
theorem dataLe_int (a b : Int) : PySem.W.dataLe false id (.int a) (.int b) = decide (a ≤ b) := by
  have : PySem.W.dataLe false id (.int a) (.int b) = !(PyProof.Rows.lexLt itemOrd [.inl b] [.inl a]) := rfl
  rw [this]
  have e : PyProof.Rows.lexLt itemOrd [.inl b] [.inl a] = decide (b < a) := by
    simp [PyProof.Rows.lexLt, itemLt]
  rw [e, Bool.eq_iff_iff]
  simp
theorem insB_map {α β : Type} {le : α → α → Bool} {le' : β → β → Bool} {f : α → β} (h : ∀ a b, le' (f a) (f b) = le a b) (a : α) : ∀ l : List α, insB le' (f a) (l.map f) = (insB le a l).map f
  | [] => rfl
  | b :: l => by
    simp only [List.map_cons, insB, h]
    split
    · rfl
    · rw [insB_map h a l]; rfl
theorem isortB_map {α β : Type} {le : α → α → Bool} {le' : β → β → Bool} {f : α → β} (h : ∀ a b, le' (f a) (f b) = le a b) : ∀ l : List α, isortB le' (l.map f) = (isortB le l).map f
  | [] => rfl
  | a :: l => by
    simp only [List.map_cons, isortB]
    rw [isortB_map h l, insB_map h]
theorem srt_ints (ks : List Int) : srt (ks.map .int) = (srtI ks).map .int := isortB_map (fun a b => dataLe_int a b) ks
theorem sortB_ints (ks : List Int) : sortB (ks.map .int) = true := by
  have h1 : alikeB (ks.map .int) = true := by
    simp only [alikeB, List.all_eq_true, List.mem_map]
    rintro _ ⟨a, _, rfl⟩ _ ⟨b, _, rfl⟩
    rfl
  have h2 : (ks.map PyData.int).all noT = true := by
    simp only [List.all_eq_true, List.mem_map]
    rintro _ ⟨a, _, rfl⟩
    rfl
  have h3 : ((ks.map PyData.int).all fun d => decide (d.depth ≤ 60)) = true := by
    simp only [List.all_eq_true, List.mem_map]
    rintro _ ⟨a, _, rfl⟩
    rfl
  simp only [sortB, h1, h2, h3, Bool.or_true, Bool.and_self]
end Mir

namespace Mir
open PySem PySem.Spec PyProof.Rows L2

/-! ### dicts whose keys are ints and texts: read -/
def dctAt (w : W) (m : Hm) : Option (List (Key × W)) := match w with
  | .loc n => (match m[n]? with
    | some (.dct kvs) => some kvs
    | _ => none)
  | _ => none
def keyW : W → Option Key
  | .p d => keyP d
  | _ => none
section
variable {K : PySem.W.Frag} {c : Cfg} {H : Hp} {m : Hm}
theorem keyW_ok {v : V} {w : W} {k : Key} (r : RpW K c H v w) (e : keyW w = some k) : v = kV k := by
  unfold keyW at e
  split at e
  · cases r with | p r => exact key_ok r e
  · cases e
theorem dctAt_ok {v : V} {w : W} {kvs : List (Key × W)} (hm : HRel K c m H) (r : RpW K c H v w) (e : dctAt w m = some kvs) : ∃ a vs, v = .ref a ∧ H a = some (.dK vs) ∧ vs.length ≤ sizeLine ∧ Al K c H vs kvs := by
  unfold dctAt at e
  split at e
  · cases r with | loc h =>
    split at e
    · rename_i q
      cases e
      obtain ⟨vs, hx, z, al⟩ := hm.dct h q
      exact ⟨_, vs, rfl, hx, z, al⟩
    · cases e
  · cases e
theorem Al.none {vs : List (Key × V)} {ws : List (Key × W)} (h : Al K c H vs ws) {k : Key} (e : getW ws k = Option.none) : valV vs k = Option.none := by
  have h1 := h.any k
  rw [valV_any] at h1
  have h2 : (ws.any fun kv => decide (kv.1 = k)) = false := by
    unfold getW at e
    rw [Option.map_eq_none_iff, List.find?_eq_none] at e
    rw [List.any_eq_false]
    exact fun x hx => e x hx
  rw [h2] at h1
  cases q : valV vs k with
  | none => rfl
  | some v => rw [q] at h1; cases h1
theorem Al.isSome {vs : List (Key × V)} {ws : List (Key × W)} (h : Al K c H vs ws) (k : Key) : (valV vs k).isSome = (getW ws k).isSome := by
  cases e : getW ws k with
  | none => rw [h.none e]; rfl
  | some w => obtain ⟨v, hv, _⟩ := h.get e; rw [hv]; rfl
end
def eDGet (f g : EX W) : EX W := fun s m => (f s m).bind fun w m1 => (g s m1).bind fun y m2 => match dctAt w m2, keyW y with
  | some kvs, some k => (match getW kvs k with
    | some v => .ok v m2
    | none => .stuck)
  | _, _ => .stuck
def eDGet2 (f g h : EX W) : EX W := fun s m => (f s m).bind fun w m1 => if (dctAt w m1).isSome = true then (g s m1).bind fun y m2 => (h s m2).bind fun z m3 => match dctAt w m3, keyW y with
  | some kvs, some k => .ok ((getW kvs k).getD z) m3
  | _, _ => .stuck else .stuck
def eDIn (neg : Bool) (g f : EX W) : EX W := fun s m => (g s m).bind fun y m1 => (f s m1).bind fun w m2 => match dctAt w m2, keyW y with
  | some kvs, some k => .ok (.p (.bool (if neg = true then !(getW kvs k).isSome else (getW kvs k).isSome))) m2
  | _, _ => .stuck
section
variable {X : Cx} {U : WX} {pos apos cpos : Pos} {o i e x : Expr} {f g h : EX W}
theorem x_dget (hu : X.A.units + 1 < cLine) (ho : PE X o (T X.K U f)) (hi : PE X i (T X.K U g)) (hs : NoSl i := by intro _ _; rfl) : PE X (.Subscript o i pos) (T X.K U (eDGet f g)) := by
  refine imp (pe_dget hu ho hi hs) ?_
  rintro σ H Q ⟨c, s, m, hs, hm, hp⟩
  refine T.run hs hm hp fun c1 H1 w m1 v e1 hs1 hm1 r1 hp1 => T.run hs1 hm1 hp1 fun c2 H2 y m2 yv e2 hs2 hm2 r2 hp2 => ?_
  have r1 := r1.mono e2
  split at hp2
  · rename_i kvs k q hk
    split at hp2
    · rename_i v' hv
      obtain ⟨a, vs, rfl, hx, z, al⟩ := dctAt_ok hm2 r1 q
      have := keyW_ok r2 hk
      subst this
      obtain ⟨u, hu, ru⟩ := al.get hv
      exact ⟨a, u, rfl, by rw [← hu]; exact DGet.k hx, hp2.ok hm2 _ ru⟩
    · exact hp2.elim
  · exact hp2.elim
theorem x_dget2 (hu : X.A.units + 1 < cLine) (ho : PE X o (T X.K U f)) (he : PE X e (T X.K U g)) (hx : PE X x (T X.K U h)) (M : M2 X o "get" apos e x cpos) : PE X (.Call (.Attribute o "get" apos) [e, x] [] cpos) (T X.K U (eDGet2 f g h)) := by
  refine imp (pe_dget2 hu ho he hx M) ?_
  rintro σ H Q ⟨c, s, m, hs, hm, hp⟩
  refine T.run hs hm hp fun c1 H1 w m1 v e1 hs1 hm1 r1 hp1 => ?_
  split at hp1
  · rename_i hq
    obtain ⟨kvs0, q0⟩ := Option.isSome_iff_exists.mp hq
    obtain ⟨a, vs0, rfl, hx0, z0, al0⟩ := dctAt_ok hm1 r1 q0
    refine ⟨a, rfl, .inl ⟨vs0, .inl hx0⟩, T.run hs1 hm1 hp1 fun c2 H2 y m2 yv e2 hs2 hm2 r2 hp2 => T.run hs2 hm2 hp2 fun c3 H3 z m3 zv e3 hs3 hm3 r3 hp3 => ?_⟩
    have r1 := (r1.mono e2).mono e3
    have r2 := r2.mono e3
    split at hp3
    · rename_i kvs k q hk
      obtain ⟨b, vs, hb, hx, z, al⟩ := dctAt_ok hm3 r1 q
      cases hb
      have := keyW_ok r2 hk
      subst this
      refine ⟨_, DGet.k hx, ?_⟩
      cases hg : getW kvs k with
      | none =>
        rw [al.none hg]
        rw [hg] at hp3
        exact hp3.ok hm3 _ r3
      | some w' =>
        obtain ⟨u, hu, ru⟩ := al.get hg
        rw [hu]
        rw [hg] at hp3
        exact hp3.ok hm3 _ ru
    · exact hp3.elim
  · exact hp1.elim
theorem din_t {neg : Bool} {σ : L2.St} {H : Hp} {Q : VK} (h : T X.K U (eDIn neg g f) σ H Q) : T X.K U g σ H fun y H1 => T X.K U f σ H1 fun x H2 => ∃ a o, x = .ref a ∧ DGet H2 a y o ∧ Q (.bl (if neg = true then !o.isSome else o.isSome)) H2 := by
  obtain ⟨c, s, m, hs, hm, hp⟩ := h
  refine T.run hs hm hp fun c1 H1 y m1 yv e1 hs1 hm1 r1 hp1 => T.run hs1 hm1 hp1 fun c2 H2 w m2 v e2 hs2 hm2 r2 hp2 => ?_
  have r1 := r1.mono e2
  split at hp2
  · rename_i kvs k q hk
    obtain ⟨a, vs, rfl, hx, z, al⟩ := dctAt_ok hm2 r2 q
    have := keyW_ok r1 hk
    subst this
    refine ⟨a, _, rfl, DGet.k hx, ?_⟩
    rw [al.isSome]
    exact hp2.ok hm2 _ (.p (.bl _))
  · exact hp2.elim
theorem pc_in_t (hu : X.A.units + 1 < cLine) (hi : PE X i (T X.K U g)) (ho : PE X o (T X.K U f)) : PC X .In i o (T X.K U (eDIn false g f)) := ⟨fun pins s σ H Q I hw => (pc_din hu hi ho).run pins s σ H Q I (din_t hw)⟩
theorem pc_notin_t (hu : X.A.units + 1 < cLine) (hi : PE X i (T X.K U g)) (ho : PE X o (T X.K U f)) : PC X .NotIn i o (T X.K U (eDIn true g f)) := ⟨fun pins s σ H Q I hw => (pc_dnotin hu hi ho).run pins s σ H Q I (din_t hw)⟩
theorem x_din (hu : X.A.units + 1 < cLine) (hi : PE X i (T X.K U g)) (ho : PE X o (T X.K U f)) (h1 : behindInMarks .In o = false := by first | exact nomark _ | rfl | with_unfolding_all rfl) : PE X (.Compare i [.In] [o] pos) (T X.K U (eDIn false g f)) := pe_cmp (pc_in_t hu hi ho) h1
theorem x_dnotin (hu : X.A.units + 1 < cLine) (hi : PE X i (T X.K U g)) (ho : PE X o (T X.K U f)) (h1 : behindInMarks .NotIn o = false := by first | exact nomark _ | rfl | with_unfolding_all rfl) : PE X (.Compare i [.NotIn] [o] pos) (T X.K U (eDIn true g f)) := pe_cmp (pc_notin_t hu hi ho) h1
theorem tB_of {σ : L2.St} {H : Hp} {Q : Bool → Hp → Prop} (h : TB X.K U (bVal f) σ H Q) : tB (T X.K U f) σ H Q := by
  obtain ⟨c, s, m, hs, hm, hp⟩ := h
  refine T.run hs hm hp fun c1 H1 w m1 v e1 hs1 hm1 r1 hp1 => ?_
  unfold boolOf at hp1
  split at hp1
  · cases r1 with | p r1 =>
    cases r1
    exact ⟨_, rfl, hp1.ok hm1⟩
  · exact hp1.elim
theorem b_din (hu : X.A.units + 1 < cLine) (hi : PE X i (T X.K U g)) (ho : PE X o (T X.K U f)) (h1 : behindInMarks .In o = false := by first | exact nomark _ | rfl | with_unfolding_all rfl) : PT X (.Compare i [.In] [o] pos) (TB X.K U (bVal (eDIn false g f))) := impT (pt_cmp (pc_in_t hu hi ho) h1) fun _ _ _ h => tB_of h
theorem b_dnotin (hu : X.A.units + 1 < cLine) (hi : PE X i (T X.K U g)) (ho : PE X o (T X.K U f)) (h1 : behindInMarks .NotIn o = false := by first | exact nomark _ | rfl | with_unfolding_all rfl) : PT X (.Compare i [.NotIn] [o] pos) (TB X.K U (bVal (eDIn true g f))) := impT (pt_cmp (pc_notin_t hu hi ho) h1) fun _ _ _ h => tB_of h
end

/-! ### dict displays -/
def mergeW (kvs more : List (Key × W)) : List (Key × W) := more.foldl (fun acc kv => putW acc kv.1 kv.2) kvs
def dpGo : List (EX W × EX W) → EX (List (Key × W))
  | [], _, m => .ok [] m
  | p :: r, s, m => (p.1 s m).bind fun k m1 => (p.2 s m1).bind fun v m2 => match keyW k with
    | some kk => (dpGo r s m2).bind fun l m3 => .ok ((kk, v) :: l) m3
    | none => .stuck
def eDisp (ps : List (EX W × EX W)) : EX W := fun s m => (dpGo ps s (m ++ [.dct []])).bind fun l m1 => if decide (l.length ≤ 15) = true then (match m1[m.length]? with
  | some (.dct []) => .ok (.loc m.length) (m1.set m.length (.dct (mergeW [] l)))
  | _ => .stuck) else .stuck
section
variable {K : PySem.W.Frag} {c : Cfg} {H : Hp} {m : Hm}
theorem Al.mono {c' : Cfg} {H' : Hp} {vs : List (Key × V)} {ws : List (Key × W)} (e : Ext c H c' H') (h : Al K c H vs ws) : Al K c' H' vs ws := h.sub e.sub
theorem Al.merge : ∀ {more : List (Key × V)} {more' : List (Key × W)} {vs : List (Key × V)} {ws : List (Key × W)}, Al K c H more more' → Al K c H vs ws → Al K c H (mergeK vs more) (mergeW ws more') := by
  intro more more' vs ws h
  induction h generalizing vs ws with
  | nil => exact id
  | cons r t ih => exact fun q => ih (q.put r)
theorem mergeK_len : ∀ {more vs : List (Key × V)}, (mergeK vs more).length ≤ vs.length + more.length
  | [], vs => by simp [mergeK]
  | kv :: more, vs => by
    have h1 := mergeK_len (more := more) (vs := putK vs kv.1 kv.2)
    have h2 := putK_len (vs := vs) (k := kv.1) (v := kv.2)
    have e : mergeK vs (kv :: more) = mergeK (putK vs kv.1 kv.2) more := rfl
    rw [e]
    simp only [List.length_cons]
    omega
theorem dp_imp {U : WX} {σ : L2.St} {s : Ev} {α : Type} {R : Cfg → Hp → α → Hm → Prop} : ∀ (ps : List (EX W × EX W)) {c : Cfg} {H : Hp} {m : Hm} {k : List (Key × W) → Hm → Res α} {Q : List (V × V) → Hp → Prop}, SRel K c H s σ → HRel K c m H → Post K U σ c H R ((dpGo ps s m).bind k) →
    (∀ c1 H1 l m1 (kvs : List (Key × V)), Ext c H c1 H1 → SRel K c1 H1 s σ → HRel K c1 m1 H1 → Al K c1 H1 kvs l → Post K U σ c1 H1 R (k l m1) → Q (kvs.map fun kv => (kV kv.1, kv.2)) H1) → tPairs (ps.map fun p => (T K U p.1, T K U p.2)) σ H Q
  | [], c, H, m, k, Q, hs, hm, hp, h => h c H [] m [] .refl hs hm .nil hp
  | p :: ps, c, H, m, k, Q, hs, hm, hp, h => by
    unfold dpGo at hp
    rw [Res.bind_assoc] at hp
    refine T.run hs hm hp fun c1 H1 w m1 v e1 hs1 hm1 r1 hp1 => ?_
    rw [Res.bind_assoc] at hp1
    refine T.run hs1 hm1 hp1 fun c2 H2 w2 m2 v2 e2 hs2 hm2 r2 hp2 => ?_
    have r1 := r1.mono e2
    split at hp2
    · rename_i kk hk
      rw [Res.bind_assoc] at hp2
      refine dp_imp ps hs2 hm2 hp2 fun c3 H3 l m3 kvs e3 hs3 hm3 al hp3 => ?_
      have := keyW_ok r1 hk
      subst this
      exact h c3 H3 _ m3 ((kk, v2) :: kvs) ((e1.trans e2).trans e3) hs3 hm3 (.cons (r2.mono e3) al) hp3
    · exact hp2.elim
theorem x_disp {X : Cx} {U : WX} {pos : Pos} {keys : List (Option Expr)} {values : List Expr} {ps : List (EX W × EX W)} (h : PPs X pos keys values (ps.map fun p => (T X.K U p.1, T X.K U p.2))) (hall : keys.all (·.isSome) = true := by rfl) (hl : keys.length = values.length := by rfl) (h0 : keys ≠ [] := by simp) (h15 : keys.length ≤ 15 := by simp) :
    PE X (.Dict keys values pos) (T X.K U (eDisp ps)) := by
  refine imp (pe_disp h hall hl h0 h15) ?_
  rintro σ H Q ⟨c, s, m, hs, hm, hp⟩
  intro p hpn
  have e0 : Ext c H ⟨c.fb, c.rho ++ [p]⟩ (upd H p (.dK [])) := Ext.cell hpn
  have hm0 : HRel X.K ⟨c.fb, c.rho ++ [p]⟩ (m ++ [.dct []]) (upd H p (.dK [])) := hm.cell hpn ⟨[], upd_same, Nat.zero_le _, rfl, .nil⟩
  have atp : (⟨c.fb, c.rho ++ [p]⟩ : Cfg).rho[m.length]? = some p := by rw [← hm.len]; simp
  have hp := hp.ext e0
  unfold eDisp at hp
  refine dp_imp ps (hs.mono e0) hm0 hp fun c1 H1 l m1 kvs e1 hs1 hm1 al hp1 => ?_
  split at hp1
  · rename_i hl
    have hl := of_decide_eq_true hl
    split at hp1
    · rename_i q
      have at1 := e1.at atp
      obtain ⟨vs, hx, z, al0⟩ := hm1.dct at1 q
      have : vs = [] := by cases al0; rfl
      subst this
      have ln := al.len
      refine ⟨hx, kvs, rfl, by omega, ?_⟩
      have ex : Ext c1 H1 c1 (upd H1 p (.dK (mergeK [] kvs))) := Ext.write at1
      have al2 := (Al.merge (al.mono ex) (vs := []) (ws := []) .nil)
      have ml := mergeK_len (more := kvs) (vs := [])
      exact hp1 c1 _ ex (hm1.write at1 ⟨_, upd_same, by rw [sizeLine_eq]; simp at ml; omega, al2.to.1, al2.to.2⟩) _ (.loc at1)
    · exact hp1.elim
  · exact hp1.elim
end
end Mir

namespace Mir
open PySem PySem.Spec PyProof.Rows L2

/-! ### dict comprehensions over lists, tuples, zips -/
def dcC (k : Nat) (gs : List (Nat × List W)) (t : Tg) (g : EX Bool) (fk fv : EX W) (s : Ev) : List W → Hm → Res Unit
  | [], m => if gOk m gs = true then .ok () m else .stuck
  | w :: r, m => if gOk m gs = true then (match t.put w s with
    | none => .stuck
    | some s1 => match g s1 m with
      | .ok b m1 => if b = true then (match fk s1 m1 with
          | .ok y m2 => (match fv s1 m2 with
            | .ok z m3 => (match m3[k]?, keyW y with
              | some (.dct kvs), some kk => if kvs.length < sizeLine then dcC k gs t g fk fv s r (m3.set k (.dct (putW kvs kk z))) else .stuck
              | _, _ => .stuck)
            | _ => .stuck)
          | _ => .stuck) else dcC k gs t g fk fv s r m1
      | _ => .stuck) else .stuck
def eDc (src : IX) (t : Tg) (g : EX Bool) (fk fv : EX W) (vs : List Nat) : EX W := fun s m => (src s m).bind fun sc m1 => (dcC m1.length sc.gs t g fk fv (wipeE s vs) sc.items (m1 ++ [.dct []])).bind fun _ m2 => .ok (.loc m1.length) m2
theorem dc_imp {K : PySem.W.Frag} {U : WX} {src : IX} {t : Tg} {g : EX Bool} {fk fv : EX W} {vs : List Nat} (hv : t.inn vs = true) {σ : L2.St} {H : Hp} {Q : VK} (h : T K U (eDc src t g fk fv vs) σ H Q) : tDc (TI' K U src) (TG' K t) (TB K U0 g) (T K U0 fk) (T K U0 fv) vs σ H Q := by
  obtain ⟨c, s, m, hs, hm, hp⟩ := h
  unfold eDc at hp
  refine TI'.run hs hm hp fun c1 H1 sc m1 J e1 hs1 hm1 hJ hp1 => ?_
  intro D hD
  have eD : Ext c1 H1 ⟨c1.fb, c1.rho ++ [D]⟩ (upd H1 D (.dK [])) := Ext.cell hD
  have hmD : HRel K ⟨c1.fb, c1.rho ++ [D]⟩ (m1 ++ [.dct []]) (upd H1 D (.dK [])) := hm1.cell hD ⟨[], upd_same, Nat.zero_le _, rfl, .nil⟩
  have atD : (⟨c1.fb, c1.rho ++ [D]⟩ : Cfg).rho[m1.length]? = some D := by rw [← hm1.len]; simp
  have hsD := hs1.mono eD
  refine ⟨fun i me H => i ≤ sc.items.length ∧ me = sc.items.length - i ∧ ∃ c m, Ext ⟨c1.fb, c1.rho ++ [D]⟩ (upd H1 D (.dK [])) c H ∧ HRel K c m H ∧
    Post K U σ c H (RQ K Q) ((dcC m1.length sc.gs t g fk fv (wipeE s vs) (sc.items.drop i) m).bind fun _ m2 => .ok (.loc m1.length) m2), ⟨sc.items.length, Nat.zero_le _, by simp, _, _, .refl, hmD, by simpa using hp1.ext eD⟩, ?_⟩
  rintro i me H ⟨hi, rfl, c, m, e, hm, hp⟩
  by_cases hi2 : i < sc.items.length
  case neg =>
    have hi3 : sc.items.length ≤ i := by omega
    rw [List.drop_eq_nil_of_le hi3] at hp
    unfold dcC at hp
    by_cases hg : gOk m sc.gs = true
    case neg => rw [if_neg hg] at hp; exact hp.elim
    rw [if_pos hg] at hp
    exact .inl ⟨(hJ c H m (eD.trans e) hm hg i).1 (by omega), hp.ok hm _ (.loc (e.at atD))⟩
  case pos =>
    rw [List.drop_eq_getElem_cons hi2] at hp
    unfold dcC at hp
    by_cases hg : gOk m sc.gs = true
    case neg => rw [if_neg hg] at hp; exact hp.elim
    rw [if_pos hg] at hp
    obtain ⟨go, yl⟩ := (hJ c H m (eD.trans e) hm hg i).2 _ (List.getElem?_eq_getElem hi2)
    cases es1 : t.put sc.items[i] (wipeE s vs) with
    | none => rw [es1] at hp; exact hp.elim
    | some s1 =>
    rw [es1] at hp
    refine .inr ⟨go, fun H' => ∃ c m, Ext ⟨c1.fb, c1.rho ++ [D]⟩ (upd H1 D (.dK [])) c H' ∧ HRel K c m H' ∧ Post K U σ c H' (RQ K Q) ((dcC m1.length sc.gs t g fk fv (wipeE s vs) (sc.items.drop (i + 1)) m).bind fun _ m2 => .ok (.loc m1.length) m2), fun H' q => ⟨_, by omega, by omega, rfl, q⟩, fun x H' y => ?_⟩
    obtain ⟨yy, rx⟩ := yl x H' y
    obtain ⟨ey, hmy⟩ := yld_ext hm yy
    have e2 := e.trans ey
    refine ⟨c, wipeE s vs, _, s1, ((hsD.mono e2).wipe vs), rx, es1, fun σ2 hs2 hwp => ⟨?_, ?_⟩⟩
    · rw [hwp vs hv]
      exact wipe_wipe σ vs
    refine ⟨c, s1, m, hs2, hmy, ?_⟩
    have hp := hp.ext ey
    cases eg : g s1 m with
    | stuck => simp only [eg] at hp; exact hp.elim
    | exc x m2 => simp only [eg] at hp; exact hp.elim
    | ok b m2 =>
    simp only [eg] at hp
    intro c3 H3 e3 hm3
    have hp := hp.ext e3
    cases b with
    | false =>
      simp only [Bool.false_eq_true, if_false] at hp ⊢
      exact ⟨c3, m2, e2.trans e3, hm3, hp⟩
    | true =>
    simp only [if_true] at hp ⊢
    refine ⟨c3, s1, m2, hs2.mono e3, hm3, ?_⟩
    cases ek : fk s1 m2 with
    | stuck => simp only [ek] at hp; exact hp.elim
    | exc x m3 => simp only [ek] at hp; exact hp.elim
    | ok ky m3 =>
    simp only [ek] at hp
    intro c4 H4 e4 hm4 kv rk
    have hp := hp.ext e4
    refine ⟨c4, s1, m3, (hs2.mono e3).mono e4, hm4, ?_⟩
    cases ef : fv s1 m3 with
    | stuck => simp only [ef] at hp; exact hp.elim
    | exc x m5 => simp only [ef] at hp; exact hp.elim
    | ok w m5 =>
    simp only [ef] at hp
    intro c8 H8 e8 hm8 v rv
    have hp := hp.ext e8
    have eall := (e2.trans e3).trans (e4.trans e8)
    have hDr := eall.at atD
    split at hp
    · rename_i kvs kk q hk
      split at hp
      · rename_i hl
        have := keyW_ok (rk.mono e8) hk
        subst this
        obtain ⟨xs, hx, z, al⟩ := hm8.dct hDr q
        have ln := al.len
        have ex : Ext c8 H8 c8 (upd H8 D (.dK (putK xs kk v))) := Ext.write hDr
        have al2 := (al.put (k := kk) rv).sub ex.sub
        have pl := putK_len (vs := xs) (k := kk) (v := v)
        exact ⟨xs, kk, rfl, hx, by omega, c8, m5.set m1.length (.dct (putW kvs kk w)), eall.trans ex, hm8.write hDr (x := .dct (putW kvs kk w)) ⟨putK xs kk v, upd_same, by omega, al2.to.1, al2.to.2⟩, hp.ext ex⟩
      · exact hp.elim
    · exact hp.elim
section
variable {X : Cx} {U : WX} {kx vx tg iter : Expr} {ifs : List Expr} {scope : Scope} {own : List (Str × Nat)} {pos : Pos} {src : IX} {t : Tg} {g : EX Bool} {fk fv : EX W}
theorem x_dc (hv : t.inn (own.map (·.2)) = true) (hc : X.calm = true) (hN : X.N.Nodup) (hi : PI X tg iter (TI' X.K U src)) (bo : BlkOk X.N X.env.scope scope own)
    (hg : ∀ (s : Shared) (H : Hp) (C : Addr) (cl : List (Str × Addr)) (fp : List Addr), PG (X.blk s H scope (compEnvC scope cl C X.env) fp) tg (TG' X.K t)) (ht : ∀ (s : Shared) (H : Hp) (C : Addr) (cl : List (Str × Addr)) (fp : List Addr), PTs (X.blk s H scope (compEnvC scope cl C X.env) fp) ifs (TB X.K U0 g))
    (hk : ∀ (s : Shared) (H : Hp) (C : Addr) (cl : List (Str × Addr)) (fp : List Addr), PE (X.blk s H scope (compEnvC scope cl C X.env) fp) kx (T X.K U0 fk))
    (he : ∀ (s : Shared) (H : Hp) (C : Addr) (cl : List (Str × Addr)) (fp : List Addr), PE (X.blk s H scope (compEnvC scope cl C X.env) fp) vx (T X.K U0 fv)) (hs : ∀ x, foldedSetIterable iter X.env x = pure x := by intro _; rfl) :
    PE X (.DictComp kx vx [⟨tg, iter, ifs, 0⟩] scope pos) (T X.K U (eDc src t g fk fv (own.map (·.2)))) :=
  imp (pe_dc hc hN hi bo hg ht hk he hs) fun _ _ _ h => dc_imp hv h
end

/-! ### {k: d[k] for k in d}: the same once more -/
def nodupB (ks : List Key) : Bool := decide ks.Nodup
def eDCopy (i j : Nat) : EX W := fun s m => match s[i]? with
  | some (some w) => (match dctAt w m with
    | some kvs => if (nodupB (kvs.map (·.1)) && decide (j < s.length)) = true then .ok (.loc m.length) (m ++ [.dct kvs]) else .stuck
    | none => .stuck)
  | _ => .stuck
theorem putK_app {vs : List (Key × V)} {k : Key} {v : V} (h : k ∉ vs.map (·.1)) : putK vs k v = vs ++ [(k, v)] := by
  unfold putK
  rw [if_neg]
  rw [List.any_eq_true]
  rintro ⟨x, hx, e⟩
  exact h (List.mem_map.mpr ⟨x, hx, by simpa using e⟩)
theorem putK_take {vs : List (Key × V)} (nd : (vs.map (·.1)).Nodup) {i : Nat} {k : Key} {v : V} (e : vs[i]? = some (k, v)) : putK (vs.take i) k v = vs.take (i + 1) := by
  obtain ⟨hi, e⟩ := List.getElem?_eq_some_iff.mp e
  rw [putK_app, List.take_succ, List.getElem?_eq_getElem hi, e]
  · rfl
  · intro hm
    obtain ⟨x, hx, ek⟩ := List.mem_map.mp hm
    obtain ⟨j, hj, ej⟩ := List.mem_iff_getElem.mp hx
    have hj2 : j < i := by simp at hj; omega
    rw [List.getElem_take] at ej
    have h1 : (vs.map (·.1))[j]'(by simp; omega) = (vs.map (·.1))[i]'(by simpa using hi) := by simp [ej, ek, e]
    have := (List.getElem_inj nd).mp h1
    omega
theorem val_at {vs : List (Key × V)} (nd : (vs.map (·.1)).Nodup) {i : Nat} {k : Key} {v : V} (e : vs[i]? = some (k, v)) : valV vs k = some v := by
  have hm := List.mem_of_getElem? e
  unfold valV
  induction vs generalizing i with
  | nil => simp at e
  | cons p vs ih =>
    rw [List.map_cons, List.nodup_cons] at nd
    rw [List.find?_cons]
    by_cases q : p.1 = k
    · rw [decide_eq_true q]
      cases i with
      | zero => simp at e; simp [e]
      | succ i =>
        exfalso
        have e' : vs[i]? = some (k, v) := by simpa using e
        exact nd.1 (List.mem_map.mpr ⟨_, List.mem_of_getElem? e', q.symm⟩)
    · rw [decide_eq_false q]
      cases i with
      | zero => simp at e; simp [e] at q
      | succ i =>
        have e' : vs[i]? = some (k, v) := by simpa using e
        exact ih nd.2 e' (List.mem_of_getElem? e')
theorem upd_comm {H : Hp} {a b : Addr} {o u : HO} (h : a ≠ b) : upd (upd H a o) b u = upd (upd H b u) a o := by
  funext x
  unfold upd
  by_cases h1 : x = a
  · subst h1; simp [h]
  · by_cases h2 : x = b
    · simp [h1, h2]; exact fun e => (h e.symm).elim
    · simp [h1, h2]
theorem upd_id {H : Hp} {a : Addr} {o : HO} (h : H a = some o) : upd H a o = H := by
  funext x
  unfold upd
  by_cases h1 : x = a
  · subst h1; simp [h]
  · simp [h1]
section
variable {U : WX} {i j : Nat}
theorem dcopy_imp {K : PySem.W.Frag} {σ : L2.St} {H : Hp} {Q : VK} (hij : i ≠ j) (h : T K U (eDCopy i j) σ H Q) : ∃ d u, H d = some u ∧ Mut (some u) ∧ ∀ od, tDc (iKeys (tVar i)) (gName j) tYes (tVar j) (tDGet (tVar i) (tVar j)) [j] σ (upd H d (.frz od u)) fun v H' => H' d = some (.frz od u) ∧ Q v (upd H' d u) := by
  obtain ⟨c, s, m, hsr, hm, hp⟩ := h
  unfold eDCopy at hp
  split at hp
  · rename_i w hw
    split at hp
    · rename_i kvs hq
      split at hp
      · rename_i hnd
        rw [Bool.and_eq_true] at hnd
        obtain ⟨v, hv, rv⟩ := hsr.2 i w hw
        obtain ⟨d, vs, rfl, hx, z, al⟩ := dctAt_ok hm rv hq
        have nd : (vs.map (·.1)).Nodup := by rw [al.to.1]; exact of_decide_eq_true hnd.1
        have hjl : j < σ.length := by rw [← hsr.1]; exact of_decide_eq_true hnd.2
        refine ⟨d, .dK vs, hx, trivial, fun od => ?_⟩
        have hd1 : upd H d (.frz od (.dK vs)) d = some (.frz od (.dK vs)) := upd_same
        refine ⟨.ref d, hv, d, od, rfl, .inl ⟨vs, hd1, fun D hD => ?_⟩⟩
        have hDd : D ≠ d := fun e => by subst e; rw [hd1] at hD; cases hD
        have hD0 : H D = none := by rw [upd_ne hDd] at hD; exact hD
        refine ⟨fun n me H' => n ≤ vs.length ∧ me = vs.length - n ∧ H' = upd (upd H d (.frz od (.dK vs))) D (.dK (vs.take n)), ⟨vs.length, Nat.zero_le _, by simp, by simp⟩, ?_⟩
        rintro n me H' ⟨hn, rfl, rfl⟩
        have hd2 : upd (upd H d (.frz od (.dK vs))) D (.dK (vs.take n)) d = some (.frz od (.dK vs)) := by rw [upd_ne hDd.symm]; exact hd1
        by_cases hn2 : n < vs.length
        · refine .inr ⟨⟨hd2, hn2⟩, fun H' => H' = upd (upd H d (.frz od (.dK vs))) D (.dK (vs.take (n + 1))), fun H' e => ⟨_, by omega, by omega, rfl, e⟩, ?_⟩
          rintro x H' ⟨rfl, k, u, e, rfl⟩
          have w1 : wipe σ [j] = σ.set j none := rfl
          have hj2 : ((wipe σ [j]).set j (some (kV k)))[j]? = some (some (kV k)) := by rw [w1, List.getElem?_set_self (by simpa using hjl)]
          have hi2 : ((wipe σ [j]).set j (some (kV k)))[i]? = some (some (.ref d)) := by rw [w1, List.getElem?_set_ne hij.symm, List.getElem?_set_ne hij.symm]; exact hv
          refine ⟨(wipe_set (by simp)).trans (wipe_wipe σ [j]), ?_⟩
          unfold tYes
          simp only [if_true]
          refine ⟨kV k, hj2, .ref d, hi2, kV k, hj2, d, u, rfl, .inl ⟨vs, k, .inr ⟨od, hd2⟩, rfl, (val_at nd e).symm⟩, vs.take n, k, rfl, upd_same, by simp; omega, ?_⟩
          rw [putK_take nd e, upd_upd]
        · have hn3 : n = vs.length := by omega
          subst hn3
          refine .inl ⟨⟨hd2, Nat.le_refl _⟩, hd2, ?_⟩
          rw [List.take_length, upd_comm hDd, upd_upd, upd_id hx]
          have e1 : Ext c H ⟨c.fb, c.rho ++ [D]⟩ (upd H D (.dK vs)) := Ext.cell hD0
          have al2 := al.mono e1
          exact hp _ _ e1 (hm.cell hD0 ⟨vs, upd_same, z, al2.to.1, al2.to.2⟩) _ (.loc (by rw [← hm.len]; simp))
      · exact hp.elim
    · exact hp.elim
  · exact hp.elim
end
section
variable {X : Cx} {U : WX} {kx vx tg iter : Expr} {scope : Scope} {own : List (Str × Nat)} {pos : Pos} {i j : Nat}
theorem x_dcopy (hij : i ≠ j) (ho : own.map (·.2) = [j]) (hc : X.calm = true) (hN : X.N.Nodup) (hi : PE X iter (tVar i)) (bo : BlkOk X.N X.env.scope scope own)
    (hg : ∀ (s : Shared) (H : Hp) (C : Addr) (cl : List (Str × Addr)) (fp : List Addr), PG (X.blk s H scope (compEnvC scope cl C X.env) fp) tg (gName j)) (ht : ∀ (s : Shared) (H : Hp) (C : Addr) (cl : List (Str × Addr)) (fp : List Addr), PTs (X.blk s H scope (compEnvC scope cl C X.env) fp) [] tYes)
    (hk : ∀ (s : Shared) (H : Hp) (C : Addr) (cl : List (Str × Addr)) (fp : List Addr), PE (X.blk s H scope (compEnvC scope cl C X.env) fp) kx (tVar j))
    (he : ∀ (s : Shared) (H : Hp) (C : Addr) (cl : List (Str × Addr)) (fp : List Addr), PE (X.blk s H scope (compEnvC scope cl C X.env) fp) vx (tDGet (tVar i) (tVar j))) (hs : ∀ x, foldedSetIterable iter X.env x = pure x := by intro _; rfl) :
    PE X (.DictComp kx vx [⟨tg, iter, [], 0⟩] scope pos) (T X.K U (eDCopy i j)) := by
  refine imp (pe_lock (pe_dc hc hN (pi_keys hi) bo hg ht hk he hs)) fun σ H Q h => ?_
  obtain ⟨d, u, hd, mu, q⟩ := dcopy_imp hij h
  refine ⟨d, u, hd, mu, fun od => ?_⟩
  rw [ho]
  exact q od
end

/-! ### for k in d: f[k] = d[k] -/
def sDInto (iF iK j : Nat) : SX := fun s m => match s[iF]?, s[iK]? with
  | some (some (.loc nf)), some (some (.loc nk)) => (match m[nf]?, m[nk]? with
    | some (.dct kf), some (.dct kk) => if (nodupB (kk.map (·.1)) && (decide (j < s.length) && (decide (nf ≠ nk) && decide (kf.length + kk.length < sizeLine)))) = true then some (.nx (s.set j none), m.set nf (.dct (mergeW kf kk))) else none
    | _, _ => none)
  | _, _ => none
theorem mergeK_take {vf vs : List (Key × V)} {i : Nat} {k : Key} {v : V} (e : vs[i]? = some (k, v)) : putK (mergeK vf (vs.take i)) k v = mergeK vf (vs.take (i + 1)) := by
  obtain ⟨hi, e⟩ := List.getElem?_eq_some_iff.mp e
  rw [List.take_succ, List.getElem?_eq_getElem hi, e]
  unfold mergeK
  rw [List.foldl_append]
  rfl
section
variable {X : Cx} {U : WX} {tg iter oF oK kE kE2 : Expr} {pos pos1 pos2 pos3 : Pos} {iF iK j : Nat}
theorem s_dinto (hFj : iF ≠ j) (hKj : iK ≠ j) (hu : X.A.units + 1 < cLine) (hp : PassesOwn (model X.prog X.w) X.A X.env X.xe) (hc : X.calm = true) (hi : PE X iter (tVar iK)) (hg : PG X tg (gName j)) (hF : PE X oF (tVar iF)) (hk : PE X kE (tVar j)) (hk2 : PE X kE2 (tVar j)) (hK : PE X oK (tVar iK)) (hsl : NoSl kE2 := by intro _ _; rfl)
    (hsw : swapsWith (.Subscript oK kE2 pos1) (some (.Subscript oF kE pos2)) pos3.line X.env = pure false := by rfl) (hs : ∀ x, foldedSetIterable iter X.env x = pure x := by intro _; rfl) :
    PS X (.For tg iter [.Assign [.Subscript oF kE pos2] (.Subscript oK kE2 pos1) pos3] [] pos) (TSt X.K U (sDInto iF iK j)) := by
  refine impS (ps_lock (ps_for hp hc (pi_keys hi) hg (pss_one (ps_dput hu hF hk (pe_dget hu hK hk2 hsl) hsw)) hs)) ?_
  rintro D σ H ⟨c, s, m, hsr, hm, hps⟩
  unfold sDInto at hps
  split at hps
  · rename_i nf nk h1 h2
    split at hps
    · rename_i kf kk q1 q2
      split at hps
      · rename_i hnd
        rw [Bool.and_eq_true, Bool.and_eq_true, Bool.and_eq_true] at hnd
        obtain ⟨hnd1, hj, hne, hlen⟩ := hnd
        have hne := of_decide_eq_true hne
        have hlen := of_decide_eq_true hlen
        obtain ⟨vF, hvF, rF⟩ := hsr.2 iF _ h1
        obtain ⟨vK, hvK, rK⟩ := hsr.2 iK _ h2
        cases rF with | @loc F _ hF1 =>
        cases rK with | @loc d _ hK1 =>
        obtain ⟨vf, hxF, zF, alF⟩ := hm.dct hF1 q1
        obtain ⟨vs, hx, z, al⟩ := hm.dct hK1 q2
        have hFd : F ≠ d := fun e => by
          subst e
          exact hne ((List.getElem?_inj (List.getElem?_eq_some_iff.mp hF1).1 hm.nd).mp (hF1.trans hK1.symm))
        have nd : (vs.map (·.1)).Nodup := by rw [al.to.1]; exact of_decide_eq_true hnd1
        have hjl : j < σ.length := by rw [← hsr.1]; exact of_decide_eq_true hj
        have ln := al.len
        have lnF := alF.len
        refine ⟨d, .dK vs, hx, trivial, fun od => ?_⟩
        have hd1 : upd H d (.frz od (.dK vs)) d = some (.frz od (.dK vs)) := upd_same
        refine ⟨.ref d, hvK, d, od, rfl, .inl ⟨vs, hd1, ?_⟩⟩
        refine ⟨fun n me σ' H' => n ≤ vs.length ∧ me = vs.length - n ∧ H' = upd (upd H d (.frz od (.dK vs))) F (.dK (mergeK vf (vs.take n))) ∧ ∃ o, σ' = σ.set j o, ⟨vs.length, Nat.zero_le _, by simp, ?_, σ[j], ?_⟩, ?_⟩
        · rw [List.take_zero, upd_comm hFd.symm]
          have : mergeK vf [] = vf := rfl
          rw [this, upd_id hxF]
        · rw [List.set_getElem_self]
        rintro n me σ' H' ⟨hn, rfl, rfl, o, rfl⟩
        have hd2 : upd (upd H d (.frz od (.dK vs))) F (.dK (mergeK vf (vs.take n))) d = some (.frz od (.dK vs)) := by rw [upd_ne hFd.symm]; exact hd1
        by_cases hn2 : n < vs.length
        · refine .inr ⟨⟨hd2, hn2⟩, fun σ' H' => H' = upd (upd H d (.frz od (.dK vs))) F (.dK (mergeK vf (vs.take (n + 1)))) ∧ ∃ o, σ' = σ.set j o, fun σ' H' e => ⟨_, by omega, by omega, rfl, e⟩, ?_⟩
          rintro x H' ⟨rfl, k, u, e, rfl⟩
          have hj2 : ((σ.set j o).set j (some (kV k)))[j]? = some (some (kV k)) := by rw [List.getElem?_set_self (by simpa using hjl)]
          have hi2 : ((σ.set j o).set j (some (kV k)))[iK]? = some (some (.ref d)) := by rw [List.getElem?_set_ne hKj.symm, List.getElem?_set_ne hKj.symm]; exact hvK
          have hi3 : ((σ.set j o).set j (some (kV k)))[iF]? = some (some (.ref F)) := by rw [List.getElem?_set_ne hFj.symm, List.getElem?_set_ne hFj.symm]; exact hvF
          have ml := mergeK_len (more := vs.take n) (vs := vf)
          rw [List.length_take] at ml
          refine ⟨.ref d, hi2, kV k, hj2, d, u, rfl, .inl ⟨vs, k, .inr ⟨od, hd2⟩, rfl, (val_at nd e).symm⟩, .ref F, hi3, kV k, hj2, F, _, rfl, .inl ⟨mergeK vf (vs.take n), k, upd_same, rfl, by omega, rfl⟩, ?_, some (kV k), by rw [List.set_set]⟩
          rw [mergeK_take e, upd_upd]
        · have hn3 : n = vs.length := by omega
          subst hn3
          refine .inl ⟨⟨hd2, Nat.le_refl _⟩, hd2, ?_⟩
          rw [List.take_length, upd_comm hFd, upd_upd, upd_id hx]
          have e1 : Ext c H c (upd H F (.dK (mergeK vf vs))) := Ext.write hF1
          have al2 := (Al.merge al alF).mono e1
          have ml := mergeK_len (more := vs) (vs := vf)
          refine hps c _ e1 (hm.write hF1 (x := .dct (mergeW kf kk)) ⟨_, upd_same, by omega, al2.to.1, al2.to.2⟩) _ ?_
          have h3 := hsr.mono e1
          refine ⟨by simp [h3.1], fun i w q => ?_⟩
          by_cases e : j = i
          · subst e
            rw [List.getElem?_set_self (by rw [h3.1]; exact hjl)] at q
            cases q
          · rw [List.getElem?_set_ne e] at q ⊢
            exact h3.2 i w q
      · exact hps.elim
    · exact hps.elim
  · exact hps.elim
end

/-! ### t * k, l * k -/
theorem tuple_mul1 (l : Addr) (items : Array Value) (n : Nat) (dd : Option Addr) (sl : Array (Option Value)) (u : Tok) :
    Meets (Builtin.«tuple.__mul__» ⟨[.ref l, .int 1 u], []⟩) (fun _ R s => s.heap.get? l = some { cls := .type "tuple", dict := dd, data := .seq items n, slots := sl } ∧ R (.ok (.ret (Value.ref l))) s) :=
  .of_wp fun prog w A R s h => by
    obtain ⟨hp, g, d, tk, os⟩ := s
    obtain ⟨hl, h⟩ := h
    have f1 := AutoSeq1.idx_int
    wp_walk using wpAny_loadPart' hl
    exact ⟨_, rfl, h⟩
def rRepT1 (K : PySem.W.Frag) : R2 := fun x y H Q => ∃ l xs, x = .ref l ∧ y = .int 1 ∧ SqT K H l xs ∧ Q (.ref l) H
theorem op_repT1 {X : Cx} : OpR X (binaryOp .Mult) (rRepT1 X.K) := by
  intro pins s σ H x y v u Q I rx ry h
  obtain ⟨l, xs, rfl, rfl, hT, q⟩ := h
  cases rx
  obtain ⟨t, rfl⟩ := ry
  obtain ⟨its, r, ⟨⟨cls, dd, data, sl⟩, ho, hc, n, hd⟩, hs⟩ := I.tuple hT
  simp only at hc hd
  subst hc hd
  refine wpAny_binaryOp_repeat_ref (T := "tuple") (U := "int") (by decide) ⟨_, ho, rfl⟩ (fun s' => typeIs_int s' 1 t) noFill_tuple_mul F.fills_int_mul F.slot_int_rmul repeat_tuple F.slot_int_index.lookup
    (call_meets F.slot_int_rmul (typeIs_int s 1 t) F.entry_int_rmul (F.args_int_rmul_2 _ _) (int_rmul_tuple 1 t l its.toArray n dd sl)
      ⟨ho, rfl, ⟨_, ho, rfl⟩, call_meets F.slot_tuple_mul ⟨_, ho, rfl⟩ F.entry_tuple_mul (F.args_tuple_mul_2 _ _) (tuple_mul1 l its.toArray n dd sl t) ⟨ho, ?_⟩⟩)
  exact ⟨.ref l, H, I, rfl, q⟩
abbrev rRepAny (K : PySem.W.Frag) : R2 := fun x y H Q => rRepT K x y H Q ∨ (rRepT1 K x y H Q ∨ rRep x y H Q)
theorem op_repAny {X : Cx} : OpR X (binaryOp .Mult) (rRepAny X.K) := op_repT.or (op_repT1.or op_rep)
def repM : W → W → Hm → Res W
  | .p (.tuple ds), .p (.int k), m => if (decide (ds ≠ []) && (decide (1 ≤ k) && (decide (k ≤ 1000) && decide (ds.length ≤ 1000)))) = true then .ok (.p (.tuple (List.replicate k.toNat ds).flatten)) m else .stuck
  | .p (.list ds), .p (.int k), m => if (decide (0 ≤ k) && (decide (k ≤ 1000) && decide (ds.length ≤ 1000))) = true then .ok (.p (.list (List.replicate k.toNat ds).flatten)) m else .stuck
  | _, _, _ => .stuck
theorem RpAll.rep {K : PySem.W.Frag} {c : Cfg} {H : Hp} {xs : List V} {ds : List PyData} (r : RpAll K c H xs ds) : ∀ n : Nat, RpAll K c H (List.replicate n xs).flatten (List.replicate n ds).flatten
  | 0 => .nil
  | n + 1 => by
    rw [List.replicate_succ, List.replicate_succ, List.flatten_cons, List.flatten_cons]
    exact RpAll.append r (RpAll.rep r n)
theorem rep_len {α : Type} (xs : List α) : ∀ n : Nat, (List.replicate n xs).flatten.length = n * xs.length
  | 0 => by simp
  | n + 1 => by
    rw [List.replicate_succ, List.flatten_cons, List.length_append, rep_len xs n, Nat.succ_mul, Nat.add_comm]
theorem repM_ok {K : PySem.W.Frag} : OpM K (rRepAny K) repM := by
  intro U σ c H m v1 v2 w1 w2 Q hm r1 r2 hp
  unfold repM at hp
  split at hp
  · rename_i ds k
    cases r1 with | p r1 => cases r2 with | p r2 =>
    split at hp
    · rename_i hz
      rw [Bool.and_eq_true, Bool.and_eq_true, Bool.and_eq_true] at hz
      obtain ⟨h1, h2, h3, h4⟩ := hz
      have h1 := of_decide_eq_true h1
      have h2 := of_decide_eq_true h2
      have h3 := of_decide_eq_true h3
      have h4 := of_decide_eq_true h4
      cases r2
      obtain ⟨a, xs, rfl, ht, z, q⟩ := r1.tupI
      have ln := q.length
      by_cases hk : k = 1
      · subst hk
        refine .inr (.inl ⟨a, xs, rfl, rfl, ht.sq, ?_⟩)
        have e : (List.replicate (1 : Int).toNat ds).flatten = ds := by simp
        rw [e] at hp
        exact hp.ok hm _ (.p (.tup ht z q))
      · refine .inl ⟨a, k, xs, rfl, rfl, ht.sq, fun e => h1 (q.nil_iff.mp e), by omega, h3, by omega, fun p hpn => ?_⟩
        have hl := rep_len xs k.toNat
        have hl2 : k.toNat * xs.length ≤ 1000 * 1000 := Nat.mul_le_mul (by omega) (by omega)
        exact hp c (upd H p _) (Ext.new hpn) (hm.new hpn) _ (.p (Rp.newT hm hpn (by rw [sizeLine_eq]; omega) (q.rep k.toNat)))
    · exact hp.elim
  · rename_i ds k
    cases r1 with | p r1 => cases r2 with | p r2 =>
    split at hp
    · rename_i hz
      rw [Bool.and_eq_true, Bool.and_eq_true] at hz
      obtain ⟨h2, h3, h4⟩ := hz
      have h2 := of_decide_eq_true h2
      have h3 := of_decide_eq_true h3
      have h4 := of_decide_eq_true h4
      cases r2
      obtain ⟨a, xs, rfl, hx, _, _, z, q⟩ := r1.lstI
      have ln := q.length
      have hl := rep_len xs k.toNat
      have hl2 : k.toNat * xs.length ≤ 1000 * 1000 := Nat.mul_le_mul (by omega) (by omega)
      refine .inr (.inr ⟨a, k, xs, rfl, rfl, hx, by omega, by omega, by rw [sizeLine_eq, Nat.mul_comm]; omega, fun p hpn => ?_⟩)
      exact hp c (upd H p _) (Ext.new hpn) (hm.new hpn) _ (.p (Rp.newL hm hpn (by rw [sizeLine_eq]; omega) (q.rep k.toNat)))
    · exact hp.elim
  · exact hp.elim

/-! ### name = {..} with the name a local -/
section
variable {X : Cx} {kx vx tg iter : Expr} {ifs : List Expr} {scope : Scope} {own : List (Str × Nat)} {pos spos py : Pos} {wi : TI} {g : TG} {tt : TT} {tk tv : TE} {i : Nat} {y : Str}
theorem ps_setDc (hc : X.calm = true) (hN : X.N.Nodup) (hy : X.N[i]? = some y) (hyl : X.env.scope.names.lookup y = some .local)
    (hsw : swapsWith (.DictComp kx vx [⟨tg, iter, ifs, 0⟩] scope pos) (some (.Name y py)) spos.line X.env = pure true) (hi : PI X tg iter wi) (ok : BlkOk X.N X.env.scope scope own)
    (hg : ∀ (s : Shared) (H : Hp) (C : Addr) (cl : List (Str × Addr)) (fp : List Addr), PG (X.blk s H scope (compEnvC scope cl C X.env) fp) tg g) (ht : ∀ (s : Shared) (H : Hp) (C : Addr) (cl : List (Str × Addr)) (fp : List Addr), PTs (X.blk s H scope (compEnvC scope cl C X.env) fp) ifs tt)
    (hk : ∀ (s : Shared) (H : Hp) (C : Addr) (cl : List (Str × Addr)) (fp : List Addr), PE (X.blk s H scope (compEnvC scope cl C X.env) fp) kx tk)
    (he : ∀ (s : Shared) (H : Hp) (C : Addr) (cl : List (Str × Addr)) (fp : List Addr), PE (X.blk s H scope (compEnvC scope cl C X.env) fp) vx tv) (hs : ∀ x, foldedSetIterable iter X.env x = pure x := by intro _; rfl) :
    PS X (.Assign [.Name y py] (.DictComp kx vx [⟨tg, iter, ifs, 0⟩] scope pos) spos) (tAsg (tDc wi g tt tk tv (own.map (·.2))) (gName i)) := by
  refine ⟨fun pins s σ H D I h => ?_⟩
  rw [exec_Assign_Name_used _ _ _ _ hsw]
  refine wpAny_bind (wpAny_standAt (wpAny_bind ?_))
  show wpAny _ X.A (do let _ ← comprehension (.DictComp kx vx [⟨tg, iter, ifs, 0⟩] scope pos) scope X.env (firstIterPos [⟨tg, iter, ifs, 0⟩] pos) newDict false (eval iter X.env) (some (assign (.Name y py) X.env))) _ _ s
  have h : tDc wi g tt tk tv (own.map (·.2)) σ H (fun x H1 => gName i x σ H1 D.nx) := h
  refine wpAny_bind (thn (dc_core (Qf := fun _ s' => SP X pins D .next s') hc hN I hi ok hg ht hk he hs h fun L C s' m H' I' q hn f => ?_) fun _ s' hq => wpAny_pure (wpAny_pure hq))
  show wpAny _ _ (assign (.Name y py) X.env (.ref L)) _ _ _
  refine wpAny_assign_Name (store_ok2 (v := V.ref L) I' hN hy (.inl hyl) rfl (fun s2 I2 ⟨a, sb, ha⟩ => ?_) (.inr hyl))
  obtain ⟨f0, f1, f2, f3, f4, f5⟩ := f
  have haC : C ≠ a := by
    rcases ha with z | z
    · rw [z]; exact f1
    · exact fun e => f4 y a z e.symm
  refine ⟨m, hn.sameBut sb haC, fun h3 sb3 => ?_⟩
  exact ⟨_, H', I2.turned (t' := s2.toks) (fun b o hb e => (sb3.2 b hb).trans e) f0 f1 f3 f4 f5, q⟩
theorem sw_trueD {elt elt2 : Expr} {gs : List Comprehension} {scope : Scope} {pos py : Pos} {y : Str} {l : Nat} {env : Env} (hk : env.scope.kind = .function) (hy : env.scope.names.lookup y = some .local) (hl : (py.line == pos.line) = true)
    (ha : (scope.names.any fun (n, k) => n == y && (k == .local || k == .cell)) = false) : swapsWith (.DictComp elt elt2 gs scope pos) (some (.Name y py)) l env = pure true := by
  have ky : env.kindOf y = some .local := hy
  have hb : env.blockKind = .function := by unfold Env.blockKind; rw [hk]; rfl
  unfold swapsWith
  simp only [hb, ky, ha, Expr.pos, hl]
  rfl
theorem s_setDc {U : WX} {src : IX} {t : Tg} {g : EX Bool} {fk fv : EX W} (hv : t.inn (own.map (·.2)) = true) (hc : X.calm = true) (hN : X.N.Nodup) (hy : X.N[i]? = some y) (hyl : X.env.scope.names.lookup y = some .local)
    (hsw : swapsWith (.DictComp kx vx [⟨tg, iter, ifs, 0⟩] scope pos) (some (.Name y py)) spos.line X.env = pure true) (hi : PI X tg iter (TI' X.K U src)) (ok : BlkOk X.N X.env.scope scope own)
    (hg : ∀ (s : Shared) (H : Hp) (C : Addr) (cl : List (Str × Addr)) (fp : List Addr), PG (X.blk s H scope (compEnvC scope cl C X.env) fp) tg (TG' X.K t)) (ht : ∀ (s : Shared) (H : Hp) (C : Addr) (cl : List (Str × Addr)) (fp : List Addr), PTs (X.blk s H scope (compEnvC scope cl C X.env) fp) ifs (TB X.K U0 g))
    (hk : ∀ (s : Shared) (H : Hp) (C : Addr) (cl : List (Str × Addr)) (fp : List Addr), PE (X.blk s H scope (compEnvC scope cl C X.env) fp) kx (T X.K U0 fk))
    (he : ∀ (s : Shared) (H : Hp) (C : Addr) (cl : List (Str × Addr)) (fp : List Addr), PE (X.blk s H scope (compEnvC scope cl C X.env) fp) vx (T X.K U0 fv)) (hs : ∀ x, foldedSetIterable iter X.env x = pure x := by intro _; rfl) :
    PS X (.Assign [.Name y py] (.DictComp kx vx [⟨tg, iter, ifs, 0⟩] scope pos) spos) (TSt X.K U (sSet i (eDc src t g fk fv (own.map (·.2))))) := by
  refine impS (ps_setDc hc hN hy hyl hsw hi ok hg ht hk he hs) fun D σ H h => ?_
  obtain ⟨c, s, m, hs, hm, hp⟩ := h
  exact dc_imp hv ⟨c, s, m, hs, hm, Post.st hs hp fun c1 H1 a m1 e1 hs1 hm1 hp1 v rv => hp1.ok hm1 _ (hs1.set rv)⟩
end
section
variable {X : Cx} {U : WX} {kx vx tg iter : Expr} {scope : Scope} {own : List (Str × Nat)} {pos spos py : Pos} {i j n : Nat} {y : Str}
theorem s_setDCopy (hij : i ≠ j) (ho : own.map (·.2) = [j]) (hc : X.calm = true) (hN : X.N.Nodup) (hy : X.N[n]? = some y) (hyl : X.env.scope.names.lookup y = some .local)
    (hsw : swapsWith (.DictComp kx vx [⟨tg, iter, [], 0⟩] scope pos) (some (.Name y py)) spos.line X.env = pure true) (hi : PE X iter (tVar i)) (bo : BlkOk X.N X.env.scope scope own)
    (hg : ∀ (s : Shared) (H : Hp) (C : Addr) (cl : List (Str × Addr)) (fp : List Addr), PG (X.blk s H scope (compEnvC scope cl C X.env) fp) tg (gName j)) (ht : ∀ (s : Shared) (H : Hp) (C : Addr) (cl : List (Str × Addr)) (fp : List Addr), PTs (X.blk s H scope (compEnvC scope cl C X.env) fp) [] tYes)
    (hk : ∀ (s : Shared) (H : Hp) (C : Addr) (cl : List (Str × Addr)) (fp : List Addr), PE (X.blk s H scope (compEnvC scope cl C X.env) fp) kx (tVar j))
    (he : ∀ (s : Shared) (H : Hp) (C : Addr) (cl : List (Str × Addr)) (fp : List Addr), PE (X.blk s H scope (compEnvC scope cl C X.env) fp) vx (tDGet (tVar i) (tVar j))) (hs : ∀ x, foldedSetIterable iter X.env x = pure x := by intro _; rfl) :
    PS X (.Assign [.Name y py] (.DictComp kx vx [⟨tg, iter, [], 0⟩] scope pos) spos) (TSt X.K U (sSet n (eDCopy i j))) := by
  refine impS (ps_lock (ps_setDc hc hN hy hyl hsw (pi_keys hi) bo hg ht hk he hs)) fun D σ H h => ?_
  obtain ⟨c, s, m, hs, hm, hp⟩ := h
  obtain ⟨d, u, hd, mu, q⟩ := dcopy_imp (Q := fun v H' => D.nx (σ.set n (some v)) H') hij ⟨c, s, m, hs, hm, Post.st hs hp fun c1 H1 a m1 e1 hs1 hm1 hp1 v rv => hp1.ok hm1 _ (hs1.set rv)⟩
  refine ⟨d, u, hd, mu, fun od => ?_⟩
  rw [ho]
  exact q od
end
end Mir

namespace Mir
open PySem PySem.Spec PyProof.Rows L2

/-! ### enumerate(a tuple) -/
section
open AutoSeq1 (wpAny_loadPart')
theorem meets_enumerate_newT (l : Addr) (items : Array Value) (n : Nat) (dct : Option Addr) (sl : Array (Option Value)) :
    Meets (Builtin.«enumerate.__new__» ⟨[.type "enumerate", .ref l], []⟩) (fun _ R s => s.heap.get? l = some { cls := .type "tuple", dict := dct, data := .seq items n, slots := sl } ∧
      R (.ok (.ret (.ref (s.heap.push { cls := .type "tuple_iterator", data := .fields #[.ref l, .int 0 0] }).objs.size)))
        { s with heap := (s.heap.push { cls := .type "tuple_iterator", data := .fields #[.ref l, .int 0 0] }).push { cls := .type "enumerate", data := .fields #[.none, .bool false, .ref s.heap.objs.size, rawInt 0, .none, .none] } }) :=
  .of_wp fun prog w A R s h => by
    obtain ⟨hp, g, d, tk, os⟩ := s; obtain ⟨hl, h⟩ := h
    have hsub := sub_enumerate
    have hL : Heap.IsTuple (Shared.heap ⟨hp, g, d, tk, os⟩) l items := ⟨_, hl, rfl, n, rfl⟩
    wp_walk using wpAny_loadPart' hl
    refine wpAny_stack_any fun st => wpAny_pure ?_
    split
    · rename_i c _ _ _ _ _
      cases (c == Value.type "enumerate")
      · wp_walk using wpAny_loadPart' hl, wpAny_pyIter_tuple hL
        exact ⟨_, rfl, h⟩
      · wp_walk using wpAny_loadPart' hl, wpAny_pyIter_tuple hL
        exact ⟨_, rfl, h⟩
    · wp_walk using wpAny_loadPart' hl, wpAny_pyIter_tuple hL
      exact ⟨_, rfl, h⟩
end
section
variable {prog : Program} {w : World} {A : Around} {E : Value → Shared → Prop} {s : Shared}
theorem call_enumerate_tuple {l : Addr} {items : Array Value} {Q : Value → Shared → Prop} (hL : s.heap.IsTuple l items)
    (h : ∀ h', IsEnum h' (s.heap.objs.size + 1) s.heap.objs.size 0 .none → h'.IsTupleIter s.heap.objs.size l 0 → h'.objs.size = s.heap.objs.size + 2 →
      (∀ b o, s.heap.get? b = some o → h'.get? b = some o) → Q (.ref (s.heap.objs.size + 1)) { s with heap := h' }) :
    wpAny (model prog w) A (call (.type "enumerate") [.ref l]) Q E s := by
  obtain ⟨⟨c, dct, dt, sl⟩, hl, hc, n, hd⟩ := hL
  replace hc : c = .type "tuple" := hc
  replace hd : dt = .seq items n := hd
  subst hc hd
  refine callType_new F.called_enumerate (by decide) (F.typeCall_enumerate_1 _) (F.newCall_enumerate_1 _) (fun obj => F.args_object_init_2 obj _) F.entry_enumerate_new
    (meets_enumerate_newT l items n dct sl) ⟨hl, ?_⟩
  have hz : (s.heap.push { cls := .type "tuple_iterator", data := .fields #[.ref l, .int 0 0] }).objs.size = s.heap.objs.size + 1 := Heap.size_push ..
  show _ ∧ _
  rw [hz]
  have he : IsEnum ((s.heap.push { cls := .type "tuple_iterator", data := .fields #[.ref l, .int 0 0] }).push
      { cls := .type "enumerate", data := .fields #[.none, .bool false, .ref s.heap.objs.size, rawInt 0, .none, .none] }) (s.heap.objs.size + 1) s.heap.objs.size 0 .none := by
    have := Heap.get?_push_size (s.heap.push { cls := .type "tuple_iterator", data := .fields #[.ref l, .int 0 0] })
      (o := { cls := .type "enumerate", data := .fields #[.none, .bool false, .ref s.heap.objs.size, rawInt 0, .none, .none] }) rfl
    rw [hz] at this; exact this
  refine ⟨⟨_, he, rfl⟩, h _ he ⟨_, Heap.get?_push_of_some _ (Heap.get?_push_size _ rfl), rfl, rfl⟩ (by rw [Heap.size_push, hz]) fun b o x => Heap.get?_push_of_some _ (Heap.get?_push_of_some _ x)⟩
end
/-- the tuple at a as it stands at each turn, each item in a new pair -/
def IteT (K : PySem.W.Frag) (a : Addr) : It :=
  ⟨fun i H => ∃ (xs : List V) (x : V), SqT K H a xs ∧ xs[i]? = some x, fun i H v H' => ∃ T x, v = .ref T ∧ H T = none ∧ H' = upd H T (.tup [.int (i : Nat), x]) ∧ ∀ xs, SqT K H a xs → xs[i]? = some x, fun i H => ∃ xs : List V, SqT K H a xs ∧ xs.length ≤ i⟩
theorem turn_enumT {P : Program} {w : World} {K : PySem.W.Frag} {elts : List Expr} {kk : Nat} {tpos : Pos} (a e it : Addr) (hae : a ≠ e) (hai : a ≠ it) :
    Turn P w K (.Tuple elts kk tpos) (IteT K a) [e, it] e (fun i h => (∃ old, IsEnum h e it ((i : Nat) : Int) old) ∧ h.IsTupleIter it a i ∧ e ≠ it) where
  mem := by simp
  obj := fun i h st b hb => by
    obtain ⟨⟨old, he⟩, ⟨o, ho, hc, hd⟩, _⟩ := st
    have e' : b = e ∨ b = it := by simpa using hb
    rcases e' with z | z
    · rw [z]; exact ⟨_, he, fun v q => nomatch q⟩
    · rw [z]; exact ⟨o, ho, fun v q => by rw [hd] at q; cases q⟩
  keep := fun i h h' st k => let ⟨⟨old, he⟩, hi, hne⟩ := st; ⟨⟨old, k e (by simp) _ he⟩, hi.at fun o q => k it (by simp) o q, hne⟩
  item := by
    intro X hP hw hK hc i pins s σ H E I hf st hg
    subst hP hw hK
    obtain ⟨⟨old, he⟩, hit, hne⟩ := st
    obtain ⟨xs, x, hq, hx⟩ := hg
    obtain ⟨its, rv, p, hz⟩ := I.tuple hq
    obtain ⟨u, hu, ru⟩ := rv.get hx
    have hel : e < s.heap.objs.size := Heap.lt_size he
    have hil : it < s.heap.objs.size := by obtain ⟨_, q, _⟩ := hit; exact Heap.lt_size q
    have pt : s.heap.IsTuple a its.toArray := p
    have hlt : i < its.toArray.size := by
      have := (List.getElem?_eq_some_iff.mp hu).1
      simpa using this
    refine wpAny_pyNext_enum_itemD (Draws.tuple (A := X.A.in1) (I.ok.hd hc) it a hai its.toArray) he ⟨hit, pt⟩ hlt hne (by simp; exact ⟨hne, fun q => hae q.symm⟩) fun x' h' tk hx' ho st' hT hsz hk => ?_
    have : x' = u := by
      have e1 : its.toArray[i]? = some u := by simpa using hu
      rw [e1] at hx'
      exact (Option.some.inj hx').symm
    subst this
    obtain ⟨hit', _⟩ := st'
    refine ⟨_, rfl, wpAny_letOwnedTupleGo_enum (s := { s with heap := h', toks := tk + 1 }) ho fun h'' he' sb => ?_⟩
    have hT2 : h''.get? s.heap.objs.size = some { cls := .type "tuple", data := .seq #[.int i tk, x'] } := (sb.2 _ (Nat.ne_of_gt hel)).trans hT
    have new : ObjOk X.prog X.w (upd H s.heap.objs.size (.tup [.int (i : Nat), x])) h'' s.heap.objs.size (.tup [.int (i : Nat), x]) :=
      ⟨by show 2 ≤ sizeLine; decide, [.int i tk, x'], .cons ⟨_, rfl⟩ (.cons ru .nil), ⟨_, hT2, rfl, _, rfl⟩⟩
    have I1 : Inv X pins σ (upd H s.heap.objs.size (.tup [.int (i : Nat), x])) { s with heap := h'', toks := tk + 1 } :=
      I.turnedNew (ch := [e, it]) (fun b ob hb q => (sb.2 b (fun z => hb (by simp [z]))).trans (hk b ob (fun z => hb (by simp [z])) (fun z => hb (by simp [z])) q)) hf (Nat.le_refl _) new
    refine ⟨.ref s.heap.objs.size, _, I1, rfl, ⟨_, x, rfl, I.hok.fresh (Nat.le_refl _), rfl, fun ys hy => by rw [I.tuple_inj hy hq]; exact hx⟩, ⟨⟨x', ?_⟩, hit'.at fun o q => (sb.2 it (Ne.symm hne)).trans q, hne⟩, fun b hb => ?_⟩
    · have e1 : ((i + 1 : Nat) : Int) = (i : Int) + 1 := by omega
      rw [e1]; exact he'
    · have hb' : b < s.heap.objs.size := by
        have e' : b = e ∨ b = it := by simpa using hb
        rcases e' with z | z
        · rw [z]; exact hel
        · rw [z]; exact hil
      rw [upd_ne (Nat.ne_of_lt hb')]
      exact (hf b hb).1
  done := by
    intro X hP hw hK hc i pins s σ H E I hf st hg
    subst hP hw hK
    obtain ⟨⟨old, he⟩, hit, hne⟩ := st
    obtain ⟨xs, hq, hx⟩ := hg
    obtain ⟨its, rv, p, hz⟩ := I.tuple hq
    obtain ⟨f0, f1, f2, f3, f4, f5⟩ := hf it (by simp)
    have hl := rv.length
    have pt : s.heap.IsTuple a its.toArray := p
    have hT : s.TypeIs (.ref e) "enumerate" := ⟨_, he, rfl⟩
    unfold pyNext
    refine wpAny_bind (wpAny_attempt (wpAny_callSpecial?_slot (name := Str.ofString "__next__") hT F.slot_enumerate_next
      (wpAny_call_entry F.slot_enumerate_next hT F.entry_enumerate_next ?_ (F.args_enumerate_next_1 _))))
    show wpAny _ _ (field (.ref e) 2 >>= _) _ _ _
    refine wpAny_bind (wpAny_field he rfl (x := .ref it) rfl ?_)
    refine wpAny_bind (wpAny_nextOf_tuple_end (I.ok.hd hc) hit pt (by simp; omega) fun h' x he' hx' => ?_)
    obtain ⟨o, ho, hc'⟩ := hx'
    refine wpAny_bind (wpAny_isInstance (T := "StopIteration") (b := true) ⟨o, ho, hc'⟩ isSubtype_stop ?_)
    exact wpAny_pure ⟨rfl, I.turned (t' := s.toks) (fun b o hb q => he' b o hb q) f0 f1 f3 f4 f5⟩
  self := fun A i s Q E st h => let ⟨⟨_, he⟩, _⟩ := st; wpAny_pyIter_enum he h
def iEnumT (K : PySem.W.Frag) (ta : TA) : TI := fun σ H R => ta σ H fun vs H1 => ∃ a xs, vs = [.ref a] ∧ SqT K H1 a xs ∧ R (IteT K a) H1
theorem pi_enumT {X : Cx} {e : Expr} {ta : TA} {p pos tpos : Pos} {elts : List Expr} {kk : Nat} (hg : Gl X "enumerate") (hm : X.mg "enumerate" = none) (ha : PA X [e] ta) (hs : starEach [e] X.env = [(false, eval e X.env)] := by rfl) :
    PI X (.Tuple elts kk tpos) (.Call (.Name "enumerate" p) [e] [] pos) (iEnumT X.K ta) := by
  refine ⟨fun pins s σ H R I h => ?_⟩
  refine Call_ (ld_blt I hg hm boot_enumerate (PyProof.Rows.callWith_type1 (thn (ha.run pos pins s σ H _ I h) fun us s1 ⟨vs, H1, I1, r1, q1⟩ => ?_) hs rfl))
  obtain ⟨a, xs, ex, hq, q⟩ := q1
  subst ex
  cases r1 with
  | cons r rr =>
    cases rr
    cases r
    obtain ⟨its, rv, p', hz⟩ := I1.tuple hq
    obtain ⟨o1, ho1, _⟩ := id p'
    have hal := Heap.lt_size ho1
    refine call_enumerate_tuple (show s1.heap.IsTuple a its.toArray from p') fun h' he hit hsz hk => wpAny_pyIter_enum he ?_
    have I2 : Inv X pins σ H1 { s1 with heap := h' } := I1.kept (t' := s1.toks) hk
    refine ⟨s1.heap.objs.size + 1, [s1.heap.objs.size + 1, s1.heap.objs.size], _, _, H1, rfl, I2, turn_enumT a (s1.heap.objs.size + 1) s1.heap.objs.size (Nat.ne_of_lt (Nat.lt_succ_of_lt hal)) (Nat.ne_of_lt hal), ⟨⟨.none, he⟩, hit, Nat.succ_ne_self _⟩, fun b hb => ?_, q⟩
    have e' : b = s1.heap.objs.size + 1 ∨ b = s1.heap.objs.size := by simpa using hb
    have hle : s1.heap.objs.size ≤ b := by
      rcases e' with z | z
      · rw [z]; exact Nat.le_add_right _ _
      · rw [z]; exact Nat.le_refl _
    exact I1.fpOk hle (I1.hok.fresh hle)
def iEnT (f : EX W) : IX := fun s m => (f s m).bind fun w m1 => if isL w = false then (srcOf w m1).bind fun src m2 => .ok ⟨numbered 0 src.items, src.gs⟩ m2 else .stuck
theorem i_enumT {X : Cx} {U : WX} {a : Expr} {f : EX W} {p pos tpos : Pos} {elts : List Expr} {kk : Nat} (hr : X.mg "enumerate" = none) (ha : PE X a (T X.K U f)) (hg : Gl X "enumerate" := by rfl) (na : starEach [a] X.env = (false, eval a X.env) :: starEach [] X.env := by rfl) (hs : starEach [a] X.env = [(false, eval a X.env)] := by rfl) :
    PI X (.Tuple elts kk tpos) (.Call (.Name "enumerate" p) [a] [] pos) (TI' X.K U (iEnT f)) := by
  refine impI (pi_enumT hg hr (pa_cons ha pa_nil na) hs) ?_
  rintro σ H R ⟨c, s, m, hs, hm, hp⟩
  refine T.run hs hm hp fun c1 H1 w1 m1 v1 e1 hs1 hm1 r1 hp1 => ?_
  split at hp1
  · rename_i k
    cases e2 : srcOf w1 m1 with
    | stuck => rw [e2] at hp1; exact hp1.elim
    | exc x m' => exact absurd e2 srcOf_exc
    | ok src m2 =>
      rw [e2] at hp1
      simp only [bind_ok] at hp1
      obtain ⟨rfl, a, rfl, ⟨xs, q1⟩, q2⟩ := srcOf_okT hm1 r1 e2 k
      refine ⟨a, xs, rfl, q1, hp1.ok hm1 _ ?_⟩
      intro c' H' m' e hm' g i
      have q := q2 c' H' m' e hm' g
      refine ⟨fun hi => (q i).1 (by simpa [numbered_length] using hi), fun w hw => ?_⟩
      obtain ⟨x, h1, rfl⟩ := numbered_get _ _ _ _ hw
      obtain ⟨g1, g2⟩ := (q i).2 x h1
      refine ⟨g1, fun v H'' y => ?_⟩
      obtain ⟨T, x', rfl, hT, rfl, hy⟩ := y
      obtain ⟨_, rx⟩ := g2 x' H' ⟨rfl, hy⟩
      exact ⟨.inr ⟨T, _, hT, rfl⟩, new_pair hm' hT (.p (by simpa using Rp.int _)) rx⟩
  · exact hp1.elim
end Mir

namespace Mir
open PySem PySem.Spec PyProof.Rows L2

/-! ### zip(a list, a tuple) -/
def ItzM (K : PySem.W.Frag) (a b : Addr) : It where
  go := fun i H => ∃ (xs ys : List V) (x y : V), SqL K H a xs ∧ SqT K H b ys ∧ xs[i]? = some x ∧ ys[i]? = some y
  yld := fun i H v H' => ∃ T x y, v = .ref T ∧ H T = none ∧ H' = upd H T (.tup [x, y]) ∧ (∀ xs, SqL K H a xs → xs[i]? = some x) ∧ ∀ ys, SqT K H b ys → ys[i]? = some y
  stop := fun i H => ∃ xs ys : List V, SqL K H a xs ∧ SqT K H b ys ∧ i ≤ xs.length ∧ i ≤ ys.length ∧ (i = xs.length ∨ i = ys.length)
/-- what stands of the zip at n + 4 ahead of its turn i -/
def ZSt (n a b : Addr) (i : Nat) (h : Heap) : Prop := IsZip h (n + 4) (n + 2) (n + 3) .none ∧ IsTupOf2 h (n + 2) (.ref n) (.ref (n + 1)) ∧ (∃ x y, IsTupOf2 h (n + 3) x y) ∧ h.IsListIter n a i ∧ h.IsTupleIter (n + 1) b i
def zfp (n : Addr) : List Addr := [n + 4, n + 2, n + 3, n, n + 1]
theorem zsep {n a b : Nat} (ha : a < n) (hb : b < n) : ZipSep2 (n + 4) (n + 2) (n + 3) n (n + 1) [n, a] [n + 1, b] := by
  have nm : ∀ x y z : Nat, x ≠ y → x ≠ z → x ∉ [y, z] := fun x y z h1 h2 hm => by
    rcases List.mem_cons.mp hm with e | hm
    · exact h1 e
    · exact h2 (List.mem_singleton.mp hm)
  have ne : ∀ x y : Nat, n + x = n + y → x = y := fun x y h => Nat.add_left_cancel h
  refine ⟨?_, ?_, ?_, ?_, List.mem_cons_self, nm _ _ _ ?_ ?_, nm _ _ _ ?_ ?_, ?_, List.mem_cons_self, nm _ _ _ ?_ ?_, nm _ _ _ ?_ ?_, nm _ _ _ ?_ ?_, nm _ _ _ ?_ ?_⟩
  all_goals first
    | exact Nat.ne_of_gt (by omega)
    | exact Nat.ne_of_lt (by omega)
theorem turn_zipM {P : Program} {w : World} {K : PySem.W.Frag} {elts : List Expr} {kk : Nat} {tpos : Pos} {n a b : Nat} (ha : a < n) (hb : b < n) :
    Turn P w K (.Tuple elts kk tpos) (ItzM K a b) (zfp n) (n + 4) (ZSt n a b) where
  mem := by simp [zfp]
  obj := by
    rintro i h ⟨q1, q2, ⟨x, y, q3⟩, ⟨p1, k1, _, r1⟩, p2, k2, _, r2⟩ c hc
    simp only [zfp, List.mem_cons, List.not_mem_nil, or_false] at hc
    rcases hc with rfl | rfl | rfl | rfl | rfl
    · exact ⟨_, q1, fun _ q => nomatch q⟩
    · exact ⟨_, q2, fun _ q => nomatch q⟩
    · exact ⟨_, q3, fun _ q => nomatch q⟩
    · exact ⟨p1, k1, fun _ q => by rw [r1] at q; cases q⟩
    · exact ⟨p2, k2, fun _ q => by rw [r2] at q; cases q⟩
  keep := by
    rintro i h h' ⟨q1, q2, ⟨x, y, q3⟩, q4, q5⟩ k
    have m1 : n + 4 ∈ zfp n := by simp [zfp]
    have m2 : n + 2 ∈ zfp n := by simp [zfp]
    have m3 : n + 3 ∈ zfp n := by simp [zfp]
    have m4 : n ∈ zfp n := by simp [zfp]
    have m5 : n + 1 ∈ zfp n := by simp [zfp]
    exact ⟨k _ m1 _ q1, k _ m2 _ q2, ⟨x, y, k _ m3 _ q3⟩, q4.at fun o q => k _ m4 o q, q5.at fun o q => k _ m5 o q⟩
  item := by
    intro X hP hw hK hc i pins s σ H E I hf st hg
    subst hP hw hK
    obtain ⟨q1, q2, ⟨x0, y0, q3⟩, q4, q5⟩ := st
    obtain ⟨xs, ys, x, y, sx, sy, ex, ey⟩ := hg
    obtain ⟨its, rv, p1, _⟩ := I.list sx
    obtain ⟨jts, rw', p2, _⟩ := I.tuple sy
    obtain ⟨u, hu, ru⟩ := rv.get ex
    obtain ⟨v, hv, rv'⟩ := rw'.get ey
    have S := zsep (n := n) ha hb
    have D1 := Draws.list (prog := X.prog) (w := X.w) (A := X.A.in1) (I.ok.hd hc) n a (Nat.ne_of_lt ha) its.toArray
    have D2 := Draws.tuple (prog := X.prog) (w := X.w) (A := X.A.in1) (I.ok.hd hc) (n + 1) b (Nat.ne_of_lt (Nat.lt_succ_of_lt hb)) jts.toArray
    have t2 : s.heap.IsTuple b jts.toArray := p2
    have l1 : i < its.toArray.size := by have := (List.getElem?_eq_some_iff.mp hu).1; simpa using this
    have l2 : i < jts.toArray.size := by have := (List.getElem?_eq_some_iff.mp hv).1; simpa using this
    have zl : n + 4 < s.heap.objs.size := Heap.lt_size q1
    refine wpAny_pyNext_zipD2_item S D1 D2 q1 q2 q3 ⟨q4, p1.isList⟩ ⟨q5, t2⟩ l1 l2 fun z1 z2 h1 tk g1 g2 a1 a2 a3 a4 a5 a6 a7 => ?_
    have e1 : z1 = u := by
      have : its.toArray[i]? = some u := by simpa using hu
      rw [this] at g1
      exact (Option.some.inj g1).symm
    have e2 : z2 = v := by
      have : jts.toArray[i]? = some v := by simpa using hv
      rw [this] at g2
      exact (Option.some.inj g2).symm
    subst e1 e2
    refine ⟨_, rfl, wpAny_letOwnedTupleGo_zip (s := { s with heap := h1, toks := tk }) a1 fun h2 b1 sb => ?_⟩
    have T2 : h2.get? s.heap.objs.size = some { cls := .type "tuple", data := .seq #[z1, z2] } := (sb.2 _ (Nat.ne_of_gt zl)).trans a5
    have new : ObjOk X.prog X.w (upd H s.heap.objs.size (.tup [x, y])) h2 s.heap.objs.size (.tup [x, y]) := ⟨(by show 2 ≤ sizeLine; decide), [z1, z2], .cons ru (.cons rv' .nil), ⟨_, T2, rfl, _, rfl⟩⟩
    have far : ∀ c o, c ∉ zfp n → s.heap.get? c = some o → h2.get? c = some o := fun c o hc q => by
      simp only [zfp, List.mem_cons, List.not_mem_nil, or_false, not_or] at hc
      exact (sb.2 c hc.1).trans (a7 c o hc.1 hc.2.2.1 hc.2.2.2.1 hc.2.2.2.2 q)
    have I1 : Inv X pins σ (upd H s.heap.objs.size (.tup [x, y])) { s with heap := h2, toks := tk } := I.turnedNew (ch := zfp n) (fun c o hb q => far c o hb q) hf (Nat.le_refl _) new
    have d1 : n + 2 ≠ n + 4 := by omega
    have d2 : n + 3 ≠ n + 4 := by omega
    have d3 : n ≠ n + 4 := by omega
    have d4 : n + 1 ≠ n + 4 := by omega
    refine ⟨.ref s.heap.objs.size, _, I1, rfl, ⟨_, x, y, rfl, I.hok.fresh (Nat.le_refl _), rfl, fun l hl => by rw [I.list_inj hl sx]; exact ex, fun l hl => by rw [I.tuple_inj hl sy]; exact ey⟩, ⟨b1, ?_, ⟨z1, z2, (sb.2 _ d2).trans a2⟩, a3.1.at fun o q => (sb.2 _ d3).trans q, a4.1.at fun o q => (sb.2 _ d4).trans q⟩, fun c hcm => ?_⟩
    · exact (sb.2 _ d1).trans (a7 _ _ d1 (Nat.ne_of_lt (Nat.lt_succ_self (n + 2))) (Nat.ne_of_gt (Nat.lt_add_of_pos_right (by decide))) (Nat.ne_of_gt (Nat.lt_succ_self (n + 1))) q2)
    · have hlt : c < s.heap.objs.size := by
        simp only [zfp, List.mem_cons, List.not_mem_nil, or_false] at hcm
        have l4 : n + 4 < s.heap.objs.size := zl
        have l3 : n + 3 < s.heap.objs.size := Nat.lt_of_succ_lt l4
        have l2 : n + 2 < s.heap.objs.size := Nat.lt_of_succ_lt l3
        have l1 : n + 1 < s.heap.objs.size := Nat.lt_of_succ_lt l2
        rcases hcm with rfl | rfl | rfl | rfl | rfl
        · exact l4
        · exact l2
        · exact l3
        · exact Nat.lt_of_succ_lt l1
        · exact l1
      rw [upd_ne (Nat.ne_of_lt hlt)]
      exact (hf c hcm).1
  done := by
    intro X hP hw hK hc i pins s σ H E I hf st hg
    subst hP hw hK
    obtain ⟨q1, q2, ⟨x0, y0, q3⟩, q4, q5⟩ := st
    obtain ⟨xs, ys, sx, sy, h1, h2, h3⟩ := hg
    obtain ⟨its, rv, p1, _⟩ := I.list sx
    obtain ⟨jts, rw', p2, _⟩ := I.tuple sy
    have e1 := rv.length
    have e2 := rw'.length
    have S := zsep (n := n) ha hb
    have D1 := Draws.list (prog := X.prog) (w := X.w) (A := X.A.in1) (I.ok.hd hc) n a (Nat.ne_of_lt ha) its.toArray
    have D2 := Draws.tuple (prog := X.prog) (w := X.w) (A := X.A.in1) (I.ok.hd hc) (n + 1) b (Nat.ne_of_lt (Nat.lt_succ_of_lt hb)) jts.toArray
    have t2 : s.heap.IsTuple b jts.toArray := p2
    refine wpAny_pyNext_zipD2_end S D1 D2 q1 q2 q3 ⟨q4, p1.isList⟩ ⟨q5, t2⟩ (by simp; omega) (by simp; omega) (by simp; omega) fun h1 tk hk => ⟨rfl, I.turnedL (t' := tk) (ch := zfp n) (fun c o hb q => ?_) hf⟩
    simp only [zfp, List.mem_cons, List.not_mem_nil, or_false, not_or] at hb
    exact hk c o hb.1 hb.2.2.1 hb.2.2.2.1 hb.2.2.2.2 q
  self := fun A i s Q E st h => wpAny_pyIter_zip st.1 h
def iZipM (K : PySem.W.Frag) (ta : TA) : TI := fun σ H R => ta σ H fun vs H1 => ∃ a b xs ys, vs = [.ref a, .ref b] ∧ SqL K H1 a xs ∧ SqT K H1 b ys ∧ R (ItzM K a b) H1
theorem pi_zipM {X : Cx} {e e2 : Expr} {ta : TA} {p pos tpos : Pos} {elts : List Expr} {kk : Nat} (hg : Gl X "zip") (hm : X.mg "zip" = none) (ha : PA X [e, e2] ta)
    (hs : starEach [e, e2] X.env = (false, eval e X.env) :: starEach [e2] X.env := by rfl) (hpl : (backTo pos (starEach [e2] X.env)).any (·.1) = false := by rfl) :
    PI X (.Tuple elts kk tpos) (.Call (.Name "zip" p) [e, e2] [] pos) (iZipM X.K ta) := by
  refine ⟨fun pins s σ H R I h => ?_⟩
  refine Call_ (ld_blt I hg hm PyProof.Rows.boot_zip (PyProof.Rows.callWith_type1 (thn (ha.run pos pins s σ H _ I h) fun us s1 ⟨vs, H1, I1, r1, q1⟩ => ?_) hs hpl))
  obtain ⟨a, b, xs, ys, rfl, sx, sy, q⟩ := q1
  cases r1 with | cons r rr =>
  cases rr with | cons r' rr =>
  cases rr
  cases r
  cases r'
  obtain ⟨its, rv, p1, _⟩ := I1.list sx
  obtain ⟨jts, rv2, p2, _⟩ := I1.tuple sy
  obtain ⟨o2, ho2, _⟩ := id p2
  have hal : a < s1.heap.objs.size := p1.lt
  have hbl : b < s1.heap.objs.size := Heap.lt_size ho2
  refine zip_begins2 (begins_list a its.toArray) (begins_tuple b jts.toArray) p1.isList (show s1.heap.IsTuple b jts.toArray from p2) fun h' z1 z2 z3 z4 z5 hsz hk => wpAny_pyIter_zip z1 ?_
  have I2 : Inv X pins σ H1 { s1 with heap := h' } := I1.kept (t' := s1.toks) hk
  refine ⟨s1.heap.objs.size + 4, zfp s1.heap.objs.size, _, _, H1, rfl, I2, turn_zipM hal hbl, ⟨z1, z2, ⟨_, _, z3⟩, ⟨_, z4, rfl, rfl⟩, ⟨_, z5, rfl, rfl⟩⟩, fun c hcm => ?_, q⟩
  have hle : s1.heap.objs.size ≤ c := by
    simp only [zfp, List.mem_cons, List.not_mem_nil, or_false] at hcm
    rcases hcm with rfl | rfl | rfl | rfl | rfl <;> omega
  exact I1.fpOk hle (I1.hok.fresh hle)
def zipRM (w w' : W) (m : Hm) : Res Src := if (isL w && !isL w') = true then (srcOf w m).bind fun a m1 => (srcOf w' m1).bind fun b m2 => .ok ⟨zipped a.items b.items, a.gs ++ b.gs⟩ m2 else .stuck
def iZpM (f g : EX W) : IX := fun s m => (f s m).bind fun w m1 => (g s m1).bind fun w' m2 => zipRM w w' m2
section
variable {K : PySem.W.Frag} {c : Cfg} {H : Hp} {m : Hm}
theorem srcOf_hL {v : V} {w : W} {src : Src} {m' : Hm} (hm : HRel K c m H) (r : RpW K c H v w) (e : srcOf w m = .ok src m') (k : isL w = true) : m' = m ∧ ∃ a, v = .ref a ∧ ∀ c' H' m', Ext c H c' H' → HRel K c' m' H' → gOk m' src.gs = true → ∃ xs, SqL K H' a xs ∧ RpWs K c' H' xs src.items := by
  cases r with
  | p r =>
    cases r with
    | lst h n n2 z r =>
      cases e
      exact ⟨rfl, _, rfl, fun c' H' m' e hm g => ⟨_, SqL.of (e.keep _ _ h n n2), (r.mono e).toWs⟩⟩
    | _ => cases k
  | ro => cases e
  | @loc a n h =>
    simp only [srcOf] at e
    cases q : m[n]? with
    | none => rw [q] at e; cases e
    | some x =>
      rw [q] at e
      cases x with
      | lst ws =>
        cases e
        obtain ⟨xs, hx, z, rr⟩ := hm.lst h q
        refine ⟨rfl, _, rfl, fun c' H' m' e hm' g => ?_⟩
        obtain ⟨xs', hx', _, rr'⟩ := hm'.lst (e.at h) (gOk_get g).1
        exact ⟨xs', SqL.of hx', rr'⟩
      | _ => cases e
  | tw h z r => cases k
  | kt => cases k
theorem srcOf_hT {v : V} {w : W} {src : Src} {m' : Hm} (hm : HRel K c m H) (r : RpW K c H v w) (e : srcOf w m = .ok src m') (k : isL w = false) : m' = m ∧ ∃ a, v = .ref a ∧ ∀ c' H' m', Ext c H c' H' → HRel K c' m' H' → gOk m' src.gs = true → ∃ xs, SqT K H' a xs ∧ RpWs K c' H' xs src.items := by
  cases r with
  | p r =>
    cases r with
    | lst => cases k
    | tup h z r =>
      cases e
      exact ⟨rfl, _, rfl, fun c' H' m' e hm g => ⟨_, (h.sub e.sub).sq, (r.mono e).toWs⟩⟩
    | _ => cases e
  | ro => cases e
  | loc => cases k
  | tw h z r =>
    cases e
    exact ⟨rfl, _, rfl, fun c' H' m' e hm g => ⟨_, (h.sub e.sub).sq, r.mono e⟩⟩
  | kt => cases e
end
theorem i_zipM {X : Cx} {U : WX} {a b : Expr} {f g : EX W} {p pos tpos : Pos} {elts : List Expr} {kk : Nat} (hr : X.mg "zip" = none) (ha : PE X a (T X.K U f)) (hb : PE X b (T X.K U g)) (hg : Gl X "zip" := by rfl) (na : starEach [a, b] X.env = (false, eval a X.env) :: starEach [b] X.env := by rfl) (nb : starEach [b] X.env = (false, eval b X.env) :: starEach [] X.env := by rfl)
    (hpl : (backTo pos (starEach [b] X.env)).any (·.1) = false := by rfl) : PI X (.Tuple elts kk tpos) (.Call (.Name "zip" p) [a, b] [] pos) (TI' X.K U (iZpM f g)) := by
  refine impI (pi_zipM hg hr (pa_cons ha (pa_cons hb pa_nil nb) na) na hpl) ?_
  rintro σ H R ⟨c, s, m, hs, hm, hp⟩
  refine T.run hs hm hp fun c1 H1 w1 m1 v1 e1 hs1 hm1 r1 hp1 => T.run hs1 hm1 hp1 fun c2 H2 w2 m2 v2 e2 hs2 hm2 r2 hp2 => ?_
  have r1' := r1.mono e2
  unfold zipRM at hp2
  split at hp2
  · rename_i kk
    rw [Bool.and_eq_true, Bool.not_eq_true'] at kk
    cases q1 : srcOf w1 m2 with
    | stuck => rw [q1] at hp2; exact hp2.elim
    | exc x m' => exact absurd q1 srcOf_exc
    | ok A m3 =>
      rw [q1] at hp2
      simp only [bind_ok] at hp2
      cases q2 : srcOf w2 m3 with
      | stuck => rw [q2] at hp2; exact hp2.elim
      | exc x m' => exact absurd q2 srcOf_exc
      | ok B m4 =>
        rw [q2] at hp2
        simp only [bind_ok] at hp2
        have g0 := hp2
        obtain ⟨rfl, a, rfl, a2⟩ := srcOf_hL hm2 r1' q1 kk.1
        obtain ⟨rfl, b, rfl, b2⟩ := srcOf_hT hm2 r2 q2 kk.2
        obtain ⟨_, a', ea, ⟨xs, a1⟩, _⟩ := srcOf_okL hm2 r1' q1 kk.1
        cases ea
        obtain ⟨_, b', eb, ⟨ys, b1⟩, _⟩ := srcOf_okT hm2 r2 q2 kk.2
        cases eb
        refine ⟨a, b, xs, ys, rfl, a1, b1, hp2.ok hm2 _ ?_⟩
        intro c' H' m' e hm' g i
        obtain ⟨g1, g2⟩ := gOk_app g
        obtain ⟨xs', x1, x2⟩ := a2 c' H' m' e hm' g1
        obtain ⟨ys', y1, y2⟩ := b2 c' H' m' e hm' g2
        have lx := x2.length
        have ly := y2.length
        refine ⟨fun hi => ⟨xs', ys', x1, y1, ?_⟩, fun w hw => ?_⟩
        · rw [zipped_length] at hi
          omega
        · obtain ⟨x, y, h1, h2, rfl⟩ := zipped_get _ _ _ _ hw
          obtain ⟨u, hu, ru⟩ := x2.get h1
          obtain ⟨v, hv, rv⟩ := y2.get h2
          refine ⟨⟨xs', ys', u, v, x1, y1, hu, hv⟩, fun v' H'' yy => ?_⟩
          obtain ⟨T, x3, y3, rfl, hT, rfl, hx, hy⟩ := yy
          have k1 := hx xs' x1
          have k2 := hy ys' y1
          rw [hu] at k1
          rw [hv] at k2
          cases k1
          cases k2
          exact ⟨.inr ⟨T, _, hT, rfl⟩, new_pair hm' hT ru rv⟩
  · exact hp2.elim
end Mir

namespace Mir.K60
open PySem PySem.Spec PyProof.Rows L2
def top (i : Nat) : Stmt := PySem.Challenge.pw_tabletalk_k60_whole_evidence_of_verdicts.main.body.getD i (.Pass ⟨0, 0, 0, 0⟩)
abbrev FnP (K : PySem.W.Frag) (x : Str) (st : Stmt) (f : Addr) (fd : FuncData) : Prop := FunD K x x (defArgs st) (defBody st) (defScope st) [] [] f fd
structure Globs (mg : Str → Option Value) : Prop where
  n_abs : mg "abs" = none
  n_all : mg "all" = none
  n_any : mg "any" = none
  n_bool : mg "bool" = none
  n_enumerate : mg "enumerate" = none
  n_int : mg "int" = none
  n_isinstance : mg "isinstance" = none
  n_len : mg "len" = none
  n_list : mg "list" = none
  n_range : mg "range" = none
  n_sorted : mg "sorted" = none
  n_str : mg "str" = none
  n_sum : mg "sum" = none
  n_tuple : mg "tuple" = none
  n_zip : mg "zip" = none
  g_MOST_COST : ∃ t, mg "MOST_COST" = some (.int 100 t)
  g_MOST_NODES : ∃ t, mg "MOST_NODES" = some (.int 5 t)
  g_MOST_VARIABLE : ∃ t, mg "MOST_VARIABLE" = some (.int 5 t)
  g_WIDEST_SCOPE : ∃ t, mg "WIDEST_SCOPE" = some (.int 3 t)
section
variable {P : Program} {w : World} {K : PySem.W.Frag} {mg : Str → Option Value} {base : Heap} {f : Addr} {fd : FuncData}
theorem sc_is_whole : FnScope ["value", "low", "high"] ["value", "low", "high"] (defScope (top 7)) := ⟨rfl, rfl, rfl, by decide +kernel, rfl, by decide +kernel, by decide +kernel⟩
def m_is_whole : SX := (sRet (eAnd (eOp1 (isiM "int") (eVar 0)) (eAnd (eNot (eOp1 (isiM "bool") (eVar 0))) (eChain leM leM (eVar 1) (eVar 0) (eVar 2)))))
def F_is_whole : FF := mkFn true 3 3 m_is_whole
theorem ok_is_whole (G : Globs mg) (F : FnP K "is_whole" (top 7) f fd) (hm : mg "is_whole" = some (.ref f))  : OkD P w K mg base 1 "is_whole" F_is_whole ["value", "low", "high"] := by
  refine OkD.mk F hm (FunD.bindsN F fun _ _ _ _ _ _ us hl => match us, hl with | [_, _, _], _ => rfl) sc_is_whole rfl rfl fun cd A outer s H E hr => ?_
  have tk := takes_cx (P := P) (w := w) (K := K) (mg := mg) (base := base) (N := ["value", "low", "high"]) (qual := "is_whole") (scope := defScope (top 7)) (f := f) (cd := cd) (A := A) (outer := outer) (s := s) (H := H) (E := E)
  exact (ss_one (s_ret (x_and (x_isi (by decide) G.n_isinstance G.n_int rfl (x_var 0)) (x_and (x_not (x_isi (by decide) G.n_isinstance G.n_bool rfl (x_var 0))) (x_one (x_chain op_le leM_ok intM_quiet op_le leM_ok (x_var 1) (x_var 0) (x_var 2)))))))
def C1_is_climbing : EX W := eLc lcFin (iRg1 (eOp2 subM (eCB lenM (aCons (eVar 0) aNil)) (eC (.int 1)))) (.n 1) bYes (eOp2 ltM (eOp2 idxM (eVar 0) (eVar 1)) (eOp2 idxM (eVar 0) (eOp2 addM (eVar 1) (eC (.int 1))))) [1]
theorem sc_is_climbing : FnScope ["value", "at"] ["value"] (defScope (top 8)) := ⟨rfl, rfl, rfl, by decide +kernel, rfl, by decide +kernel, by decide +kernel⟩
def m_is_climbing : SX := (sRet (eCB (allM true) (aCons C1_is_climbing aNil)))
def F_is_climbing : FF := mkFn true 1 2 m_is_climbing
theorem ok_is_climbing (G : Globs mg) (F : FnP K "is_climbing" (top 8) f fd) (hm : mg "is_climbing" = some (.ref f))  : OkD P w K mg base 1 "is_climbing" F_is_climbing ["value"] := by
  refine OkD.mk F hm (FunD.bindsN F fun _ _ _ _ _ _ us hl => match us, hl with | [_], _ => rfl) sc_is_climbing rfl rfl fun cd A outer s H E hr => ?_
  have tk := takes_cx (P := P) (w := w) (K := K) (mg := mg) (base := base) (N := ["value", "at"]) (qual := "is_climbing") (scope := defScope (top 8)) (f := f) (cd := cd) (A := A) (outer := outer) (s := s) (H := H) (E := E)
  exact (ss_one (s_ret (x_callB (cr_all rfl) allM_ok G.n_all rfl (a_cons (x_lc (own := [("at", 1)]) lcFin_ok rfl rfl sc_is_climbing.nd (i_rg1 G.n_range (x_op op_sub subM_ok (x_callB call_len lenM_ok G.n_len rfl (a_cons (x_var 0) a_nil)) x_int)) (blkOk_by (by kernel_rfl)) (fun _ _ _ _ _ => (g_name sc_is_climbing.nd rfl (by first | exact Or.inl rfl | exact Or.inr rfl))) (fun _ _ _ _ _ => ts_nil) (fun _ _ _ _ _ => (x_cmp (op_ltAll hr.units0) ltM_ok (x_ix (x_var 0) (x_var 1)) (x_ix (x_var 0) (x_op op_addAll addM_ok (x_var 1) x_int))))) a_nil))))
def C1_are_variables : EX W := eLc lcFin (iSeq (eVar 0)) (.n 1) bYes (eCall 3 F_is_whole (aCons (eVar 1) (aCons (eC (.int 0)) (aCons (eC (.int 5)) aNil)))) [1]
theorem sc_are_variables : FnScope ["value", "one"] ["value"] (defScope (top 9)) := ⟨rfl, rfl, rfl, by decide +kernel, rfl, by decide +kernel, by decide +kernel⟩
def m_are_variables : SX := (sSeq (sIf (bOr (bNot (bTru (eOp1 (isiM "tuple") (eVar 0)))) (bNot (bTru (eCB (allM true) (aCons C1_are_variables aNil))))) (sRet (eC (.bool false))) sSkip)
  (sRet (eCall 1 F_is_climbing (aCons (eVar 0) aNil))))
def F_are_variables : FF := mkFn true 1 2 m_are_variables
theorem ok_are_variables (G : Globs mg) (F : FnP K "are_variables" (top 9) f fd) (hm : mg "are_variables" = some (.ref f)) (o_is_whole : OkD P w K mg base 1 "is_whole" F_is_whole ["value", "low", "high"]) (o_is_climbing : OkD P w K mg base 1 "is_climbing" F_is_climbing ["value"]) : OkD P w K mg base 2 "are_variables" F_are_variables ["value"] := by
  refine OkD.mk F hm (FunD.bindsN F fun _ _ _ _ _ _ us hl => match us, hl with | [_], _ => rfl) sc_are_variables rfl rfl fun cd A outer s H E hr => ?_
  have tk := takes_cx (P := P) (w := w) (K := K) (mg := mg) (base := base) (N := ["value", "one"]) (qual := "are_variables") (scope := defScope (top 9)) (f := f) (cd := cd) (A := A) (outer := outer) (s := s) (H := H) (E := E)
  exact (ss_cons (s_if (PW.pt (b_or (b_not (b_tru (x_isi (by decide) G.n_isinstance G.n_tuple rfl (x_var 0)))) (b_or1 (b_not (b_tru (x_callB (cr_all rfl) allM_ok G.n_all rfl (a_cons (x_lc (own := [("one", 1)]) lcFin_ok rfl rfl sc_are_variables.nd (i_seq (x_var 0)) (blkOk_by (by kernel_rfl)) (fun _ _ _ _ _ => (g_name sc_are_variables.nd rfl (by first | exact Or.inl rfl | exact Or.inr rfl))) (fun _ _ _ _ _ => ts_nil) (fun _ _ _ _ _ => (x_call o_is_whole (hr.mono (by omega)) takes0 (a_cons (x_var 1) (a_cons x_int (a_cons (x_gint G.g_MOST_VARIABLE) a_nil)))))) a_nil))))))) (ss_one (s_ret x_bl)) ss_nil)
  (ss_one (s_ret (x_call o_is_climbing (hr.mono (by omega)) tk (a_cons (x_var 0) a_nil)))))
theorem sc_is_scope : FnScope ["value"] ["value"] (defScope (top 10)) := ⟨rfl, rfl, rfl, by decide +kernel, rfl, by decide +kernel, by decide +kernel⟩
def m_is_scope : SX := (sRet (eAnd (eCall 1 F_are_variables (aCons (eVar 0) aNil)) (eOp2 leM (eCB lenM (aCons (eVar 0) aNil)) (eC (.int 3)))))
def F_is_scope : FF := mkFn true 1 1 m_is_scope
theorem ok_is_scope (G : Globs mg) (F : FnP K "is_scope" (top 10) f fd) (hm : mg "is_scope" = some (.ref f)) (o_are_variables : OkD P w K mg base 2 "are_variables" F_are_variables ["value"]) : OkD P w K mg base 3 "is_scope" F_is_scope ["value"] := by
  refine OkD.mk F hm (FunD.bindsN F fun _ _ _ _ _ _ us hl => match us, hl with | [_], _ => rfl) sc_is_scope rfl rfl fun cd A outer s H E hr => ?_
  have tk := takes_cx (P := P) (w := w) (K := K) (mg := mg) (base := base) (N := ["value"]) (qual := "is_scope") (scope := defScope (top 10)) (f := f) (cd := cd) (A := A) (outer := outer) (s := s) (H := H) (E := E)
  exact (ss_one (s_ret (x_and (x_call o_are_variables (hr.mono (by omega)) tk (a_cons (x_var 0) a_nil)) (x_one (x_cmp op_le leM_ok (x_callB call_len lenM_ok G.n_len rfl (a_cons (x_var 0) a_nil)) (x_gint G.g_WIDEST_SCOPE))))))
def C1_is_row : EX W := eLc lcFin (iSeq (eVar 2)) (.n 3) bYes (eCall 3 F_is_whole (aCons (eVar 3) (aCons (eC (.int 0)) (aCons (eOp2 subM (eVar 0) (eC (.int 1))) aNil)))) [3]
theorem sc_is_row : FnScope ["values", "some", "value", "one"] ["values", "some", "value"] (defScope (top 11)) := ⟨rfl, rfl, rfl, by decide +kernel, rfl, by decide +kernel, by decide +kernel⟩
def m_is_row : SX := (sSeq (sIf (bOr (bNot (bTru (eOp1 (isiM "tuple") (eVar 2)))) (bVal (eOp2 (eqM true) (eCB lenM (aCons (eVar 2) aNil)) (eCB lenM (aCons (eVar 1) aNil))))) (sRet (eC (.bool false))) sSkip)
  (sRet (eCB (allM true) (aCons C1_is_row aNil))))
def F_is_row : FF := mkFn true 3 4 m_is_row
theorem ok_is_row (G : Globs mg) (F : FnP K "is_row" (top 11) f fd) (hm : mg "is_row" = some (.ref f)) (o_is_whole : OkD P w K mg base 1 "is_whole" F_is_whole ["value", "low", "high"]) : OkD P w K mg base 2 "is_row" F_is_row ["values", "some", "value"] := by
  refine OkD.mk F hm (FunD.bindsN F fun _ _ _ _ _ _ us hl => match us, hl with | [_, _, _], _ => rfl) sc_is_row rfl rfl fun cd A outer s H E hr => ?_
  have tk := takes_cx (P := P) (w := w) (K := K) (mg := mg) (base := base) (N := ["values", "some", "value", "one"]) (qual := "is_row") (scope := defScope (top 11)) (f := f) (cd := cd) (A := A) (outer := outer) (s := s) (H := H) (E := E)
  exact (ss_cons (s_if (PW.pt (b_or (b_not (b_tru (x_isi (by decide) G.n_isinstance G.n_tuple rfl (x_var 2)))) (b_or1 (b_cmp (op_neD hr.units) neM_ok (x_callB call_len lenM_ok G.n_len rfl (a_cons (x_var 2) a_nil)) (x_callB call_len lenM_ok G.n_len rfl (a_cons (x_var 1) a_nil)))))) (ss_one (s_ret x_bl)) ss_nil)
  (ss_one (s_ret (x_callB (cr_all rfl) allM_ok G.n_all rfl (a_cons (x_lc (own := [("one", 3)]) lcFin_ok rfl rfl sc_is_row.nd (i_seq (x_var 2)) (blkOk_by (by kernel_rfl)) (fun _ _ _ _ _ => (g_name sc_is_row.nd rfl (by first | exact Or.inl rfl | exact Or.inr rfl))) (fun _ _ _ _ _ => ts_nil) (fun _ _ _ _ _ => (x_call o_is_whole (hr.mono (by omega)) takes0 (a_cons (x_var 3) (a_cons x_int (a_cons (x_op op_sub subM_ok (x_var 0) x_int) a_nil)))))) a_nil)))))
def L1_is_table : SX := sTidy [] (sSeq (sIf (bOr (bNot (bTru (eOp1 (isiM "tuple") (eVar 3)))) (bOr (bVal (eOp2 (eqM true) (eCB lenM (aCons (eVar 3) aNil)) (eC (.int 2)))) (bNot (bTru (eCall 3 F_is_row (aCons (eVar 0) (aCons (eVar 1) (aCons (eOp2 idxM (eVar 3) (eC (.int 0))) aNil)))))))) (sRet (eC (.bool false))) sSkip)
  (sIf (bNot (bTru (eCall 3 F_is_whole (aCons (eOp2 idxM (eVar 3) (eC (.int 1))) (aCons (eC (.int 0)) (aCons (eC (.int 100)) aNil)))))) (sRet (eC (.bool false))) sSkip))
def C1_is_table : EX W := eLc lcFin (iSeq (eVar 2)) (.n 3) bYes (eOp2 idxM (eVar 3) (eC (.int 0))) [3]
theorem sc_is_table : FnScope ["values", "scope", "value", "pair"] ["values", "scope", "value"] (defScope (top 12)) := ⟨rfl, rfl, rfl, by decide +kernel, rfl, by decide +kernel, by decide +kernel⟩
def m_is_table : SX := (sSeq (sIf (bNot (bTru (eOp1 (isiM "tuple") (eVar 2)))) (sRet (eC (.bool false))) sSkip)
  (sSeq (sFor (iSeq (eVar 2)) (.n 3) L1_is_table)
  (sRet (eCall 1 F_is_climbing (aCons C1_is_table aNil)))))
def F_is_table : FF := mkFn true 3 4 m_is_table
theorem ok_is_table (G : Globs mg) (F : FnP K "is_table" (top 12) f fd) (hm : mg "is_table" = some (.ref f)) (o_is_row : OkD P w K mg base 2 "is_row" F_is_row ["values", "some", "value"]) (o_is_whole : OkD P w K mg base 1 "is_whole" F_is_whole ["value", "low", "high"]) (o_is_climbing : OkD P w K mg base 1 "is_climbing" F_is_climbing ["value"]) : OkD P w K mg base 3 "is_table" F_is_table ["values", "scope", "value"] := by
  refine OkD.mk F hm (FunD.bindsN F fun _ _ _ _ _ _ us hl => match us, hl with | [_, _, _], _ => rfl) sc_is_table rfl rfl fun cd A outer s H E hr => ?_
  have tk := takes_cx (P := P) (w := w) (K := K) (mg := mg) (base := base) (N := ["values", "scope", "value", "pair"]) (qual := "is_table") (scope := defScope (top 12)) (f := f) (cd := cd) (A := A) (outer := outer) (s := s) (H := H) (E := E)
  exact (ss_cons (s_if (b_not (b_tru (x_isi (by decide) G.n_isinstance G.n_tuple rfl (x_var 2)))) (ss_one (s_ret x_bl)) ss_nil)
  (ss_cons (s_for owns_cx rfl (i_seq (x_var 2)) (g_name sc_is_table.nd rfl (by first | exact Or.inl rfl | exact Or.inr rfl)) (ss_tidy [] (ss_cons (s_if (PW.pt (b_or (b_not (b_tru (x_isi (by decide) G.n_isinstance G.n_tuple rfl (x_var 3)))) (b_or (b_cmp (op_neD hr.units) neM_ok (x_callB call_len lenM_ok G.n_len rfl (a_cons (x_var 3) a_nil)) x_int) (b_or1 (b_not (b_tru (x_call o_is_row (hr.mono (by omega)) tk (a_cons (x_var 0) (a_cons (x_var 1) (a_cons (x_ix (x_var 3) x_int) a_nil)))))))))) (ss_one (s_ret x_bl)) ss_nil)
  (ss_one (s_if (b_not (b_tru (x_call o_is_whole (hr.mono (by omega)) tk (a_cons (x_ix (x_var 3) x_int) (a_cons x_int (a_cons (x_gint G.g_MOST_COST) a_nil)))))) (ss_one (s_ret x_bl)) ss_nil)))))
  (ss_one (s_ret (x_call o_is_climbing (hr.mono (by omega)) tk (a_cons (x_lc (own := [("pair", 3)]) lcFin_ok rfl rfl sc_is_table.nd (i_seq (x_var 2)) (blkOk_by (by kernel_rfl)) (fun _ _ _ _ _ => (g_name sc_is_table.nd rfl (by first | exact Or.inl rfl | exact Or.inr rfl))) (fun _ _ _ _ _ => ts_nil) (fun _ _ _ _ _ => (x_ix (x_var 3) x_int))) a_nil))))))
def L1_rows_of : SX := sTidy [3, 4, 5] (sSet 2 (eFrz (eLc2 (iSeq (eVar 2)) (.n 4) bYes (iRg1 (eVar 0)) (.n 5) bYes (eOp2 addM (eVar 4) (eTup (aCons (eVar 5) aNil))) [4, 5] [5])))
theorem sc_rows_of : FnScope ["values", "many", "rows", "turn", "row", "one"] ["values", "many"] (defScope (top 13)) := ⟨rfl, rfl, rfl, by decide +kernel, rfl, by decide +kernel, by decide +kernel⟩
def m_rows_of : SX := (sSeq (sSet 2 (eLst (aCons (eTup aNil) aNil)))
  (sSeq (sFor (iRg1 (eVar 1)) (.n 3) L1_rows_of)
  (sRet (eVar 2))))
def F_rows_of : FF := mkFn true 2 6 m_rows_of
theorem ok_rows_of (G : Globs mg) (F : FnP K "rows_of" (top 13) f fd) (hm : mg "rows_of" = some (.ref f))  : OkD P w K mg base 1 "rows_of" F_rows_of ["values", "many"] := by
  refine OkD.mk F hm (FunD.bindsN F fun _ _ _ _ _ _ us hl => match us, hl with | [_, _], _ => rfl) sc_rows_of rfl rfl fun cd A outer s H E hr => ?_
  have tk := takes_cx (P := P) (w := w) (K := K) (mg := mg) (base := base) (N := ["values", "many", "rows", "turn", "row", "one"]) (qual := "rows_of") (scope := defScope (top 13)) (f := f) (cd := cd) (A := A) (outer := outer) (s := s) (H := H) (E := E)
  exact (ss_cons (s_set sc_rows_of.nd rfl (by first | exact Or.inl rfl | exact Or.inr rfl) (x_lst (a_cons (x_tup a_nil) a_nil)))
  (ss_cons (s_for owns_cx rfl (i_rg1 G.n_range (x_var 1)) (g_name sc_rows_of.nd rfl (by first | exact Or.inl rfl | exact Or.inr rfl)) (ss_tidy [3, 4, 5] (ss_one (s_setLc2 (own := [("row", 4), ("one", 5)]) (vs1 := [5]) rfl rfl rfl sc_rows_of.nd rfl rfl (sw_true rfl rfl rfl (by decide +kernel)) (i_seq (x_var 2)) (blkOk_by (by kernel_rfl)) (by decide) (fun _ _ _ _ _ => (g_name sc_rows_of.nd rfl (by first | exact Or.inl rfl | exact Or.inr rfl))) (fun _ _ _ _ _ => ts_nil) (fun _ _ _ _ _ => (i_rg1 G.n_range (x_var 0))) (fun _ _ _ _ _ => (g_name sc_rows_of.nd rfl (by first | exact Or.inl rfl | exact Or.inr rfl))) (fun _ _ _ _ _ => ts_nil) (fun _ _ _ _ _ => (x_op op_addAll addM_ok (x_var 4) (x_tup (a_cons (x_var 5) a_nil))))))))
  (ss_one (s_ret (x_var 2)))))
def C1_cut_to : EX W := eLc lcFin (iZp (eVar 1) (eVar 0)) (.t [(.n 3), (.n 4)]) (bVal (eOp2 (inM false) (eVar 3) (eVar 2))) (eVar 4) [3, 4]
theorem sc_cut_to : FnScope ["row", "some", "kept", "variable", "one"] ["row", "some", "kept"] (defScope (top 14)) := ⟨rfl, rfl, rfl, by decide +kernel, rfl, by decide +kernel, by decide +kernel⟩
def m_cut_to : SX := (sRet (eCB tupleM (aCons C1_cut_to aNil)))
def F_cut_to : FF := mkFn true 3 5 m_cut_to
theorem ok_cut_to (G : Globs mg) (F : FnP K "cut_to" (top 14) f fd) (hm : mg "cut_to" = some (.ref f))  : OkD P w K mg base 1 "cut_to" F_cut_to ["row", "some", "kept"] := by
  refine OkD.mk F hm (FunD.bindsN F fun _ _ _ _ _ _ us hl => match us, hl with | [_, _, _], _ => rfl) sc_cut_to rfl rfl fun cd A outer s H E hr => ?_
  have tk := takes_cx (P := P) (w := w) (K := K) (mg := mg) (base := base) (N := ["row", "some", "kept", "variable", "one"]) (qual := "cut_to") (scope := defScope (top 14)) (f := f) (cd := cd) (A := A) (outer := outer) (s := s) (H := H) (E := E)
  exact (ss_one (s_ret (x_callTy call_tuple_of tupleM_ok G.n_tuple rfl (a_cons (x_lc (own := [("variable", 3), ("one", 4)]) lcFin_ok rfl rfl sc_cut_to.nd (i_zip G.n_zip (x_var 1) (x_var 0)) (blkOk_by (by kernel_rfl)) (fun _ _ _ _ _ => (g_tup rfl (g_cons (g_name sc_cut_to.nd rfl (by first | exact Or.inl rfl | exact Or.inr rfl)) (g_cons (g_name sc_cut_to.nd rfl (by first | exact Or.inl rfl | exact Or.inr rfl)) g_nil)))) (fun _ _ _ _ _ => (ts_one (b_cmp (op_inAll (u65 hr)) inM_ok (x_var 3) (x_var 2)))) (fun _ _ _ _ _ => (x_var 4))) a_nil))))
theorem sc_is_number : FnScope ["value", "low", "high"] ["value", "low", "high"] (defScope (top 17)) := ⟨rfl, rfl, rfl, by decide +kernel, rfl, by decide +kernel, by decide +kernel⟩
def m_is_number : SX := (sRet (eAnd (eOp1 (isiM "int") (eVar 0)) (eAnd (eNot (eOp1 (isiM "bool") (eVar 0))) (eChain leM leM (eVar 1) (eVar 0) (eVar 2)))))
def F_is_number : FF := mkFn true 3 3 m_is_number
theorem ok_is_number (G : Globs mg) (F : FnP K "is_number" (top 17) f fd) (hm : mg "is_number" = some (.ref f))  : OkD P w K mg base 1 "is_number" F_is_number ["value", "low", "high"] := by
  refine OkD.mk F hm (FunD.bindsN F fun _ _ _ _ _ _ us hl => match us, hl with | [_, _, _], _ => rfl) sc_is_number rfl rfl fun cd A outer s H E hr => ?_
  have tk := takes_cx (P := P) (w := w) (K := K) (mg := mg) (base := base) (N := ["value", "low", "high"]) (qual := "is_number") (scope := defScope (top 17)) (f := f) (cd := cd) (A := A) (outer := outer) (s := s) (H := H) (E := E)
  exact (ss_one (s_ret (x_and (x_isi (by decide) G.n_isinstance G.n_int rfl (x_var 0)) (x_and (x_not (x_isi (by decide) G.n_isinstance G.n_bool rfl (x_var 0))) (x_one (x_chain op_le leM_ok intM_quiet op_le leM_ok (x_var 1) (x_var 0) (x_var 2)))))))
def C1_is_edge : EX W := eLc lcFin (iSeq (eVar 0)) (.n 2) bYes (eCall 3 F_is_number (aCons (eVar 2) (aCons (eC (.int 0)) (aCons (eOp2 subM (eVar 1) (eC (.int 1))) aNil)))) [2]
theorem sc_is_edge : FnScope ["value", "many", "one"] ["value", "many"] (defScope (top 18)) := ⟨rfl, rfl, rfl, by decide +kernel, rfl, by decide +kernel, by decide +kernel⟩
def m_is_edge : SX := (sSeq (sIf (bOr (bNot (bTru (eOp1 (isiM "tuple") (eVar 0)))) (bOr (bVal (eOp2 (eqM true) (eCB lenM (aCons (eVar 0) aNil)) (eC (.int 2)))) (bNot (bTru (eCB (allM true) (aCons C1_is_edge aNil)))))) (sRet (eC (.bool false))) sSkip)
  (sRet (eOp2 ltM (eOp2 idxM (eVar 0) (eC (.int 0))) (eOp2 idxM (eVar 0) (eC (.int 1))))))
def F_is_edge : FF := mkFn true 2 3 m_is_edge
theorem ok_is_edge (G : Globs mg) (F : FnP K "is_edge" (top 18) f fd) (hm : mg "is_edge" = some (.ref f)) (o_is_number : OkD P w K mg base 1 "is_number" F_is_number ["value", "low", "high"]) : OkD P w K mg base 2 "is_edge" F_is_edge ["value", "many"] := by
  refine OkD.mk F hm (FunD.bindsN F fun _ _ _ _ _ _ us hl => match us, hl with | [_, _], _ => rfl) sc_is_edge rfl rfl fun cd A outer s H E hr => ?_
  have tk := takes_cx (P := P) (w := w) (K := K) (mg := mg) (base := base) (N := ["value", "many", "one"]) (qual := "is_edge") (scope := defScope (top 18)) (f := f) (cd := cd) (A := A) (outer := outer) (s := s) (H := H) (E := E)
  exact (ss_cons (s_if (PW.pt (b_or (b_not (b_tru (x_isi (by decide) G.n_isinstance G.n_tuple rfl (x_var 0)))) (b_or (b_cmp (op_neD hr.units) neM_ok (x_callB call_len lenM_ok G.n_len rfl (a_cons (x_var 0) a_nil)) x_int) (b_or1 (b_not (b_tru (x_callB (cr_all rfl) allM_ok G.n_all rfl (a_cons (x_lc (own := [("one", 2)]) lcFin_ok rfl rfl sc_is_edge.nd (i_seq (x_var 0)) (blkOk_by (by kernel_rfl)) (fun _ _ _ _ _ => (g_name sc_is_edge.nd rfl (by first | exact Or.inl rfl | exact Or.inr rfl))) (fun _ _ _ _ _ => ts_nil) (fun _ _ _ _ _ => (x_call o_is_number (hr.mono (by omega)) takes0 (a_cons (x_var 2) (a_cons x_int (a_cons (x_op op_sub subM_ok (x_var 1) x_int) a_nil)))))) a_nil)))))))) (ss_one (s_ret x_bl)) ss_nil)
  (ss_one (s_ret (x_cmp (op_ltAll hr.units0) ltM_ok (x_ix (x_var 0) x_int) (x_ix (x_var 0) x_int)))))
def C1_is_graph : EX W := eLc lcFin (iSeq (eVar 2)) (.n 4) bYes (eCall 1 F_is_scope (aCons (eVar 4) aNil)) [4]
def C2_is_graph : EX W := eLc lcFin (iSeq (eVar 3)) (.n 5) bYes (eCall 2 F_is_edge (aCons (eVar 5) (aCons (eCB lenM (aCons (eVar 2) aNil)) aNil))) [5]
def C3_is_graph : EX W := eLc lcFin (iRg1 (eOp2 subM (eCB lenM (aCons (eVar 3) aNil)) (eC (.int 1)))) (.n 6) bYes (eOp2 ltM (eOp2 idxM (eVar 3) (eVar 6)) (eOp2 idxM (eVar 3) (eOp2 addM (eVar 6) (eC (.int 1))))) [6]
theorem sc_is_graph : FnScope ["value", "values", "scopes", "edges", "one", "edge", "at"] ["value"] (defScope (top 19)) := ⟨rfl, rfl, rfl, by decide +kernel, rfl, by decide +kernel, by decide +kernel⟩
def m_is_graph : SX := (sSeq (sIf (bOr (bNot (bTru (eOp1 (isiM "tuple") (eVar 0)))) (bOr (bVal (eOp2 (eqM true) (eCB lenM (aCons (eVar 0) aNil)) (eC (.int 3)))) (bNot (bTru (eCall 3 F_is_number (aCons (eOp2 idxM (eVar 0) (eC (.int 0))) (aCons (eC (.int 2)) (aCons (eC (.int 3)) aNil)))))))) (sRet (eC (.bool false))) sSkip)
  (sSeq (sPut (.t [(.n 1), (.n 2), (.n 3)]) (eVar 0))
  (sSeq (sIf (bOr (bNot (bTru (eOp1 (isiM "tuple") (eVar 2)))) (bNot (bVal (eChain leM leM (eC (.int 1)) (eCB lenM (aCons (eVar 2) aNil)) (eC (.int 5)))))) (sRet (eC (.bool false))) sSkip)
  (sSeq (sIf (bNot (bTru (eCB (allM true) (aCons C1_is_graph aNil)))) (sRet (eC (.bool false))) sSkip)
  (sSeq (sIf (bOr (bNot (bTru (eOp1 (isiM "tuple") (eVar 3)))) (bNot (bTru (eCB (allM true) (aCons C2_is_graph aNil))))) (sRet (eC (.bool false))) sSkip)
  (sRet (eCB (allM true) (aCons C3_is_graph aNil))))))))
def F_is_graph : FF := mkFn true 1 7 m_is_graph
theorem ok_is_graph (G : Globs mg) (F : FnP K "is_graph" (top 19) f fd) (hm : mg "is_graph" = some (.ref f)) (o_is_number : OkD P w K mg base 1 "is_number" F_is_number ["value", "low", "high"]) (o_is_scope : OkD P w K mg base 3 "is_scope" F_is_scope ["value"]) (o_is_edge : OkD P w K mg base 2 "is_edge" F_is_edge ["value", "many"]) : OkD P w K mg base 4 "is_graph" F_is_graph ["value"] := by
  refine OkD.mk F hm (FunD.bindsN F fun _ _ _ _ _ _ us hl => match us, hl with | [_], _ => rfl) sc_is_graph rfl rfl fun cd A outer s H E hr => ?_
  have tk := takes_cx (P := P) (w := w) (K := K) (mg := mg) (base := base) (N := ["value", "values", "scopes", "edges", "one", "edge", "at"]) (qual := "is_graph") (scope := defScope (top 19)) (f := f) (cd := cd) (A := A) (outer := outer) (s := s) (H := H) (E := E)
  exact (ss_cons (s_if (PW.pt (b_or (b_not (b_tru (x_isi (by decide) G.n_isinstance G.n_tuple rfl (x_var 0)))) (b_or (b_cmp (op_neD hr.units) neM_ok (x_callB call_len lenM_ok G.n_len rfl (a_cons (x_var 0) a_nil)) x_int) (b_or1 (b_not (b_tru (x_call o_is_number (hr.mono (by omega)) tk (a_cons (x_ix (x_var 0) x_int) (a_cons x_int (a_cons x_int a_nil)))))))))) (ss_one (s_ret x_bl)) ss_nil)
  (ss_cons (s_put (x_var 0) (g_tup rfl (g_cons (g_name sc_is_graph.nd rfl (by first | exact Or.inl rfl | exact Or.inr rfl)) (g_cons (g_name sc_is_graph.nd rfl (by first | exact Or.inl rfl | exact Or.inr rfl)) (g_cons (g_name sc_is_graph.nd rfl (by first | exact Or.inl rfl | exact Or.inr rfl)) g_nil)))))
  (ss_cons (s_if (PW.pt (b_or (b_not (b_tru (x_isi (by decide) G.n_isinstance G.n_tuple rfl (x_var 2)))) (b_or1 (b_not (b_chain op_le leM_ok intM_quiet op_le leM_ok x_int (x_callB call_len lenM_ok G.n_len rfl (a_cons (x_var 2) a_nil)) (x_gint G.g_MOST_NODES)))))) (ss_one (s_ret x_bl)) ss_nil)
  (ss_cons (s_if (b_not (b_tru (x_callB (cr_all rfl) allM_ok G.n_all rfl (a_cons (x_lc (own := [("one", 4)]) lcFin_ok rfl rfl sc_is_graph.nd (i_seq (x_var 2)) (blkOk_by (by kernel_rfl)) (fun _ _ _ _ _ => (g_name sc_is_graph.nd rfl (by first | exact Or.inl rfl | exact Or.inr rfl))) (fun _ _ _ _ _ => ts_nil) (fun _ _ _ _ _ => (x_call o_is_scope (hr.mono (by omega)) takes0 (a_cons (x_var 4) a_nil)))) a_nil)))) (ss_one (s_ret x_bl)) ss_nil)
  (ss_cons (s_if (PW.pt (b_or (b_not (b_tru (x_isi (by decide) G.n_isinstance G.n_tuple rfl (x_var 3)))) (b_or1 (b_not (b_tru (x_callB (cr_all rfl) allM_ok G.n_all rfl (a_cons (x_lc (own := [("edge", 5)]) lcFin_ok rfl rfl sc_is_graph.nd (i_seq (x_var 3)) (blkOk_by (by kernel_rfl)) (fun _ _ _ _ _ => (g_name sc_is_graph.nd rfl (by first | exact Or.inl rfl | exact Or.inr rfl))) (fun _ _ _ _ _ => ts_nil) (fun _ _ _ _ _ => (x_call o_is_edge (hr.mono (by omega)) takes0 (a_cons (x_var 5) (a_cons (x_callB call_len lenM_ok G.n_len rfl (a_cons (x_var 2) a_nil)) a_nil))))) a_nil))))))) (ss_one (s_ret x_bl)) ss_nil)
  (ss_one (s_ret (x_callB (cr_all rfl) allM_ok G.n_all rfl (a_cons (x_lc (own := [("at", 6)]) lcFin_ok rfl rfl sc_is_graph.nd (i_rg1 G.n_range (x_op op_sub subM_ok (x_callB call_len lenM_ok G.n_len rfl (a_cons (x_var 3) a_nil)) x_int)) (blkOk_by (by kernel_rfl)) (fun _ _ _ _ _ => (g_name sc_is_graph.nd rfl (by first | exact Or.inl rfl | exact Or.inr rfl))) (fun _ _ _ _ _ => ts_nil) (fun _ _ _ _ _ => (x_cmp (op_ltAll hr.units0) ltM_ok (x_ix (x_var 3) (x_var 6)) (x_ix (x_var 3) (x_op op_addAll addM_ok (x_var 6) x_int))))) a_nil)))))))))
def C1_are_tables : EX W := eLc lcFin (iZp (eOp2 idxM (eVar 0) (eC (.int 1))) (eVar 1)) (.t [(.n 2), (.n 3)]) bYes (eCall 3 F_is_table (aCons (eOp2 idxM (eVar 0) (eC (.int 0))) (aCons (eVar 2) (aCons (eVar 3) aNil)))) [2, 3]
theorem sc_are_tables : FnScope ["graph", "value", "scope", "table"] ["graph", "value"] (defScope (top 20)) := ⟨rfl, rfl, rfl, by decide +kernel, rfl, by decide +kernel, by decide +kernel⟩
def m_are_tables : SX := (sSeq (sIf (bOr (bNot (bTru (eOp1 (isiM "tuple") (eVar 1)))) (bVal (eOp2 (eqM true) (eCB lenM (aCons (eVar 1) aNil)) (eCB lenM (aCons (eOp2 idxM (eVar 0) (eC (.int 1))) aNil))))) (sRet (eC (.bool false))) sSkip)
  (sRet (eCB (allM true) (aCons C1_are_tables aNil))))
def F_are_tables : FF := mkFn true 2 4 m_are_tables
theorem ok_are_tables (G : Globs mg) (F : FnP K "are_tables" (top 20) f fd) (hm : mg "are_tables" = some (.ref f)) (o_is_table : OkD P w K mg base 3 "is_table" F_is_table ["values", "scope", "value"]) : OkD P w K mg base 4 "are_tables" F_are_tables ["graph", "value"] := by
  refine OkD.mk F hm (FunD.bindsN F fun _ _ _ _ _ _ us hl => match us, hl with | [_, _], _ => rfl) sc_are_tables rfl rfl fun cd A outer s H E hr => ?_
  have tk := takes_cx (P := P) (w := w) (K := K) (mg := mg) (base := base) (N := ["graph", "value", "scope", "table"]) (qual := "are_tables") (scope := defScope (top 20)) (f := f) (cd := cd) (A := A) (outer := outer) (s := s) (H := H) (E := E)
  exact (ss_cons (s_if (PW.pt (b_or (b_not (b_tru (x_isi (by decide) G.n_isinstance G.n_tuple rfl (x_var 1)))) (b_or1 (b_cmp (op_neD hr.units) neM_ok (x_callB call_len lenM_ok G.n_len rfl (a_cons (x_var 1) a_nil)) (x_callB call_len lenM_ok G.n_len rfl (a_cons (x_ix (x_var 0) x_int) a_nil)))))) (ss_one (s_ret x_bl)) ss_nil)
  (ss_one (s_ret (x_callB (cr_all rfl) allM_ok G.n_all rfl (a_cons (x_lc (own := [("scope", 2), ("table", 3)]) lcFin_ok rfl rfl sc_are_tables.nd (i_zip G.n_zip (x_ix (x_var 0) x_int) (x_var 1)) (blkOk_by (by kernel_rfl)) (fun _ _ _ _ _ => (g_tup rfl (g_cons (g_name sc_are_tables.nd rfl (by first | exact Or.inl rfl | exact Or.inr rfl)) (g_cons (g_name sc_are_tables.nd rfl (by first | exact Or.inl rfl | exact Or.inr rfl)) g_nil)))) (fun _ _ _ _ _ => ts_nil) (fun _ _ _ _ _ => (x_call o_is_table (hr.mono (by omega)) takes0 (a_cons (x_ix (x_var 0) x_int) (a_cons (x_var 2) (a_cons (x_var 3) a_nil)))))) a_nil)))))
def L1_scope_of : SX := sTidy [4] (sSetKy (eVar 2) (eVar 4) (eC (.bool true)))
def L2_scope_of : SX := sTidy [3, 4] (sFor (iSeq (eOp2 idxM (eOp2 idxM (eVar 0) (eC (.int 1))) (eVar 3))) (.n 4) L1_scope_of)
theorem sc_scope_of : FnScope ["graph", "nodes", "found", "node", "variable"] ["graph", "nodes"] (defScope (top 22)) := ⟨rfl, rfl, rfl, by decide +kernel, rfl, by decide +kernel, by decide +kernel⟩
def m_scope_of : SX := (sSeq (sSet 2 eDict)
  (sSeq (sFor (iSeq (eVar 1)) (.n 3) L2_scope_of)
  (sRet (eCB tupleK (aCons (eCB sortedKM (aCons (eVar 2) aNil)) aNil)))))
def F_scope_of : FF := mkFn true 2 5 m_scope_of
theorem ok_scope_of (G : Globs mg) (F : FnP K "scope_of" (top 22) f fd) (hm : mg "scope_of" = some (.ref f))  : OkD P w K mg base 1 "scope_of" F_scope_of ["graph", "nodes"] := by
  refine OkD.mk F hm (FunD.bindsN F fun _ _ _ _ _ _ us hl => match us, hl with | [_, _], _ => rfl) sc_scope_of rfl rfl fun cd A outer s H E hr => ?_
  have tk := takes_cx (P := P) (w := w) (K := K) (mg := mg) (base := base) (N := ["graph", "nodes", "found", "node", "variable"]) (qual := "scope_of") (scope := defScope (top 22)) (f := f) (cd := cd) (A := A) (outer := outer) (s := s) (H := H) (E := E)
  exact (ss_cons (s_set sc_scope_of.nd rfl (by first | exact Or.inl rfl | exact Or.inr rfl) x_dict)
  (ss_cons (s_for owns_cx rfl (i_seq (x_var 1)) (g_name sc_scope_of.nd rfl (by first | exact Or.inl rfl | exact Or.inr rfl)) (ss_tidy [3, 4] (ss_one (s_for owns_cx rfl (i_seq (x_ix (x_ix (x_var 0) x_int) (x_var 3))) (g_name sc_scope_of.nd rfl (by first | exact Or.inl rfl | exact Or.inr rfl)) (ss_tidy [4] (ss_one (s_setKy (u1 hr) x_bl (x_var 2) (x_var 4))))))))
  (ss_one (s_ret (x_callTy call_tupK tupleK_ok G.n_tuple rfl (a_cons (x_callB (call_sortedDI rfl) sortedKM_ok G.n_sorted rfl (a_cons (x_var 2) a_nil)) a_nil))))))
theorem sc_variables_of : FnScope ["graph"] ["graph"] (defScope (top 21)) := ⟨rfl, rfl, rfl, by decide +kernel, rfl, by decide +kernel, by decide +kernel⟩
def m_variables_of : SX := (sRet (eCall 2 F_scope_of (aCons (eVar 0) (aCons (eRg1 .l (eCB lenM (aCons (eOp2 idxM (eVar 0) (eC (.int 1))) aNil))) aNil))))
def F_variables_of : FF := mkFn true 1 1 m_variables_of
theorem ok_variables_of (G : Globs mg) (F : FnP K "variables_of" (top 21) f fd) (hm : mg "variables_of" = some (.ref f)) (o_scope_of : OkD P w K mg base 1 "scope_of" F_scope_of ["graph", "nodes"]) : OkD P w K mg base 2 "variables_of" F_variables_of ["graph"] := by
  refine OkD.mk F hm (FunD.bindsN F fun _ _ _ _ _ _ us hl => match us, hl with | [_], _ => rfl) sc_variables_of rfl rfl fun cd A outer s H E hr => ?_
  have tk := takes_cx (P := P) (w := w) (K := K) (mg := mg) (base := base) (N := ["graph"]) (qual := "variables_of") (scope := defScope (top 21)) (f := f) (cd := cd) (A := A) (outer := outer) (s := s) (H := H) (E := E)
  exact (ss_one (s_ret (x_call o_scope_of (hr.mono (by omega)) tk (a_cons (x_var 0) (a_cons (x_listRg1 rfl G.n_list G.n_range (x_callB call_len lenM_ok G.n_len rfl (a_cons (x_ix (x_var 0) x_int) a_nil))) a_nil)))))
theorem sc_check_graph : FnScope ["graph"] ["graph"] (defScope (top 23)) := ⟨rfl, rfl, rfl, by decide +kernel, rfl, by decide +kernel, by decide +kernel⟩
def m_check_graph : SX := (sIf (bNot (bTru (eCall 1 F_is_graph (aCons (eVar 0) aNil)))) sNever sSkip)
def F_check_graph : FF := mkFn true 1 1 m_check_graph
theorem ok_check_graph (G : Globs mg) (F : FnP K "check_graph" (top 23) f fd) (hm : mg "check_graph" = some (.ref f)) (o_is_graph : OkD P w K mg base 4 "is_graph" F_is_graph ["value"]) : OkD P w K mg base 5 "check_graph" F_check_graph ["graph"] := by
  refine OkD.mk F hm (FunD.bindsN F fun _ _ _ _ _ _ us hl => match us, hl with | [_], _ => rfl) sc_check_graph rfl rfl fun cd A outer s H E hr => ?_
  have tk := takes_cx (P := P) (w := w) (K := K) (mg := mg) (base := base) (N := ["graph"]) (qual := "check_graph") (scope := defScope (top 23)) (f := f) (cd := cd) (A := A) (outer := outer) (s := s) (H := H) (E := E)
  exact (ss_one (s_if (b_not (b_tru (x_call o_is_graph (hr.mono (by omega)) tk (a_cons (x_var 0) a_nil)))) (ss_one s_never) ss_nil))
theorem sc_check_tables : FnScope ["graph", "tables"] ["graph", "tables"] (defScope (top 24)) := ⟨rfl, rfl, rfl, by decide +kernel, rfl, by decide +kernel, by decide +kernel⟩
def m_check_tables : SX := (sSeq (sExpr (eCall 1 F_check_graph (aCons (eVar 0) aNil)))
  (sIf (bNot (bTru (eCall 2 F_are_tables (aCons (eVar 0) (aCons (eVar 1) aNil))))) sNever sSkip))
def F_check_tables : FF := mkFn true 2 2 m_check_tables
theorem ok_check_tables (G : Globs mg) (F : FnP K "check_tables" (top 24) f fd) (hm : mg "check_tables" = some (.ref f)) (o_check_graph : OkD P w K mg base 5 "check_graph" F_check_graph ["graph"]) (o_are_tables : OkD P w K mg base 4 "are_tables" F_are_tables ["graph", "value"]) : OkD P w K mg base 6 "check_tables" F_check_tables ["graph", "tables"] := by
  refine OkD.mk F hm (FunD.bindsN F fun _ _ _ _ _ _ us hl => match us, hl with | [_, _], _ => rfl) sc_check_tables rfl rfl fun cd A outer s H E hr => ?_
  have tk := takes_cx (P := P) (w := w) (K := K) (mg := mg) (base := base) (N := ["graph", "tables"]) (qual := "check_tables") (scope := defScope (top 24)) (f := f) (cd := cd) (A := A) (outer := outer) (s := s) (H := H) (E := E)
  exact (ss_cons (s_expr (x_call o_check_graph (hr.mono (by omega)) tk (a_cons (x_var 0) a_nil)))
  (ss_one (s_if (b_not (b_tru (x_call o_are_tables (hr.mono (by omega)) tk (a_cons (x_var 0) (a_cons (x_var 1) a_nil))))) (ss_one s_never) ss_nil)))
def C1_is_row_of : EX W := eLc lcFin (iSeq (eVar 1)) (.n 3) bYes (eCall 3 F_is_number (aCons (eVar 3) (aCons (eC (.int 0)) (aCons (eOp2 subM (eVar 0) (eC (.int 1))) aNil)))) [3]
theorem sc_is_row_of : FnScope ["values", "value", "many", "one"] ["values", "value", "many"] (defScope (top 25)) := ⟨rfl, rfl, rfl, by decide +kernel, rfl, by decide +kernel, by decide +kernel⟩
def m_is_row_of : SX := (sSeq (sIf (bOr (bNot (bTru (eOp1 (isiM "tuple") (eVar 1)))) (bVal (eOp2 (eqM true) (eCB lenM (aCons (eVar 1) aNil)) (eVar 2)))) (sRet (eC (.bool false))) sSkip)
  (sRet (eCB (allM true) (aCons C1_is_row_of aNil))))
def F_is_row_of : FF := mkFn true 3 4 m_is_row_of
theorem ok_is_row_of (G : Globs mg) (F : FnP K "is_row_of" (top 25) f fd) (hm : mg "is_row_of" = some (.ref f)) (o_is_number : OkD P w K mg base 1 "is_number" F_is_number ["value", "low", "high"]) : OkD P w K mg base 2 "is_row_of" F_is_row_of ["values", "value", "many"] := by
  refine OkD.mk F hm (FunD.bindsN F fun _ _ _ _ _ _ us hl => match us, hl with | [_, _, _], _ => rfl) sc_is_row_of rfl rfl fun cd A outer s H E hr => ?_
  have tk := takes_cx (P := P) (w := w) (K := K) (mg := mg) (base := base) (N := ["values", "value", "many", "one"]) (qual := "is_row_of") (scope := defScope (top 25)) (f := f) (cd := cd) (A := A) (outer := outer) (s := s) (H := H) (E := E)
  exact (ss_cons (s_if (PW.pt (b_or (b_not (b_tru (x_isi (by decide) G.n_isinstance G.n_tuple rfl (x_var 1)))) (b_or1 (b_cmp (op_neD hr.units) neM_ok (x_callB call_len lenM_ok G.n_len rfl (a_cons (x_var 1) a_nil)) (x_var 2))))) (ss_one (s_ret x_bl)) ss_nil)
  (ss_one (s_ret (x_callB (cr_all rfl) allM_ok G.n_all rfl (a_cons (x_lc (own := [("one", 3)]) lcFin_ok rfl rfl sc_is_row_of.nd (i_seq (x_var 1)) (blkOk_by (by kernel_rfl)) (fun _ _ _ _ _ => (g_name sc_is_row_of.nd rfl (by first | exact Or.inl rfl | exact Or.inr rfl))) (fun _ _ _ _ _ => ts_nil) (fun _ _ _ _ _ => (x_call o_is_number (hr.mono (by omega)) takes0 (a_cons (x_var 3) (a_cons x_int (a_cons (x_op op_sub subM_ok (x_var 0) x_int) a_nil)))))) a_nil)))))
def C1_first_rejecting : EX W := eLc lcFin (iSeq (eOp2 idxM (eVar 1) (eVar 5))) (.t [(.n 7), (.n 8)]) bYes (eOp2 (eqM false) (eVar 7) (eVar 6)) [7, 8]
def L1_first_rejecting : SX := sTidy [5, 6, 7, 8] (sSeq (sSet 6 (eCall 3 F_cut_to (aCons (eVar 3) (aCons (eUn (eVar 4)) (aCons (eOp2 idxM (eOp2 idxM (eVar 0) (eC (.int 1))) (eVar 5)) aNil)))))
  (sIf (bNot (bTru (eCB (allM false) (aCons C1_first_rejecting aNil)))) (sRet (eVar 5)) sSkip))
theorem sc_first_rejecting : FnScope ["graph", "tables", "nodes", "row", "some", "node", "part", "own", "price"] ["graph", "tables", "nodes", "row"] (defScope (top 26)) := ⟨rfl, rfl, rfl, by decide +kernel, rfl, by decide +kernel, by decide +kernel⟩
def m_first_rejecting : SX := (sSeq (sSet 4 (eCall 2 F_scope_of (aCons (eVar 0) (aCons (eVar 2) aNil))))
  (sSeq (sFor (iSeq (eVar 2)) (.n 5) L1_first_rejecting)
  (sRet (eC .none))))
def F_first_rejecting : FF := mkFn true 4 9 m_first_rejecting
theorem ok_first_rejecting (G : Globs mg) (F : FnP K "first_rejecting" (top 26) f fd) (hm : mg "first_rejecting" = some (.ref f)) (o_scope_of : OkD P w K mg base 1 "scope_of" F_scope_of ["graph", "nodes"]) (o_cut_to : OkD P w K mg base 1 "cut_to" F_cut_to ["row", "some", "kept"]) : OkD P w K mg base 2 "first_rejecting" F_first_rejecting ["graph", "tables", "nodes", "row"] := by
  refine OkD.mk F hm (FunD.bindsN F fun _ _ _ _ _ _ us hl => match us, hl with | [_, _, _, _], _ => rfl) sc_first_rejecting rfl rfl fun cd A outer s H E hr => ?_
  have tk := takes_cx (P := P) (w := w) (K := K) (mg := mg) (base := base) (N := ["graph", "tables", "nodes", "row", "some", "node", "part", "own", "price"]) (qual := "first_rejecting") (scope := defScope (top 26)) (f := f) (cd := cd) (A := A) (outer := outer) (s := s) (H := H) (E := E)
  exact (ss_cons (s_set sc_first_rejecting.nd rfl (by first | exact Or.inl rfl | exact Or.inr rfl) (x_call o_scope_of (hr.mono (by omega)) tk (a_cons (x_var 0) (a_cons (x_var 2) a_nil))))
  (ss_cons (s_for owns_cx rfl (i_seq (x_var 2)) (g_name sc_first_rejecting.nd rfl (by first | exact Or.inl rfl | exact Or.inr rfl)) (ss_tidy [5, 6, 7, 8] (ss_cons (s_set sc_first_rejecting.nd rfl (by first | exact Or.inl rfl | exact Or.inr rfl) (x_call o_cut_to (hr.mono (by omega)) tk (a_cons (x_var 3) (a_cons (x_un (x_var 4)) (a_cons (x_ix (x_ix (x_var 0) x_int) (x_var 5)) a_nil)))))
  (ss_one (s_if (b_not (b_tru (x_callB (cr_any rfl) anyM_ok G.n_any rfl (a_cons (x_lc (own := [("own", 7), ("price", 8)]) lcFin_ok rfl rfl sc_first_rejecting.nd (i_seq (x_ix (x_var 1) (x_var 5))) (blkOk_by (by kernel_rfl)) (fun _ _ _ _ _ => (g_tup rfl (g_cons (g_name sc_first_rejecting.nd rfl (by first | exact Or.inl rfl | exact Or.inr rfl)) (g_cons (g_name sc_first_rejecting.nd rfl (by first | exact Or.inl rfl | exact Or.inr rfl)) g_nil)))) (fun _ _ _ _ _ => ts_nil) (fun _ _ _ _ _ => (x_cmp (op_eqD hr.units) eqM_ok (x_var 7) (x_var 6)))) a_nil)))) (ss_one (s_ret (x_var 5))) ss_nil)))))
  (ss_one (s_ret x_non))))
def C1_price_of : EX W := eLc lcFin (iSeq (eOp2 idxM (eVar 1) (eVar 6))) (.t [(.n 8), (.n 9)]) (bVal (eOp2 (eqM false) (eVar 8) (eVar 7))) (eVar 9) [8, 9]
def L1_price_of : SX := sTidy [6, 7, 8, 9] (sSeq (sSet 7 (eCall 3 F_cut_to (aCons (eVar 3) (aCons (eUn (eVar 4)) (aCons (eOp2 idxM (eOp2 idxM (eVar 0) (eC (.int 1))) (eVar 6)) aNil)))))
  (sSet 5 (eOp2 addM (eVar 5) (eOp2 idxM C1_price_of (eC (.int 0))))))
theorem sc_price_of : FnScope ["graph", "tables", "nodes", "row", "some", "total", "node", "part", "own", "price"] ["graph", "tables", "nodes", "row"] (defScope (top 27)) := ⟨rfl, rfl, rfl, by decide +kernel, rfl, by decide +kernel, by decide +kernel⟩
def m_price_of : SX := (sSeq (sSet 4 (eCall 2 F_scope_of (aCons (eVar 0) (aCons (eVar 2) aNil))))
  (sSeq (sSet 5 (eC (.int 0)))
  (sSeq (sFor (iSeq (eVar 2)) (.n 6) L1_price_of)
  (sRet (eVar 5)))))
def F_price_of : FF := mkFn true 4 10 m_price_of
theorem ok_price_of (G : Globs mg) (F : FnP K "price_of" (top 27) f fd) (hm : mg "price_of" = some (.ref f)) (o_scope_of : OkD P w K mg base 1 "scope_of" F_scope_of ["graph", "nodes"]) (o_cut_to : OkD P w K mg base 1 "cut_to" F_cut_to ["row", "some", "kept"]) : OkD P w K mg base 2 "price_of" F_price_of ["graph", "tables", "nodes", "row"] := by
  refine OkD.mk F hm (FunD.bindsN F fun _ _ _ _ _ _ us hl => match us, hl with | [_, _, _, _], _ => rfl) sc_price_of rfl rfl fun cd A outer s H E hr => ?_
  have tk := takes_cx (P := P) (w := w) (K := K) (mg := mg) (base := base) (N := ["graph", "tables", "nodes", "row", "some", "total", "node", "part", "own", "price"]) (qual := "price_of") (scope := defScope (top 27)) (f := f) (cd := cd) (A := A) (outer := outer) (s := s) (H := H) (E := E)
  exact (ss_cons (s_set sc_price_of.nd rfl (by first | exact Or.inl rfl | exact Or.inr rfl) (x_call o_scope_of (hr.mono (by omega)) tk (a_cons (x_var 0) (a_cons (x_var 2) a_nil))))
  (ss_cons (s_set sc_price_of.nd rfl (by first | exact Or.inl rfl | exact Or.inr rfl) x_int)
  (ss_cons (s_for owns_cx rfl (i_seq (x_var 2)) (g_name sc_price_of.nd rfl (by first | exact Or.inl rfl | exact Or.inr rfl)) (ss_tidy [6, 7, 8, 9] (ss_cons (s_set sc_price_of.nd rfl (by first | exact Or.inl rfl | exact Or.inr rfl) (x_call o_cut_to (hr.mono (by omega)) tk (a_cons (x_var 3) (a_cons (x_un (x_var 4)) (a_cons (x_ix (x_ix (x_var 0) x_int) (x_var 6)) a_nil)))))
  (ss_one (s_set sc_price_of.nd rfl (by first | exact Or.inl rfl | exact Or.inr rfl) (x_op op_addAll addM_ok (x_var 5) (x_ix (x_lc (own := [("own", 8), ("price", 9)]) lcFin_ok rfl rfl sc_price_of.nd (i_seq (x_ix (x_var 1) (x_var 6))) (blkOk_by (by kernel_rfl)) (fun _ _ _ _ _ => (g_tup rfl (g_cons (g_name sc_price_of.nd rfl (by first | exact Or.inl rfl | exact Or.inr rfl)) (g_cons (g_name sc_price_of.nd rfl (by first | exact Or.inl rfl | exact Or.inr rfl)) g_nil)))) (fun _ _ _ _ _ => (ts_one (b_cmp (op_eqD hr.units) eqM_ok (x_var 8) (x_var 7)))) (fun _ _ _ _ _ => (x_var 9))) x_int)))))))
  (ss_one (s_ret (x_var 5))))))
def L1_solutions_by : SX := sTidy [4] (sIf (bVal (eOp2 (isNoneM false) (eCall 4 F_first_rejecting (aCons (eVar 0) (aCons (eVar 1) (aCons (eVar 2) (aCons (eVar 4) aNil))))) (eC .none))) (sExpr (eLM appendM (eVar 3) (aCons (eTup (aCons (eVar 4) (aCons (eCall 4 F_price_of (aCons (eVar 0) (aCons (eVar 1) (aCons (eVar 2) (aCons (eVar 4) aNil))))) aNil))) aNil))) sSkip)
theorem sc_solutions_by : FnScope ["graph", "tables", "nodes", "found", "row"] ["graph", "tables", "nodes"] (defScope (top 28)) := ⟨rfl, rfl, rfl, by decide +kernel, rfl, by decide +kernel, by decide +kernel⟩
def m_solutions_by : SX := (sSeq (sSet 3 (eLstL aNil))
  (sSeq (sFor (iSeq (eCall 2 F_rows_of (aCons (eOp2 idxM (eVar 0) (eC (.int 0))) (aCons (eCB lenM (aCons (eUn (eCall 2 F_scope_of (aCons (eVar 0) (aCons (eVar 2) aNil)))) aNil)) aNil)))) (.n 4) L1_solutions_by)
  (sRet (eVar 3))))
def F_solutions_by : FF := mkFn true 3 5 m_solutions_by
theorem ok_solutions_by (G : Globs mg) (F : FnP K "solutions_by" (top 28) f fd) (hm : mg "solutions_by" = some (.ref f)) (o_rows_of : OkD P w K mg base 1 "rows_of" F_rows_of ["values", "many"]) (o_scope_of : OkD P w K mg base 1 "scope_of" F_scope_of ["graph", "nodes"]) (o_first_rejecting : OkD P w K mg base 2 "first_rejecting" F_first_rejecting ["graph", "tables", "nodes", "row"]) (o_price_of : OkD P w K mg base 2 "price_of" F_price_of ["graph", "tables", "nodes", "row"]) : OkD P w K mg base 3 "solutions_by" F_solutions_by ["graph", "tables", "nodes"] := by
  refine OkD.mk F hm (FunD.bindsN F fun _ _ _ _ _ _ us hl => match us, hl with | [_, _, _], _ => rfl) sc_solutions_by rfl rfl fun cd A outer s H E hr => ?_
  have tk := takes_cx (P := P) (w := w) (K := K) (mg := mg) (base := base) (N := ["graph", "tables", "nodes", "found", "row"]) (qual := "solutions_by") (scope := defScope (top 28)) (f := f) (cd := cd) (A := A) (outer := outer) (s := s) (H := H) (E := E)
  exact (ss_cons (s_set sc_solutions_by.nd rfl (by first | exact Or.inl rfl | exact Or.inr rfl) (x_lstL a_nil))
  (ss_cons (s_for owns_cx rfl (i_seq (x_call o_rows_of (hr.mono (by omega)) tk (a_cons (x_ix (x_var 0) x_int) (a_cons (x_callB call_len lenM_ok G.n_len rfl (a_cons (x_un (x_call o_scope_of (hr.mono (by omega)) tk (a_cons (x_var 0) (a_cons (x_var 2) a_nil)))) a_nil)) a_nil)))) (g_name sc_solutions_by.nd rfl (by first | exact Or.inl rfl | exact Or.inr rfl)) (ss_tidy [4] (ss_one (s_if (b_cmp op_isN isNoneM_ok (x_call o_first_rejecting (hr.mono (by omega)) tk (a_cons (x_var 0) (a_cons (x_var 1) (a_cons (x_var 2) (a_cons (x_var 4) a_nil))))) x_non) (ss_one (s_expr (x_lm PySem.F.slot_list_append PySem.F.type_list_append mt_append appendM_ok (x_var 3) (a_cons (x_tup (a_cons (x_var 4) (a_cons (x_call o_price_of (hr.mono (by omega)) tk (a_cons (x_var 0) (a_cons (x_var 1) (a_cons (x_var 2) (a_cons (x_var 4) a_nil))))) a_nil))) a_nil)))) ss_nil))))
  (ss_one (s_ret (x_var 3)))))
theorem sc_solutions_of : FnScope ["graph", "tables"] ["graph", "tables"] (defScope (top 29)) := ⟨rfl, rfl, rfl, by decide +kernel, rfl, by decide +kernel, by decide +kernel⟩
def m_solutions_of : SX := (sRet (eCall 3 F_solutions_by (aCons (eVar 0) (aCons (eVar 1) (aCons (eRg1 .l (eCB lenM (aCons (eOp2 idxM (eVar 0) (eC (.int 1))) aNil))) aNil)))))
def F_solutions_of : FF := mkFn true 2 2 m_solutions_of
theorem ok_solutions_of (G : Globs mg) (F : FnP K "solutions_of" (top 29) f fd) (hm : mg "solutions_of" = some (.ref f)) (o_solutions_by : OkD P w K mg base 3 "solutions_by" F_solutions_by ["graph", "tables", "nodes"]) : OkD P w K mg base 4 "solutions_of" F_solutions_of ["graph", "tables"] := by
  refine OkD.mk F hm (FunD.bindsN F fun _ _ _ _ _ _ us hl => match us, hl with | [_, _], _ => rfl) sc_solutions_of rfl rfl fun cd A outer s H E hr => ?_
  have tk := takes_cx (P := P) (w := w) (K := K) (mg := mg) (base := base) (N := ["graph", "tables"]) (qual := "solutions_of") (scope := defScope (top 29)) (f := f) (cd := cd) (A := A) (outer := outer) (s := s) (H := H) (E := E)
  exact (ss_one (s_ret (x_call o_solutions_by (hr.mono (by omega)) tk (a_cons (x_var 0) (a_cons (x_var 1) (a_cons (x_listRg1 rfl G.n_list G.n_range (x_callB call_len lenM_ok G.n_len rfl (a_cons (x_ix (x_var 0) x_int) a_nil))) a_nil))))))
theorem sc_check_variable : FnScope ["graph", "tables", "variable"] ["graph", "tables", "variable"] (defScope (top 31)) := ⟨rfl, rfl, rfl, by decide +kernel, rfl, by decide +kernel, by decide +kernel⟩
def m_check_variable : SX := (sSeq (sExpr (eCall 2 F_check_tables (aCons (eVar 0) (aCons (eVar 1) aNil))))
  (sIf (bOr (bNot (bTru (eCall 3 F_is_whole (aCons (eVar 2) (aCons (eC (.int 0)) (aCons (eC (.int 5)) aNil)))))) (bVal (eOp2 (inM true) (eVar 2) (eUn (eCall 1 F_variables_of (aCons (eVar 0) aNil)))))) sNever sSkip))
def F_check_variable : FF := mkFn true 3 3 m_check_variable
theorem ok_check_variable (G : Globs mg) (F : FnP K "check_variable" (top 31) f fd) (hm : mg "check_variable" = some (.ref f)) (o_check_tables : OkD P w K mg base 6 "check_tables" F_check_tables ["graph", "tables"]) (o_is_whole : OkD P w K mg base 1 "is_whole" F_is_whole ["value", "low", "high"]) (o_variables_of : OkD P w K mg base 2 "variables_of" F_variables_of ["graph"]) : OkD P w K mg base 7 "check_variable" F_check_variable ["graph", "tables", "variable"] := by
  refine OkD.mk F hm (FunD.bindsN F fun _ _ _ _ _ _ us hl => match us, hl with | [_, _, _], _ => rfl) sc_check_variable rfl rfl fun cd A outer s H E hr => ?_
  have tk := takes_cx (P := P) (w := w) (K := K) (mg := mg) (base := base) (N := ["graph", "tables", "variable"]) (qual := "check_variable") (scope := defScope (top 31)) (f := f) (cd := cd) (A := A) (outer := outer) (s := s) (H := H) (E := E)
  exact (ss_cons (s_expr (x_call o_check_tables (hr.mono (by omega)) tk (a_cons (x_var 0) (a_cons (x_var 1) a_nil))))
  (ss_one (s_if (PW.pt (b_or (b_not (b_tru (x_call o_is_whole (hr.mono (by omega)) tk (a_cons (x_var 2) (a_cons x_int (a_cons x_int a_nil)))))) (b_or1 (b_cmp (op_notInAll (u65 hr)) notInM_ok (x_var 2) (x_un (x_call o_variables_of (hr.mono (by omega)) tk (a_cons (x_var 0) a_nil))))))) (ss_one s_never) ss_nil)))
theorem sc_check_question : FnScope ["graph", "tables", "variable", "value"] ["graph", "tables", "variable", "value"] (defScope (top 32)) := ⟨rfl, rfl, rfl, by decide +kernel, rfl, by decide +kernel, by decide +kernel⟩
def m_check_question : SX := (sSeq (sExpr (eCall 3 F_check_variable (aCons (eVar 0) (aCons (eVar 1) (aCons (eVar 2) aNil)))))
  (sIf (bNot (bTru (eCall 3 F_is_whole (aCons (eVar 3) (aCons (eC (.int 0)) (aCons (eOp2 subM (eOp2 idxM (eVar 0) (eC (.int 0))) (eC (.int 1))) aNil)))))) sNever sSkip))
def F_check_question : FF := mkFn true 4 4 m_check_question
theorem ok_check_question (G : Globs mg) (F : FnP K "check_question" (top 32) f fd) (hm : mg "check_question" = some (.ref f)) (o_check_variable : OkD P w K mg base 7 "check_variable" F_check_variable ["graph", "tables", "variable"]) (o_is_whole : OkD P w K mg base 1 "is_whole" F_is_whole ["value", "low", "high"]) : OkD P w K mg base 8 "check_question" F_check_question ["graph", "tables", "variable", "value"] := by
  refine OkD.mk F hm (FunD.bindsN F fun _ _ _ _ _ _ us hl => match us, hl with | [_, _, _, _], _ => rfl) sc_check_question rfl rfl fun cd A outer s H E hr => ?_
  have tk := takes_cx (P := P) (w := w) (K := K) (mg := mg) (base := base) (N := ["graph", "tables", "variable", "value"]) (qual := "check_question") (scope := defScope (top 32)) (f := f) (cd := cd) (A := A) (outer := outer) (s := s) (H := H) (E := E)
  exact (ss_cons (s_expr (x_call o_check_variable (hr.mono (by omega)) tk (a_cons (x_var 0) (a_cons (x_var 1) (a_cons (x_var 2) a_nil)))))
  (ss_one (s_if (b_not (b_tru (x_call o_is_whole (hr.mono (by omega)) tk (a_cons (x_var 3) (a_cons x_int (a_cons (x_op op_sub subM_ok (x_ix (x_var 0) x_int) x_int) a_nil)))))) (ss_one s_never) ss_nil)))
def C1_having : EX W := eLc lcFin (iSeq (eCall 2 F_solutions_of (aCons (eVar 0) (aCons (eVar 1) aNil)))) (.t [(.n 5), (.n 6)]) (bVal (eOp2 (eqM false) (eOp2 idxM (eVar 5) (eVar 4)) (eVar 3))) (eTup (aCons (eVar 5) (aCons (eVar 6) aNil))) [5, 6]
theorem sc_having : FnScope ["graph", "tables", "variable", "value", "at", "row", "cost"] ["graph", "tables", "variable", "value"] (defScope (top 33)) := ⟨rfl, rfl, rfl, by decide +kernel, rfl, by decide +kernel, by decide +kernel⟩
def m_having : SX := (sSeq (sSet 4 (eTix (eCall 1 F_variables_of (aCons (eVar 0) aNil)) (eVar 2)))
  (sRet C1_having))
def F_having : FF := mkFn true 4 7 m_having
theorem ok_having (G : Globs mg) (F : FnP K "having" (top 33) f fd) (hm : mg "having" = some (.ref f)) (o_variables_of : OkD P w K mg base 2 "variables_of" F_variables_of ["graph"]) (o_solutions_of : OkD P w K mg base 4 "solutions_of" F_solutions_of ["graph", "tables"]) : OkD P w K mg base 5 "having" F_having ["graph", "tables", "variable", "value"] := by
  refine OkD.mk F hm (FunD.bindsN F fun _ _ _ _ _ _ us hl => match us, hl with | [_, _, _, _], _ => rfl) sc_having rfl rfl fun cd A outer s H E hr => ?_
  have tk := takes_cx (P := P) (w := w) (K := K) (mg := mg) (base := base) (N := ["graph", "tables", "variable", "value", "at", "row", "cost"]) (qual := "having") (scope := defScope (top 33)) (f := f) (cd := cd) (A := A) (outer := outer) (s := s) (H := H) (E := E)
  exact (ss_cons (s_set sc_having.nd rfl (by first | exact Or.inl rfl | exact Or.inr rfl) (x_tix (u65 hr) (x_call o_variables_of (hr.mono (by omega)) tk (a_cons (x_var 0) a_nil)) (x_var 2)))
  (ss_one (s_ret (x_lc (own := [("row", 5), ("cost", 6)]) lcFin_ok rfl rfl sc_having.nd (i_seq (x_call o_solutions_of (hr.mono (by omega)) tk (a_cons (x_var 0) (a_cons (x_var 1) a_nil)))) (blkOk_by (by kernel_rfl)) (fun _ _ _ _ _ => (g_tup rfl (g_cons (g_name sc_having.nd rfl (by first | exact Or.inl rfl | exact Or.inr rfl)) (g_cons (g_name sc_having.nd rfl (by first | exact Or.inl rfl | exact Or.inr rfl)) g_nil)))) (fun _ _ _ _ _ => (ts_one (b_cmp (op_eqD hr.units) eqM_ok (x_ix (x_var 5) (x_var 4)) (x_var 3)))) (fun _ _ _ _ _ => (x_tup (a_cons (x_var 5) (a_cons (x_var 6) a_nil))))))))
def C1_told_by : EX W := eLc lcFin (iSeq (eCall 4 F_having (aCons (eVar 0) (aCons (eVar 1) (aCons (eVar 2) (aCons (eVar 3) aNil)))))) (.t [(.n 5), (.n 6)]) bYes (eVar 5) [5, 6]
def C2_told_by : EX W := eLc lcFin (iSeq (eCall 2 F_solutions_of (aCons (eVar 0) (aCons (eVar 1) aNil)))) (.t [(.n 5), (.n 6)]) (bVal (eOp2 (inM true) (eVar 5) (eVar 4))) (eVar 5) [5, 6]
theorem sc_told_by : FnScope ["graph", "tables", "variable", "value", "own", "row", "cost"] ["graph", "tables", "variable", "value"] (defScope (top 35)) := ⟨rfl, rfl, rfl, by decide +kernel, rfl, by decide +kernel, by decide +kernel⟩
def m_told_by : SX := (sSeq (sSet 4 C1_told_by)
  (sRet (eTup (aCons (eVar 4) (aCons C2_told_by aNil)))))
def F_told_by : FF := mkFn true 4 7 m_told_by
theorem ok_told_by (G : Globs mg) (F : FnP K "told_by" (top 35) f fd) (hm : mg "told_by" = some (.ref f)) (o_having : OkD P w K mg base 5 "having" F_having ["graph", "tables", "variable", "value"]) (o_solutions_of : OkD P w K mg base 4 "solutions_of" F_solutions_of ["graph", "tables"]) : OkD P w K mg base 6 "told_by" F_told_by ["graph", "tables", "variable", "value"] := by
  refine OkD.mk F hm (FunD.bindsN F fun _ _ _ _ _ _ us hl => match us, hl with | [_, _, _, _], _ => rfl) sc_told_by rfl rfl fun cd A outer s H E hr => ?_
  have tk := takes_cx (P := P) (w := w) (K := K) (mg := mg) (base := base) (N := ["graph", "tables", "variable", "value", "own", "row", "cost"]) (qual := "told_by") (scope := defScope (top 35)) (f := f) (cd := cd) (A := A) (outer := outer) (s := s) (H := H) (E := E)
  exact (ss_cons (s_set sc_told_by.nd rfl (by first | exact Or.inl rfl | exact Or.inr rfl) (x_lc (own := [("row", 5), ("cost", 6)]) lcFin_ok rfl rfl sc_told_by.nd (i_seq (x_call o_having (hr.mono (by omega)) tk (a_cons (x_var 0) (a_cons (x_var 1) (a_cons (x_var 2) (a_cons (x_var 3) a_nil)))))) (blkOk_by (by kernel_rfl)) (fun _ _ _ _ _ => (g_tup rfl (g_cons (g_name sc_told_by.nd rfl (by first | exact Or.inl rfl | exact Or.inr rfl)) (g_cons (g_name sc_told_by.nd rfl (by first | exact Or.inl rfl | exact Or.inr rfl)) g_nil)))) (fun _ _ _ _ _ => ts_nil) (fun _ _ _ _ _ => (x_var 5))))
  (ss_one (s_ret (x_tup (a_cons (x_var 4) (a_cons (x_lc (own := [("row", 5), ("cost", 6)]) lcFin_ok rfl rfl sc_told_by.nd (i_seq (x_call o_solutions_of (hr.mono (by omega)) tk (a_cons (x_var 0) (a_cons (x_var 1) a_nil)))) (blkOk_by (by kernel_rfl)) (fun _ _ _ _ _ => (g_tup rfl (g_cons (g_name sc_told_by.nd rfl (by first | exact Or.inl rfl | exact Or.inr rfl)) (g_cons (g_name sc_told_by.nd rfl (by first | exact Or.inl rfl | exact Or.inr rfl)) g_nil)))) (fun _ _ _ _ _ => (ts_one (b_cmp (op_notInAll (u65 hr)) notInM_ok (x_var 5) (x_var 4)))) (fun _ _ _ _ _ => (x_var 5))) a_nil))))))
theorem sc_word_of : FnScope ["own", "others"] ["own", "others"] (defScope (top 36)) := ⟨rfl, rfl, rfl, by decide +kernel, rfl, by decide +kernel, by decide +kernel⟩
def m_word_of : SX := (sSeq (sIf (bVal (eOp2 (eqM false) (eCB lenM (aCons (eVar 0) aNil)) (eC (.int 0)))) (sRet (eC (.str "never"))) sSkip)
  (sRet (eIf (bVal (eOp2 (eqM false) (eCB lenM (aCons (eVar 1) aNil)) (eC (.int 0)))) (eC (.str "always")) (eC (.str "sometimes")))))
def F_word_of : FF := mkFn true 2 2 m_word_of
theorem ok_word_of (G : Globs mg) (F : FnP K "word_of" (top 36) f fd) (hm : mg "word_of" = some (.ref f))  : OkD P w K mg base 1 "word_of" F_word_of ["own", "others"] := by
  refine OkD.mk F hm (FunD.bindsN F fun _ _ _ _ _ _ us hl => match us, hl with | [_, _], _ => rfl) sc_word_of rfl rfl fun cd A outer s H E hr => ?_
  have tk := takes_cx (P := P) (w := w) (K := K) (mg := mg) (base := base) (N := ["own", "others"]) (qual := "word_of") (scope := defScope (top 36)) (f := f) (cd := cd) (A := A) (outer := outer) (s := s) (H := H) (E := E)
  exact (ss_cons (s_if (b_cmp (op_eqD hr.units) eqM_ok (x_callB call_len lenM_ok G.n_len rfl (a_cons (x_var 0) a_nil)) x_int) (ss_one (s_ret x_str)) ss_nil)
  (ss_one (s_ret (x_if (b_cmp (op_eqD hr.units) eqM_ok (x_callB call_len lenM_ok G.n_len rfl (a_cons (x_var 1) a_nil)) x_int) x_str x_str))))
theorem sc_verdict : FnScope ["graph", "tables", "variable", "value", "own", "others"] ["graph", "tables", "variable", "value"] (defScope (top 37)) := ⟨rfl, rfl, rfl, by decide +kernel, rfl, by decide +kernel, by decide +kernel⟩
def m_verdict : SX := (sSeq (sExpr (eCall 4 F_check_question (aCons (eVar 0) (aCons (eVar 1) (aCons (eVar 2) (aCons (eVar 3) aNil))))))
  (sSeq (sPut (.t [(.n 4), (.n 5)]) (eCall 4 F_told_by (aCons (eVar 0) (aCons (eVar 1) (aCons (eVar 2) (aCons (eVar 3) aNil))))))
  (sRet (eCall 2 F_word_of (aCons (eVar 4) (aCons (eVar 5) aNil))))))
def F_verdict : FF := mkFn true 4 6 m_verdict
theorem ok_verdict (G : Globs mg) (F : FnP K "verdict" (top 37) f fd) (hm : mg "verdict" = some (.ref f)) (o_check_question : OkD P w K mg base 8 "check_question" F_check_question ["graph", "tables", "variable", "value"]) (o_told_by : OkD P w K mg base 6 "told_by" F_told_by ["graph", "tables", "variable", "value"]) (o_word_of : OkD P w K mg base 1 "word_of" F_word_of ["own", "others"]) : OkD P w K mg base 9 "verdict" F_verdict ["graph", "tables", "variable", "value"] := by
  refine OkD.mk F hm (FunD.bindsN F fun _ _ _ _ _ _ us hl => match us, hl with | [_, _, _, _], _ => rfl) sc_verdict rfl rfl fun cd A outer s H E hr => ?_
  have tk := takes_cx (P := P) (w := w) (K := K) (mg := mg) (base := base) (N := ["graph", "tables", "variable", "value", "own", "others"]) (qual := "verdict") (scope := defScope (top 37)) (f := f) (cd := cd) (A := A) (outer := outer) (s := s) (H := H) (E := E)
  exact (ss_cons (s_expr (x_call o_check_question (hr.mono (by omega)) tk (a_cons (x_var 0) (a_cons (x_var 1) (a_cons (x_var 2) (a_cons (x_var 3) a_nil))))))
  (ss_cons (s_put (x_call o_told_by (hr.mono (by omega)) tk (a_cons (x_var 0) (a_cons (x_var 1) (a_cons (x_var 2) (a_cons (x_var 3) a_nil))))) (g_tup rfl (g_cons (g_name sc_verdict.nd rfl (by first | exact Or.inl rfl | exact Or.inr rfl)) (g_cons (g_name sc_verdict.nd rfl (by first | exact Or.inl rfl | exact Or.inr rfl)) g_nil))))
  (ss_one (s_ret (x_call o_word_of (hr.mono (by omega)) tk (a_cons (x_var 4) (a_cons (x_var 5) a_nil)))))))
def C1_rejects : EX W := eLc lcFin (iZp (eVar 4) (eVar 5)) (.t [(.n 7), (.n 8)]) bYes (eOp2 (eqM false) (eDGet2 (eVar 3) (eVar 7) (eVar 8)) (eVar 8)) [7, 8]
def L1_rejects : SX := sTidy [5, 6, 7, 8] (sIf (bTru (eCB (allM true) (aCons C1_rejects aNil))) (sRet (eC (.bool false))) sSkip)
theorem sc_rejects : FnScope ["graph", "tables", "node", "known", "scope", "row", "cost", "variable", "one"] ["graph", "tables", "node", "known"] (defScope (top 38)) := ⟨rfl, rfl, rfl, by decide +kernel, rfl, by decide +kernel, by decide +kernel⟩
def m_rejects : SX := (sSeq (sSet 4 (eOp2 idxM (eOp2 idxM (eVar 0) (eC (.int 1))) (eVar 2)))
  (sSeq (sFor (iSeq (eOp2 idxM (eVar 1) (eVar 2))) (.t [(.n 5), (.n 6)]) L1_rejects)
  (sRet (eC (.bool true)))))
def F_rejects : FF := mkFn true 4 9 m_rejects
theorem ok_rejects (G : Globs mg) (F : FnP K "rejects" (top 38) f fd) (hm : mg "rejects" = some (.ref f))  : OkD P w K mg base 1 "rejects" F_rejects ["graph", "tables", "node", "known"] := by
  refine OkD.mk F hm (FunD.bindsN F fun _ _ _ _ _ _ us hl => match us, hl with | [_, _, _, _], _ => rfl) sc_rejects rfl rfl fun cd A outer s H E hr => ?_
  have tk := takes_cx (P := P) (w := w) (K := K) (mg := mg) (base := base) (N := ["graph", "tables", "node", "known", "scope", "row", "cost", "variable", "one"]) (qual := "rejects") (scope := defScope (top 38)) (f := f) (cd := cd) (A := A) (outer := outer) (s := s) (H := H) (E := E)
  exact (ss_cons (s_set sc_rejects.nd rfl (by first | exact Or.inl rfl | exact Or.inr rfl) (x_ix (x_ix (x_var 0) x_int) (x_var 2)))
  (ss_cons (s_for owns_cx rfl (i_seq (x_ix (x_var 1) (x_var 2))) (g_tup rfl (g_cons (g_name sc_rejects.nd rfl (by first | exact Or.inl rfl | exact Or.inr rfl)) (g_cons (g_name sc_rejects.nd rfl (by first | exact Or.inl rfl | exact Or.inr rfl)) g_nil))) (ss_tidy [5, 6, 7, 8] (ss_one (s_if (b_tru (x_callB (cr_all rfl) allM_ok G.n_all rfl (a_cons (x_lc (own := [("variable", 7), ("one", 8)]) lcFin_ok rfl rfl sc_rejects.nd (i_zip G.n_zip (x_var 4) (x_var 5)) (blkOk_by (by kernel_rfl)) (fun _ _ _ _ _ => (g_tup rfl (g_cons (g_name sc_rejects.nd rfl (by first | exact Or.inl rfl | exact Or.inr rfl)) (g_cons (g_name sc_rejects.nd rfl (by first | exact Or.inl rfl | exact Or.inr rfl)) g_nil)))) (fun _ _ _ _ _ => ts_nil) (fun _ _ _ _ _ => (x_cmp (op_eqD hr.units) eqM_ok (x_dget2 (u1 hr) (x_var 3) (x_var 7) (x_var 8) ⟨rfl, rfl, rfl, rfl⟩) (x_var 8)))) a_nil))) (ss_one (s_ret x_bl)) ss_nil))))
  (ss_one (s_ret x_bl))))
theorem sc_with_value : FnScope ["known", "variable", "value", "found", "one"] ["known", "variable", "value"] (defScope (top 40)) := ⟨rfl, rfl, rfl, by decide +kernel, rfl, by decide +kernel, by decide +kernel⟩
def m_with_value : SX := (sSeq (sSet 3 (eDCopy 0 4))
  (sSeq (sSetKy (eVar 3) (eVar 1) (eVar 2))
  (sRet (eVar 3))))
def F_with_value : FF := mkFn false 3 5 m_with_value
theorem ok_with_value (G : Globs mg) (F : FnP K "with_value" (top 40) f fd) (hm : mg "with_value" = some (.ref f))  : OkD P w K mg base 1 "with_value" F_with_value ["known", "variable", "value"] := by
  refine OkD.mk F hm (FunD.bindsN F fun _ _ _ _ _ _ us hl => match us, hl with | [_, _, _], _ => rfl) sc_with_value rfl rfl fun cd A outer s H E hr => ?_
  have tk := takes_cx (P := P) (w := w) (K := K) (mg := mg) (base := base) (N := ["known", "variable", "value", "found", "one"]) (qual := "with_value") (scope := defScope (top 40)) (f := f) (cd := cd) (A := A) (outer := outer) (s := s) (H := H) (E := E)
  exact (ss_cons (s_setDCopy (own := [("one", 4)]) (by decide) rfl rfl sc_with_value.nd rfl rfl (sw_trueD rfl rfl rfl (by decide +kernel)) (pv 0) (blkOk_by (by kernel_rfl)) (fun _ _ _ _ _ => pg_name sc_with_value.nd rfl (by first | exact Or.inl rfl | exact Or.inr rfl)) (fun _ _ _ _ _ => pts_nil) (fun _ _ _ _ _ => pv 4) (fun _ _ _ _ _ => pe_dget (u1 hr) (pv 0) (pv 4) (by intro _ _; rfl)))
  (ss_cons (s_setKy (u1 hr) (x_var 2) (x_var 3) (x_var 1))
  (ss_one (s_ret (x_var 3)))))
def L1_tree_for (F_self : FF) : SX := sTidy [3] (sIf (bTru (eCall 4 F_rejects (aCons (eVar 0) (aCons (eVar 1) (aCons (eVar 3) (aCons (eVar 2) aNil)))))) (sRet (eTup (aCons (eC (.str "no")) (aCons (eVar 3) aNil)))) sSkip)
def C1_tree_for (F_self : FF) : EX W := eLc lcFin (iSeq (eUn (eCall 1 F_variables_of (aCons (eVar 0) aNil)))) (.n 7) (bVal (eDIn true (eVar 7) (eVar 2))) (eVar 7) [7]
def L2_tree_for (F_self : FF) : SX := sTidy [6] (sExpr (eLM appendM (eVar 5) (aCons (eCall 3 F_self (aCons (eVar 0) (aCons (eVar 1) (aCons (eCall 3 F_with_value (aCons (eVar 2) (aCons (eVar 4) (aCons (eVar 6) aNil)))) aNil)))) aNil)))
theorem sc_tree_for : FnScope ["graph", "tables", "known", "node", "variable", "found", "value", "one"] ["graph", "tables", "known"] (defScope (top 39)) := ⟨rfl, rfl, rfl, by decide +kernel, rfl, by decide +kernel, by decide +kernel⟩
def m_tree_for (F_self : FF) : SX := (sSeq (sFor (iRg1 (eCB lenM (aCons (eOp2 idxM (eVar 0) (eC (.int 1))) aNil))) (.n 3) (L1_tree_for F_self))
  (sSeq (sSet 4 (eOp2 idxM (C1_tree_for F_self) (eC (.int 0))))
  (sSeq (sSet 5 (eLstL aNil))
  (sSeq (sFor (iRg1 (eOp2 idxM (eVar 0) (eC (.int 0)))) (.n 6) (L2_tree_for F_self))
  (sRet (eTup (aCons (eC (.str "by")) (aCons (eVar 4) (aCons (eCB tupleM (aCons (eVar 5) aNil)) aNil)))))))))
def F_tree_for : Nat → FF
  | 0 => fun _ _ => .stuck
  | n + 1 => mkFn true 3 8 (m_tree_for (F_tree_for n))
theorem ok_tree_for (G : Globs mg) (F : FnP K "tree_for" (top 39) f fd) (hm : mg "tree_for" = some (.ref f)) (o_rejects : OkD P w K mg base 1 "rejects" F_rejects ["graph", "tables", "node", "known"]) (o_variables_of : OkD P w K mg base 2 "variables_of" F_variables_of ["graph"]) (o_with_value : OkD P w K mg base 1 "with_value" F_with_value ["known", "variable", "value"]) : ∀ n, OkD P w K mg base (n + 3) "tree_for" (F_tree_for n) ["graph", "tables", "known"]
  | 0 => OkD.zero F hm (FunD.bindsN F fun _ _ _ _ _ _ us hl => match us, hl with | [_, _, _], _ => rfl) sc_tree_for
  | n + 1 => by
    have o_tree_for := ok_tree_for G F hm o_rejects o_variables_of o_with_value n
    refine OkD.mk (k := n + 3) F hm (FunD.bindsN F fun _ _ _ _ _ _ us hl => match us, hl with | [_, _, _], _ => rfl) sc_tree_for rfl rfl fun cd A outer s H E hr => ?_
    have tk := takes_cx (P := P) (w := w) (K := K) (mg := mg) (base := base) (N := ["graph", "tables", "known", "node", "variable", "found", "value", "one"]) (qual := "tree_for") (scope := defScope (top 39)) (f := f) (cd := cd) (A := A) (outer := outer) (s := s) (H := H) (E := E)
    exact (ss_cons (s_for owns_cx rfl (i_rg1 G.n_range (x_callB call_len lenM_ok G.n_len rfl (a_cons (x_ix (x_var 0) x_int) a_nil))) (g_name sc_tree_for.nd rfl (by first | exact Or.inl rfl | exact Or.inr rfl)) (ss_tidy [3] (ss_one (s_if (b_tru (x_call o_rejects (hr.mono (by omega)) tk (a_cons (x_var 0) (a_cons (x_var 1) (a_cons (x_var 3) (a_cons (x_var 2) a_nil)))))) (ss_one (s_ret (x_tup (a_cons x_str (a_cons (x_var 3) a_nil))))) ss_nil))))
  (ss_cons (s_set sc_tree_for.nd rfl (by first | exact Or.inl rfl | exact Or.inr rfl) (x_ix (x_lc (own := [("one", 7)]) lcFin_ok rfl rfl sc_tree_for.nd (i_seq (x_un (x_call o_variables_of (hr.mono (by omega)) tk (a_cons (x_var 0) a_nil)))) (blkOk_by (by kernel_rfl)) (fun _ _ _ _ _ => (g_name sc_tree_for.nd rfl (by first | exact Or.inl rfl | exact Or.inr rfl))) (fun _ _ _ _ _ => (ts_one (b_dnotin (u1 hr) (x_var 7) (x_var 2)))) (fun _ _ _ _ _ => (x_var 7))) x_int))
  (ss_cons (s_set sc_tree_for.nd rfl (by first | exact Or.inl rfl | exact Or.inr rfl) (x_lstL a_nil))
  (ss_cons (s_for owns_cx rfl (i_rg1 G.n_range (x_ix (x_var 0) x_int)) (g_name sc_tree_for.nd rfl (by first | exact Or.inl rfl | exact Or.inr rfl)) (ss_tidy [6] (ss_one (s_expr (x_lm PySem.F.slot_list_append PySem.F.type_list_append mt_append appendM_ok (x_var 5) (a_cons (x_call o_tree_for (hr.mono (by omega)) tk (a_cons (x_var 0) (a_cons (x_var 1) (a_cons (x_call o_with_value (hr.mono (by omega)) tk (a_cons (x_var 2) (a_cons (x_var 4) (a_cons (x_var 6) a_nil)))) a_nil)))) a_nil))))))
  (ss_one (s_ret (x_tup (a_cons x_str (a_cons (x_var 4) (a_cons (x_callTy call_tuple_of tupleM_ok G.n_tuple rfl (a_cons (x_var 5) a_nil)) a_nil))))))))))
def C1_verdict_evidence : EX W := eLc lcFin (iRg1 (eOp2 idxM (eVar 0) (eC (.int 0)))) (.n 8) (bVal (eOp2 (eqM true) (eVar 8) (eVar 3))) (eCall 3 (F_tree_for 7) (aCons (eVar 0) (aCons (eVar 1) (aCons (eDisp [((eVar 2), (eVar 8))]) aNil)))) [8]
theorem sc_verdict_evidence : FnScope ["graph", "tables", "variable", "value", "own", "others", "word", "trees", "other"] ["graph", "tables", "variable", "value"] (defScope (top 41)) := ⟨rfl, rfl, rfl, by decide +kernel, rfl, by decide +kernel, by decide +kernel⟩
def m_verdict_evidence : SX := (sSeq (sExpr (eCall 4 F_check_question (aCons (eVar 0) (aCons (eVar 1) (aCons (eVar 2) (aCons (eVar 3) aNil))))))
  (sSeq (sPut (.t [(.n 4), (.n 5)]) (eCall 4 F_told_by (aCons (eVar 0) (aCons (eVar 1) (aCons (eVar 2) (aCons (eVar 3) aNil))))))
  (sSeq (sSet 6 (eCall 2 F_word_of (aCons (eVar 4) (aCons (eVar 5) aNil))))
  (sSeq (sIf (bVal (eOp2 (eqM false) (eVar 6) (eC (.str "sometimes")))) (sRet (eTup (aCons (eVar 6) (aCons (eOp2 idxM (eVar 4) (eC (.int 0))) (aCons (eOp2 idxM (eVar 5) (eC (.int 0))) aNil))))) sSkip)
  (sSeq (sIf (bVal (eOp2 (eqM false) (eVar 6) (eC (.str "never")))) (sRet (eTup (aCons (eVar 6) (aCons (eCall 3 (F_tree_for 7) (aCons (eVar 0) (aCons (eVar 1) (aCons (eDisp [((eVar 2), (eVar 3))]) aNil)))) aNil)))) sSkip)
  (sSeq (sSet 7 C1_verdict_evidence)
  (sRet (eTup (aCons (eVar 6) (aCons (eOp2 idxM (eVar 4) (eC (.int 0))) (aCons (eCB tupleM (aCons (eVar 7) aNil)) aNil)))))))))))
def F_verdict_evidence : FF := mkFn true 4 9 m_verdict_evidence
theorem ok_verdict_evidence (G : Globs mg) (F : FnP K "verdict_evidence" (top 41) f fd) (hm : mg "verdict_evidence" = some (.ref f)) (o_check_question : OkD P w K mg base 8 "check_question" F_check_question ["graph", "tables", "variable", "value"]) (o_told_by : OkD P w K mg base 6 "told_by" F_told_by ["graph", "tables", "variable", "value"]) (o_word_of : OkD P w K mg base 1 "word_of" F_word_of ["own", "others"]) (o_tree_for : OkD P w K mg base 10 "tree_for" (F_tree_for 7) ["graph", "tables", "known"]) : OkD P w K mg base 11 "verdict_evidence" F_verdict_evidence ["graph", "tables", "variable", "value"] := by
  refine OkD.mk F hm (FunD.bindsN F fun _ _ _ _ _ _ us hl => match us, hl with | [_, _, _, _], _ => rfl) sc_verdict_evidence rfl rfl fun cd A outer s H E hr => ?_
  have tk := takes_cx (P := P) (w := w) (K := K) (mg := mg) (base := base) (N := ["graph", "tables", "variable", "value", "own", "others", "word", "trees", "other"]) (qual := "verdict_evidence") (scope := defScope (top 41)) (f := f) (cd := cd) (A := A) (outer := outer) (s := s) (H := H) (E := E)
  exact (ss_cons (s_expr (x_call o_check_question (hr.mono (by omega)) tk (a_cons (x_var 0) (a_cons (x_var 1) (a_cons (x_var 2) (a_cons (x_var 3) a_nil))))))
  (ss_cons (s_put (x_call o_told_by (hr.mono (by omega)) tk (a_cons (x_var 0) (a_cons (x_var 1) (a_cons (x_var 2) (a_cons (x_var 3) a_nil))))) (g_tup rfl (g_cons (g_name sc_verdict_evidence.nd rfl (by first | exact Or.inl rfl | exact Or.inr rfl)) (g_cons (g_name sc_verdict_evidence.nd rfl (by first | exact Or.inl rfl | exact Or.inr rfl)) g_nil))))
  (ss_cons (s_set sc_verdict_evidence.nd rfl (by first | exact Or.inl rfl | exact Or.inr rfl) (x_call o_word_of (hr.mono (by omega)) tk (a_cons (x_var 4) (a_cons (x_var 5) a_nil))))
  (ss_cons (s_if (b_cmp (op_eqD hr.units) eqM_ok (x_var 6) x_str) (ss_one (s_ret (x_tup (a_cons (x_var 6) (a_cons (x_ix (x_var 4) x_int) (a_cons (x_ix (x_var 5) x_int) a_nil)))))) ss_nil)
  (ss_cons (s_if (b_cmp (op_eqD hr.units) eqM_ok (x_var 6) x_str) (ss_one (s_ret (x_tup (a_cons (x_var 6) (a_cons (x_call o_tree_for (hr.mono (by omega)) tk (a_cons (x_var 0) (a_cons (x_var 1) (a_cons (x_disp (ps := [((eVar 2), (eVar 3))]) (pps_cons (x_var 2) (x_var 3) pps_nil)) a_nil)))) a_nil))))) ss_nil)
  (ss_cons (s_setLc (own := [("other", 8)]) lcFin_ok rfl rfl sc_verdict_evidence.nd rfl rfl (sw_true rfl rfl rfl (by decide +kernel)) (i_rg1 G.n_range (x_ix (x_var 0) x_int)) (blkOk_by (by kernel_rfl)) (fun _ _ _ _ _ => (g_name sc_verdict_evidence.nd rfl (by first | exact Or.inl rfl | exact Or.inr rfl))) (fun _ _ _ _ _ => (ts_one (b_cmp (op_neD hr.units) neM_ok (x_var 8) (x_var 3)))) (fun _ _ _ _ _ => (x_call o_tree_for (hr.mono (by omega)) takes0 (a_cons (x_var 0) (a_cons (x_var 1) (a_cons (x_disp (ps := [((eVar 2), (eVar 8))]) (pps_cons (x_var 2) (x_var 8) pps_nil)) a_nil))))))
  (ss_one (s_ret (x_tup (a_cons (x_var 6) (a_cons (x_ix (x_var 4) x_int) (a_cons (x_callTy call_tuple_of tupleM_ok G.n_tuple rfl (a_cons (x_var 7) a_nil)) a_nil))))))))))))
def C1_is_solution : EX W := eDc (iZp (eUn (eVar 3)) (eVar 2)) (.t [(.n 5), (.n 6)]) bYes (eVar 5) (eVar 6) [5, 6]
def C2_is_solution : EX W := eLc lcFin (iRg1 (eCB lenM (aCons (eOp2 idxM (eVar 0) (eC (.int 1))) aNil))) (.n 7) bYes (eCall 4 F_rejects (aCons (eVar 0) (aCons (eVar 1) (aCons (eVar 7) (aCons (eVar 4) aNil))))) [7]
theorem sc_is_solution : FnScope ["graph", "tables", "value", "some", "known", "variable", "one", "node"] ["graph", "tables", "value"] (defScope (top 42)) := ⟨rfl, rfl, rfl, by decide +kernel, rfl, by decide +kernel, by decide +kernel⟩
def m_is_solution : SX := (sSeq (sSet 3 (eCall 1 F_variables_of (aCons (eVar 0) aNil)))
  (sSeq (sIf (bNot (bTru (eCall 3 F_is_row_of (aCons (eOp2 idxM (eVar 0) (eC (.int 0))) (aCons (eVar 2) (aCons (eCB lenM (aCons (eUn (eVar 3)) aNil)) aNil)))))) (sRet (eC (.bool false))) sSkip)
  (sSeq (sSet 4 C1_is_solution)
  (sRet (eNot (eCB (allM false) (aCons C2_is_solution aNil)))))))
def F_is_solution : FF := mkFn true 3 8 m_is_solution
theorem ok_is_solution (G : Globs mg) (F : FnP K "is_solution" (top 42) f fd) (hm : mg "is_solution" = some (.ref f)) (o_variables_of : OkD P w K mg base 2 "variables_of" F_variables_of ["graph"]) (o_is_row_of : OkD P w K mg base 2 "is_row_of" F_is_row_of ["values", "value", "many"]) (o_rejects : OkD P w K mg base 1 "rejects" F_rejects ["graph", "tables", "node", "known"]) : OkD P w K mg base 3 "is_solution" F_is_solution ["graph", "tables", "value"] := by
  refine OkD.mk F hm (FunD.bindsN F fun _ _ _ _ _ _ us hl => match us, hl with | [_, _, _], _ => rfl) sc_is_solution rfl rfl fun cd A outer s H E hr => ?_
  have tk := takes_cx (P := P) (w := w) (K := K) (mg := mg) (base := base) (N := ["graph", "tables", "value", "some", "known", "variable", "one", "node"]) (qual := "is_solution") (scope := defScope (top 42)) (f := f) (cd := cd) (A := A) (outer := outer) (s := s) (H := H) (E := E)
  exact (ss_cons (s_set sc_is_solution.nd rfl (by first | exact Or.inl rfl | exact Or.inr rfl) (x_call o_variables_of (hr.mono (by omega)) tk (a_cons (x_var 0) a_nil)))
  (ss_cons (s_if (b_not (b_tru (x_call o_is_row_of (hr.mono (by omega)) tk (a_cons (x_ix (x_var 0) x_int) (a_cons (x_var 2) (a_cons (x_callB call_len lenM_ok G.n_len rfl (a_cons (x_un (x_var 3)) a_nil)) a_nil)))))) (ss_one (s_ret x_bl)) ss_nil)
  (ss_cons (s_set sc_is_solution.nd rfl (by first | exact Or.inl rfl | exact Or.inr rfl) (x_dc (own := [("variable", 5), ("one", 6)]) rfl rfl sc_is_solution.nd (i_zip G.n_zip (x_un (x_var 3)) (x_var 2)) (blkOk_by (by kernel_rfl)) (fun _ _ _ _ _ => (g_tup rfl (g_cons (g_name sc_is_solution.nd rfl (by first | exact Or.inl rfl | exact Or.inr rfl)) (g_cons (g_name sc_is_solution.nd rfl (by first | exact Or.inl rfl | exact Or.inr rfl)) g_nil)))) (fun _ _ _ _ _ => ts_nil) (fun _ _ _ _ _ => (x_var 5)) (fun _ _ _ _ _ => (x_var 6))))
  (ss_one (s_ret (x_not (x_callB (cr_any rfl) anyM_ok G.n_any rfl (a_cons (x_lc (own := [("node", 7)]) lcFin_ok rfl rfl sc_is_solution.nd (i_rg1 G.n_range (x_callB call_len lenM_ok G.n_len rfl (a_cons (x_ix (x_var 0) x_int) a_nil))) (blkOk_by (by kernel_rfl)) (fun _ _ _ _ _ => (g_name sc_is_solution.nd rfl (by first | exact Or.inl rfl | exact Or.inr rfl))) (fun _ _ _ _ _ => ts_nil) (fun _ _ _ _ _ => (x_call o_rejects (hr.mono (by omega)) takes0 (a_cons (x_var 0) (a_cons (x_var 1) (a_cons (x_var 7) (a_cons (x_var 4) a_nil))))))) a_nil))))))))
def C1_is_tree (F_self : FF) : EX W := eLc lcFin (iEnT (eOp2 idxM (eVar 3) (eC (.int 2)))) (.t [(.n 4), (.n 5)]) bYes (eCall 4 F_self (aCons (eVar 0) (aCons (eVar 1) (aCons (eCall 3 F_with_value (aCons (eVar 2) (aCons (eOp2 idxM (eVar 3) (eC (.int 1))) (aCons (eVar 4) aNil)))) (aCons (eVar 5) aNil))))) [4, 5]
theorem sc_is_tree : FnScope ["graph", "tables", "known", "value", "one", "tree"] ["graph", "tables", "known", "value"] (defScope (top 43)) := ⟨rfl, rfl, rfl, by decide +kernel, rfl, by decide +kernel, by decide +kernel⟩
def m_is_tree (F_self : FF) : SX := (sSeq (sIf (bOr (bNot (bTru (eOp1 (isiM "tuple") (eVar 3)))) (bOr (bNot (bVal (eChain leM leM (eC (.int 2)) (eCB lenM (aCons (eVar 3) aNil)) (eC (.int 3))))) (bNot (bTru (eOp1 (isiM "str") (eOp2 idxM (eVar 3) (eC (.int 0)))))))) (sRet (eC (.bool false))) sSkip)
  (sSeq (sIf (bVal (eOp2 (eqM false) (eCB lenM (aCons (eVar 3) aNil)) (eC (.int 2)))) (sSeq (sIf (bOr (bVal (eOp2 (eqM true) (eOp2 idxM (eVar 3) (eC (.int 0))) (eC (.str "no")))) (bNot (bTru (eCall 3 F_is_whole (aCons (eOp2 idxM (eVar 3) (eC (.int 1))) (aCons (eC (.int 0)) (aCons (eOp2 subM (eCB lenM (aCons (eOp2 idxM (eVar 0) (eC (.int 1))) aNil)) (eC (.int 1))) aNil))))))) (sRet (eC (.bool false))) sSkip)
  (sRet (eCall 4 F_rejects (aCons (eVar 0) (aCons (eVar 1) (aCons (eOp2 idxM (eVar 3) (eC (.int 1))) (aCons (eVar 2) aNil))))))) sSkip)
  (sSeq (sIf (bOr (bVal (eOp2 (eqM true) (eOp2 idxM (eVar 3) (eC (.int 0))) (eC (.str "by")))) (bOr (bNot (bTru (eCall 3 F_is_whole (aCons (eOp2 idxM (eVar 3) (eC (.int 1))) (aCons (eC (.int 0)) (aCons (eC (.int 5)) aNil)))))) (bOr (bVal (eDIn false (eOp2 idxM (eVar 3) (eC (.int 1))) (eVar 2))) (bVal (eOp2 (inM true) (eOp2 idxM (eVar 3) (eC (.int 1))) (eUn (eCall 1 F_variables_of (aCons (eVar 0) aNil)))))))) (sRet (eC (.bool false))) sSkip)
  (sSeq (sIf (bOr (bNot (bTru (eOp1 (isiM "tuple") (eOp2 idxM (eVar 3) (eC (.int 2)))))) (bVal (eOp2 (eqM true) (eCB lenM (aCons (eOp2 idxM (eVar 3) (eC (.int 2))) aNil)) (eOp2 idxM (eVar 0) (eC (.int 0)))))) (sRet (eC (.bool false))) sSkip)
  (sRet (eCB (allM true) (aCons (C1_is_tree F_self) aNil)))))))
def F_is_tree : Nat → FF
  | 0 => fun _ _ => .stuck
  | n + 1 => mkFn true 4 6 (m_is_tree (F_is_tree n))
theorem ok_is_tree (G : Globs mg) (F : FnP K "is_tree" (top 43) f fd) (hm : mg "is_tree" = some (.ref f)) (o_is_whole : OkD P w K mg base 1 "is_whole" F_is_whole ["value", "low", "high"]) (o_rejects : OkD P w K mg base 1 "rejects" F_rejects ["graph", "tables", "node", "known"]) (o_variables_of : OkD P w K mg base 2 "variables_of" F_variables_of ["graph"]) (o_with_value : OkD P w K mg base 1 "with_value" F_with_value ["known", "variable", "value"]) : ∀ n, OkD P w K mg base (n + 3) "is_tree" (F_is_tree n) ["graph", "tables", "known", "value"]
  | 0 => OkD.zero F hm (FunD.bindsN F fun _ _ _ _ _ _ us hl => match us, hl with | [_, _, _, _], _ => rfl) sc_is_tree
  | n + 1 => by
    have o_is_tree := ok_is_tree G F hm o_is_whole o_rejects o_variables_of o_with_value n
    refine OkD.mk (k := n + 3) F hm (FunD.bindsN F fun _ _ _ _ _ _ us hl => match us, hl with | [_, _, _, _], _ => rfl) sc_is_tree rfl rfl fun cd A outer s H E hr => ?_
    have tk := takes_cx (P := P) (w := w) (K := K) (mg := mg) (base := base) (N := ["graph", "tables", "known", "value", "one", "tree"]) (qual := "is_tree") (scope := defScope (top 43)) (f := f) (cd := cd) (A := A) (outer := outer) (s := s) (H := H) (E := E)
    exact (ss_cons (s_if (PW.pt (b_or (b_not (b_tru (x_isi (by decide) G.n_isinstance G.n_tuple rfl (x_var 3)))) (b_or (b_not (b_chain op_le leM_ok intM_quiet op_le leM_ok x_int (x_callB call_len lenM_ok G.n_len rfl (a_cons (x_var 3) a_nil)) x_int)) (b_or1 (b_not (b_tru (x_isi (by decide) G.n_isinstance G.n_str rfl (x_ix (x_var 3) x_int)))))))) (ss_one (s_ret x_bl)) ss_nil)
  (ss_cons (s_if (b_cmp (op_eqD hr.units) eqM_ok (x_callB call_len lenM_ok G.n_len rfl (a_cons (x_var 3) a_nil)) x_int) (ss_cons (s_if (PW.pt (b_or (b_cmp (op_neD hr.units) neM_ok (x_ix (x_var 3) x_int) x_str) (b_or1 (b_not (b_tru (x_call o_is_whole (hr.mono (by omega)) tk (a_cons (x_ix (x_var 3) x_int) (a_cons x_int (a_cons (x_op op_sub subM_ok (x_callB call_len lenM_ok G.n_len rfl (a_cons (x_ix (x_var 0) x_int) a_nil)) x_int) a_nil))))))))) (ss_one (s_ret x_bl)) ss_nil)
  (ss_one (s_ret (x_call o_rejects (hr.mono (by omega)) tk (a_cons (x_var 0) (a_cons (x_var 1) (a_cons (x_ix (x_var 3) x_int) (a_cons (x_var 2) a_nil)))))))) ss_nil)
  (ss_cons (s_if (PW.pt (b_or (b_cmp (op_neD hr.units) neM_ok (x_ix (x_var 3) x_int) x_str) (b_or (b_not (b_tru (x_call o_is_whole (hr.mono (by omega)) tk (a_cons (x_ix (x_var 3) x_int) (a_cons x_int (a_cons x_int a_nil)))))) (b_or (b_din (u1 hr) (x_ix (x_var 3) x_int) (x_var 2)) (b_or1 (b_cmp (op_notInAll (u65 hr)) notInM_ok (x_ix (x_var 3) x_int) (x_un (x_call o_variables_of (hr.mono (by omega)) tk (a_cons (x_var 0) a_nil))))))))) (ss_one (s_ret x_bl)) ss_nil)
  (ss_cons (s_if (PW.pt (b_or (b_not (b_tru (x_isi (by decide) G.n_isinstance G.n_tuple rfl (x_ix (x_var 3) x_int)))) (b_or1 (b_cmp (op_neD hr.units) neM_ok (x_callB call_len lenM_ok G.n_len rfl (a_cons (x_ix (x_var 3) x_int) a_nil)) (x_ix (x_var 0) x_int))))) (ss_one (s_ret x_bl)) ss_nil)
  (ss_one (s_ret (x_callB (cr_all rfl) allM_ok G.n_all rfl (a_cons (x_lc (own := [("one", 4), ("tree", 5)]) lcFin_ok rfl rfl sc_is_tree.nd (i_enumT G.n_enumerate (x_ix (x_var 3) x_int)) (blkOk_by (by kernel_rfl)) (fun _ _ _ _ _ => (g_tup rfl (g_cons (g_name sc_is_tree.nd rfl (by first | exact Or.inl rfl | exact Or.inr rfl)) (g_cons (g_name sc_is_tree.nd rfl (by first | exact Or.inl rfl | exact Or.inr rfl)) g_nil)))) (fun _ _ _ _ _ => ts_nil) (fun _ _ _ _ _ => (x_call o_is_tree (hr.mono (by omega)) takes0 (a_cons (x_var 0) (a_cons (x_var 1) (a_cons (x_call o_with_value (hr.mono (by omega)) takes0 (a_cons (x_var 2) (a_cons (x_ix (x_var 3) x_int) (a_cons (x_var 4) a_nil)))) (a_cons (x_var 5) a_nil))))))) a_nil))))))))
theorem sc_has_value : FnScope ["graph", "row", "variable", "value"] ["graph", "row", "variable", "value"] (defScope (top 44)) := ⟨rfl, rfl, rfl, by decide +kernel, rfl, by decide +kernel, by decide +kernel⟩
def m_has_value : SX := (sRet (eOp2 (eqM false) (eOp2 idxM (eVar 1) (eTix (eCall 1 F_variables_of (aCons (eVar 0) aNil)) (eVar 2))) (eVar 3)))
def F_has_value : FF := mkFn true 4 4 m_has_value
theorem ok_has_value (G : Globs mg) (F : FnP K "has_value" (top 44) f fd) (hm : mg "has_value" = some (.ref f)) (o_variables_of : OkD P w K mg base 2 "variables_of" F_variables_of ["graph"]) : OkD P w K mg base 3 "has_value" F_has_value ["graph", "row", "variable", "value"] := by
  refine OkD.mk F hm (FunD.bindsN F fun _ _ _ _ _ _ us hl => match us, hl with | [_, _, _, _], _ => rfl) sc_has_value rfl rfl fun cd A outer s H E hr => ?_
  have tk := takes_cx (P := P) (w := w) (K := K) (mg := mg) (base := base) (N := ["graph", "row", "variable", "value"]) (qual := "has_value") (scope := defScope (top 44)) (f := f) (cd := cd) (A := A) (outer := outer) (s := s) (H := H) (E := E)
  exact (ss_one (s_ret (x_cmp (op_eqD hr.units) eqM_ok (x_ix (x_var 1) (x_tix (u65 hr) (x_call o_variables_of (hr.mono (by omega)) tk (a_cons (x_var 0) a_nil)) (x_var 2))) (x_var 3))))
def C1_accepts_verdict : EX W := eLc lcFin (iRg1 (eOp2 idxM (eVar 0) (eC (.int 0)))) (.n 6) (bVal (eOp2 (eqM true) (eVar 6) (eVar 3))) (eVar 6) [6]
def C2_accepts_verdict : EX W := eLc lcFin (iZpM (eVar 5) (eOp2 idxM (eVar 4) (eC (.int 2)))) (.t [(.n 6), (.n 7)]) bYes (eCall 4 (F_is_tree 7) (aCons (eVar 0) (aCons (eVar 1) (aCons (eDisp [((eVar 2), (eVar 6))]) (aCons (eVar 7) aNil))))) [6, 7]
theorem sc_accepts_verdict : FnScope ["graph", "tables", "variable", "value", "evidence", "others", "other", "tree"] ["graph", "tables", "variable", "value", "evidence"] (defScope (top 45)) := ⟨rfl, rfl, rfl, by decide +kernel, rfl, by decide +kernel, by decide +kernel⟩
def m_accepts_verdict : SX := (sSeq (sExpr (eCall 4 F_check_question (aCons (eVar 0) (aCons (eVar 1) (aCons (eVar 2) (aCons (eVar 3) aNil))))))
  (sSeq (sIf (bOr (bNot (bTru (eOp1 (isiM "tuple") (eVar 4)))) (bOr (bNot (bVal (eChain leM leM (eC (.int 2)) (eCB lenM (aCons (eVar 4) aNil)) (eC (.int 3))))) (bNot (bTru (eOp1 (isiM "str") (eOp2 idxM (eVar 4) (eC (.int 0)))))))) (sRet (eC (.bool false))) sSkip)
  (sSeq (sIf (bVal (eOp2 (eqM false) (eCB lenM (aCons (eVar 4) aNil)) (eC (.int 2)))) (sRet (eAnd (eOp2 (eqM false) (eOp2 idxM (eVar 4) (eC (.int 0))) (eC (.str "never"))) (eCall 4 (F_is_tree 7) (aCons (eVar 0) (aCons (eVar 1) (aCons (eDisp [((eVar 2), (eVar 3))]) (aCons (eOp2 idxM (eVar 4) (eC (.int 1))) aNil))))))) sSkip)
  (sSeq (sIf (bOr (bVal (eOp2 (inM true) (eOp2 idxM (eVar 4) (eC (.int 0))) (eTup (aCons (eC (.str "always")) (aCons (eC (.str "sometimes")) aNil))))) (bNot (bTru (eCall 3 F_is_solution (aCons (eVar 0) (aCons (eVar 1) (aCons (eOp2 idxM (eVar 4) (eC (.int 1))) aNil))))))) (sRet (eC (.bool false))) sSkip)
  (sSeq (sIf (bNot (bTru (eCall 4 F_has_value (aCons (eVar 0) (aCons (eOp2 idxM (eVar 4) (eC (.int 1))) (aCons (eVar 2) (aCons (eVar 3) aNil))))))) (sRet (eC (.bool false))) sSkip)
  (sSeq (sIf (bVal (eOp2 (eqM false) (eOp2 idxM (eVar 4) (eC (.int 0))) (eC (.str "sometimes")))) (sRet (eAnd (eCall 3 F_is_solution (aCons (eVar 0) (aCons (eVar 1) (aCons (eOp2 idxM (eVar 4) (eC (.int 2))) aNil)))) (eNot (eCall 4 F_has_value (aCons (eVar 0) (aCons (eOp2 idxM (eVar 4) (eC (.int 2))) (aCons (eVar 2) (aCons (eVar 3) aNil)))))))) sSkip)
  (sSeq (sSet 5 C1_accepts_verdict)
  (sSeq (sIf (bOr (bNot (bTru (eOp1 (isiM "tuple") (eOp2 idxM (eVar 4) (eC (.int 2)))))) (bVal (eOp2 (eqM true) (eCB lenM (aCons (eOp2 idxM (eVar 4) (eC (.int 2))) aNil)) (eCB lenM (aCons (eVar 5) aNil))))) (sRet (eC (.bool false))) sSkip)
  (sRet (eCB (allM true) (aCons C2_accepts_verdict aNil)))))))))))
def F_accepts_verdict : FF := mkFn true 5 8 m_accepts_verdict
theorem ok_accepts_verdict (G : Globs mg) (F : FnP K "accepts_verdict" (top 45) f fd) (hm : mg "accepts_verdict" = some (.ref f)) (o_check_question : OkD P w K mg base 8 "check_question" F_check_question ["graph", "tables", "variable", "value"]) (o_is_tree : OkD P w K mg base 10 "is_tree" (F_is_tree 7) ["graph", "tables", "known", "value"]) (o_is_solution : OkD P w K mg base 3 "is_solution" F_is_solution ["graph", "tables", "value"]) (o_has_value : OkD P w K mg base 3 "has_value" F_has_value ["graph", "row", "variable", "value"]) : OkD P w K mg base 11 "accepts_verdict" F_accepts_verdict ["graph", "tables", "variable", "value", "evidence"] := by
  refine OkD.mk F hm (FunD.bindsN F fun _ _ _ _ _ _ us hl => match us, hl with | [_, _, _, _, _], _ => rfl) sc_accepts_verdict rfl rfl fun cd A outer s H E hr => ?_
  have tk := takes_cx (P := P) (w := w) (K := K) (mg := mg) (base := base) (N := ["graph", "tables", "variable", "value", "evidence", "others", "other", "tree"]) (qual := "accepts_verdict") (scope := defScope (top 45)) (f := f) (cd := cd) (A := A) (outer := outer) (s := s) (H := H) (E := E)
  exact (ss_cons (s_expr (x_call o_check_question (hr.mono (by omega)) tk (a_cons (x_var 0) (a_cons (x_var 1) (a_cons (x_var 2) (a_cons (x_var 3) a_nil))))))
  (ss_cons (s_if (PW.pt (b_or (b_not (b_tru (x_isi (by decide) G.n_isinstance G.n_tuple rfl (x_var 4)))) (b_or (b_not (b_chain op_le leM_ok intM_quiet op_le leM_ok x_int (x_callB call_len lenM_ok G.n_len rfl (a_cons (x_var 4) a_nil)) x_int)) (b_or1 (b_not (b_tru (x_isi (by decide) G.n_isinstance G.n_str rfl (x_ix (x_var 4) x_int)))))))) (ss_one (s_ret x_bl)) ss_nil)
  (ss_cons (s_if (b_cmp (op_eqD hr.units) eqM_ok (x_callB call_len lenM_ok G.n_len rfl (a_cons (x_var 4) a_nil)) x_int) (ss_one (s_ret (x_and (x_cmp (op_eqD hr.units) eqM_ok (x_ix (x_var 4) x_int) x_str) (x_one (x_call o_is_tree (hr.mono (by omega)) tk (a_cons (x_var 0) (a_cons (x_var 1) (a_cons (x_disp (ps := [((eVar 2), (eVar 3))]) (pps_cons (x_var 2) (x_var 3) pps_nil)) (a_cons (x_ix (x_var 4) x_int) a_nil))))))))) ss_nil)
  (ss_cons (s_if (PW.pt (b_or (b_cmp (op_notInAll (u65 hr)) notInM_ok (x_ix (x_var 4) x_int) (x_tup (a_cons x_str (a_cons x_str a_nil)))) (b_or1 (b_not (b_tru (x_call o_is_solution (hr.mono (by omega)) tk (a_cons (x_var 0) (a_cons (x_var 1) (a_cons (x_ix (x_var 4) x_int) a_nil))))))))) (ss_one (s_ret x_bl)) ss_nil)
  (ss_cons (s_if (b_not (b_tru (x_call o_has_value (hr.mono (by omega)) tk (a_cons (x_var 0) (a_cons (x_ix (x_var 4) x_int) (a_cons (x_var 2) (a_cons (x_var 3) a_nil))))))) (ss_one (s_ret x_bl)) ss_nil)
  (ss_cons (s_if (b_cmp (op_eqD hr.units) eqM_ok (x_ix (x_var 4) x_int) x_str) (ss_one (s_ret (x_and (x_call o_is_solution (hr.mono (by omega)) tk (a_cons (x_var 0) (a_cons (x_var 1) (a_cons (x_ix (x_var 4) x_int) a_nil)))) (x_one (x_not (x_call o_has_value (hr.mono (by omega)) tk (a_cons (x_var 0) (a_cons (x_ix (x_var 4) x_int) (a_cons (x_var 2) (a_cons (x_var 3) a_nil)))))))))) ss_nil)
  (ss_cons (s_setLc (own := [("other", 6)]) lcFin_ok rfl rfl sc_accepts_verdict.nd rfl rfl (sw_true rfl rfl rfl (by decide +kernel)) (i_rg1 G.n_range (x_ix (x_var 0) x_int)) (blkOk_by (by kernel_rfl)) (fun _ _ _ _ _ => (g_name sc_accepts_verdict.nd rfl (by first | exact Or.inl rfl | exact Or.inr rfl))) (fun _ _ _ _ _ => (ts_one (b_cmp (op_neD hr.units) neM_ok (x_var 6) (x_var 3)))) (fun _ _ _ _ _ => (x_var 6)))
  (ss_cons (s_if (PW.pt (b_or (b_not (b_tru (x_isi (by decide) G.n_isinstance G.n_tuple rfl (x_ix (x_var 4) x_int)))) (b_or1 (b_cmp (op_neD hr.units) neM_ok (x_callB call_len lenM_ok G.n_len rfl (a_cons (x_ix (x_var 4) x_int) a_nil)) (x_callB call_len lenM_ok G.n_len rfl (a_cons (x_var 5) a_nil)))))) (ss_one (s_ret x_bl)) ss_nil)
  (ss_one (s_ret (x_callB (cr_all rfl) allM_ok G.n_all rfl (a_cons (x_lc (own := [("other", 6), ("tree", 7)]) lcFin_ok rfl rfl sc_accepts_verdict.nd (i_zipM G.n_zip (x_var 5) (x_ix (x_var 4) x_int)) (blkOk_by (by kernel_rfl)) (fun _ _ _ _ _ => (g_tup rfl (g_cons (g_name sc_accepts_verdict.nd rfl (by first | exact Or.inl rfl | exact Or.inr rfl)) (g_cons (g_name sc_accepts_verdict.nd rfl (by first | exact Or.inl rfl | exact Or.inr rfl)) g_nil)))) (fun _ _ _ _ _ => ts_nil) (fun _ _ _ _ _ => (x_call o_is_tree (hr.mono (by omega)) takes0 (a_cons (x_var 0) (a_cons (x_var 1) (a_cons (x_disp (ps := [((eVar 2), (eVar 6))]) (pps_cons (x_var 2) (x_var 6) pps_nil)) (a_cons (x_var 7) a_nil))))))) a_nil))))))))))))
theorem sc__law_stream : FnScope ["_law_script"] ["_law_script"] (defScope (top 47)) := ⟨rfl, rfl, rfl, by decide +kernel, rfl, by decide +kernel, by decide +kernel⟩
def m__law_stream : SX := (sRet (eLstL (aCons (eCB listM (aCons (eVar 0) aNil)) (aCons (eC (.int 0)) (aCons (eC (.int 0)) aNil)))))
def F__law_stream : FF := mkFn false 1 1 m__law_stream
theorem ok__law_stream (G : Globs mg) (F : FnP K "_law_stream" (top 47) f fd) (hm : mg "_law_stream" = some (.ref f))  : OkD P w K mg base 1 "_law_stream" F__law_stream ["_law_script"] := by
  refine OkD.mk F hm (FunD.bindsN F fun _ _ _ _ _ _ us hl => match us, hl with | [_], _ => rfl) sc__law_stream rfl rfl fun cd A outer s H E hr => ?_
  have tk := takes_cx (P := P) (w := w) (K := K) (mg := mg) (base := base) (N := ["_law_script"]) (qual := "_law_stream") (scope := defScope (top 47)) (f := f) (cd := cd) (A := A) (outer := outer) (s := s) (H := H) (E := E)
  exact (ss_one (s_ret (x_lstL (a_cons (x_callTy call_list_of listM_ok G.n_list rfl (a_cons (x_var 0) a_nil)) (a_cons x_int (a_cons x_int a_nil))))))
theorem sc__law_next : FnScope ["_law_stream_here", "_law_many", "_law_k", "_law_cell", "_law_digit"] ["_law_stream_here", "_law_many"] (defScope (top 48)) := ⟨rfl, rfl, rfl, by decide +kernel, rfl, by decide +kernel, by decide +kernel⟩
def m__law_next : SX := (sSeq (sIf (bVal (eOp2 (eqM false) (eOp2 idxM (eVar 0) (eC (.int 1))) (eC (.int 0)))) (sSeq (sSet 2 (eOp2 idxM (eVar 0) (eC (.int 2))))
  (sSeq (sSet 3 (eOp2 addM (eC (.int 7)) (eVar 2)))
  (sSeq (sIf (bVal (eOp2 ltM (eVar 2) (eCB lenM (aCons (eOp2 idxM (eVar 0) (eC (.int 0))) aNil)))) (sSet 3 (eCB absM (aCons (eOp2 idxM (eOp2 idxM (eVar 0) (eC (.int 0))) (eVar 2)) aNil))) sSkip)
  (sSeq (sIf (bVal (eOp2 ltM (eVar 3) (eOp2 powM (eC (.int 10)) (eC (.int 18))))) (sSeq (sSet 3 (eOp2 modM (eCB intM1 (aCons (eOp2 addM (eOp2 addM (eOp2 mulI (eVar 3) (eC (.int 48271))) (eOp2 mulI (eVar 2) (eC (.int 69621)))) (eC (.int 11))) aNil)) (eC (.int 2147483647))))
  (sSet 3 (eOp2 addM (eOp2 mulI (eOp2 modM (eCB intM1 (aCons (eOp2 addM (eOp2 mulI (eVar 3) (eC (.int 16807))) (eC (.int 13))) aNil)) (eC (.int 2147483647))) (eC (.int 65537))) (eVar 3)))) sSkip)
  (sSeq (sSetIx (eVar 0) (eC (.int 1)) (eVar 3))
  (sSetIx (eVar 0) (eC (.int 2)) (eOp2 addM (eVar 2) (eC (.int 1))))))))) sSkip)
  (sSeq (sSet 4 (eOp2 modM (eCB intM1 (aCons (eOp2 idxM (eVar 0) (eC (.int 1))) aNil)) (eVar 1)))
  (sSeq (sSetIx (eVar 0) (eC (.int 1)) (eOp2 divM (eOp2 idxM (eVar 0) (eC (.int 1))) (eVar 1)))
  (sRet (eVar 4)))))
def F__law_next : FF := mkFn true 2 5 m__law_next
theorem ok__law_next (G : Globs mg) (F : FnP K "_law_next" (top 48) f fd) (hm : mg "_law_next" = some (.ref f))  : OkD P w K mg base 1 "_law_next" F__law_next ["_law_stream_here", "_law_many"] := by
  refine OkD.mk F hm (FunD.bindsN F fun _ _ _ _ _ _ us hl => match us, hl with | [_, _], _ => rfl) sc__law_next rfl rfl fun cd A outer s H E hr => ?_
  have tk := takes_cx (P := P) (w := w) (K := K) (mg := mg) (base := base) (N := ["_law_stream_here", "_law_many", "_law_k", "_law_cell", "_law_digit"]) (qual := "_law_next") (scope := defScope (top 48)) (f := f) (cd := cd) (A := A) (outer := outer) (s := s) (H := H) (E := E)
  exact (ss_cons (s_if (b_cmp (op_eqD hr.units) eqM_ok (x_ix (x_var 0) x_int) x_int) (ss_cons (s_set sc__law_next.nd rfl (by first | exact Or.inl rfl | exact Or.inr rfl) (x_ix (x_var 0) x_int))
  (ss_cons (s_set sc__law_next.nd rfl (by first | exact Or.inl rfl | exact Or.inr rfl) (x_op op_addAll addM_ok x_int (x_var 2)))
  (ss_cons (s_if (b_cmp (op_ltAll hr.units0) ltM_ok (x_var 2) (x_callB call_len lenM_ok G.n_len rfl (a_cons (x_ix (x_var 0) x_int) a_nil))) (ss_one (s_set sc__law_next.nd rfl (by first | exact Or.inl rfl | exact Or.inr rfl) (x_callB call_abs absM_ok G.n_abs rfl (a_cons (x_ix (x_ix (x_var 0) x_int) (x_var 2)) a_nil)))) ss_nil)
  (ss_cons (s_if (b_cmp (op_ltAll hr.units0) ltM_ok (x_var 3) (x_op op_pow powM_ok x_int x_int)) (ss_cons (s_set sc__law_next.nd rfl (by first | exact Or.inl rfl | exact Or.inr rfl) (x_op op_mod modM_ok (x_callTy call_int1 intM1_ok G.n_int rfl (a_cons (x_op op_addAll addM_ok (x_op op_addAll addM_ok (x_op op_mul mulI_ok (x_var 3) x_int) (x_op op_mul mulI_ok (x_var 2) x_int)) x_int) a_nil)) x_int))
  (ss_one (s_set sc__law_next.nd rfl (by first | exact Or.inl rfl | exact Or.inr rfl) (x_op op_addAll addM_ok (x_op op_mul mulI_ok (x_op op_mod modM_ok (x_callTy call_int1 intM1_ok G.n_int rfl (a_cons (x_op op_addAll addM_ok (x_op op_mul mulI_ok (x_var 3) x_int) x_int) a_nil)) x_int) x_int) (x_var 3))))) ss_nil)
  (ss_cons (s_setIx (x_var 3) (x_var 0) x_int)
  (ss_one (s_setIx (x_op op_addAll addM_ok (x_var 2) x_int) (x_var 0) x_int))))))) ss_nil)
  (ss_cons (s_set sc__law_next.nd rfl (by first | exact Or.inl rfl | exact Or.inr rfl) (x_op op_mod modM_ok (x_callTy call_int1 intM1_ok G.n_int rfl (a_cons (x_ix (x_var 0) x_int) a_nil)) (x_var 1)))
  (ss_cons (s_setIx (x_op op_fdiv divM_ok (x_ix (x_var 0) x_int) (x_var 1)) (x_var 0) x_int)
  (ss_one (s_ret (x_var 4))))))
theorem sc__law_is_integer : FnScope ["_law_actual"] ["_law_actual"] (defScope (top 49)) := ⟨rfl, rfl, rfl, by decide +kernel, rfl, by decide +kernel, by decide +kernel⟩
def m__law_is_integer : SX := (sRet (eAnd (eOp1 (isiM "int") (eVar 0)) (eNot (eOp1 (isiM "bool") (eVar 0)))))
def F__law_is_integer : FF := mkFn true 1 1 m__law_is_integer
theorem ok__law_is_integer (G : Globs mg) (F : FnP K "_law_is_integer" (top 49) f fd) (hm : mg "_law_is_integer" = some (.ref f))  : OkD P w K mg base 1 "_law_is_integer" F__law_is_integer ["_law_actual"] := by
  refine OkD.mk F hm (FunD.bindsN F fun _ _ _ _ _ _ us hl => match us, hl with | [_], _ => rfl) sc__law_is_integer rfl rfl fun cd A outer s H E hr => ?_
  have tk := takes_cx (P := P) (w := w) (K := K) (mg := mg) (base := base) (N := ["_law_actual"]) (qual := "_law_is_integer") (scope := defScope (top 49)) (f := f) (cd := cd) (A := A) (outer := outer) (s := s) (H := H) (E := E)
  exact (ss_one (s_ret (x_and (x_isi (by decide) G.n_isinstance G.n_int rfl (x_var 0)) (x_one (x_not (x_isi (by decide) G.n_isinstance G.n_bool rfl (x_var 0)))))))
def C1__law_equal (F_self : FF) : EX W := eLc lcFin (iRg1 (eCB lenM (aCons (eVar 1) aNil))) (.n 2) bYes (eCall 2 F_self (aCons (eOp2 idxM (eVar 0) (eVar 2)) (aCons (eOp2 idxM (eVar 1) (eVar 2)) aNil))) [2]
theorem sc__law_equal : FnScope ["_law_actual", "_law_due", "_law_at"] ["_law_actual", "_law_due"] (defScope (top 50)) := ⟨rfl, rfl, rfl, by decide +kernel, rfl, by decide +kernel, by decide +kernel⟩
def m__law_equal (F_self : FF) : SX := (sSeq (sIf (bVal (eOp2 (isNoneM false) (eVar 1) (eC .none))) (sRet (eOp2 (isNoneM false) (eVar 0) (eC .none))) sSkip)
  (sSeq (sIf (bTru (eOp1 (isiM "bool") (eVar 1))) (sRet (eAnd (eOp1 (isiM "bool") (eVar 0)) (eOp2 (eqM false) (eVar 0) (eVar 1)))) sSkip)
  (sSeq (sIf (bTru (eOp1 (isiM "int") (eVar 1))) (sRet (eAnd (eCall 1 F__law_is_integer (aCons (eVar 0) aNil)) (eOp2 (eqM false) (eVar 0) (eVar 1)))) sSkip)
  (sSeq (sIf (bTru (eOp1 (isiM "str") (eVar 1))) (sRet (eAnd (eOp1 (isiM "str") (eVar 0)) (eOp2 (eqM false) (eVar 0) (eVar 1)))) sSkip)
  (sSeq (sIf (bAnd (bTru (eOp1 (isiM "tuple") (eVar 1))) (bNot (bTru (eOp1 (isiM "tuple") (eVar 0))))) (sRet (eC (.bool false))) sSkip)
  (sSeq (sIf (bAnd (bTru (eOp1 (isiM "list") (eVar 1))) (bNot (bTru (eOp1 (isiM "list") (eVar 0))))) (sRet (eC (.bool false))) sSkip)
  (sSeq (sIf (bVal (eOp2 (eqM true) (eCB lenM (aCons (eVar 0) aNil)) (eCB lenM (aCons (eVar 1) aNil)))) (sRet (eC (.bool false))) sSkip)
  (sRet (eCB (allM true) (aCons (C1__law_equal F_self) aNil))))))))))
def F__law_equal : Nat → FF
  | 0 => fun _ _ => .stuck
  | n + 1 => mkFn true 2 3 (m__law_equal (F__law_equal n))
theorem ok__law_equal (G : Globs mg) (F : FnP K "_law_equal" (top 50) f fd) (hm : mg "_law_equal" = some (.ref f)) (o__law_is_integer : OkD P w K mg base 1 "_law_is_integer" F__law_is_integer ["_law_actual"]) : ∀ n, OkD P w K mg base (n + 2) "_law_equal" (F__law_equal n) ["_law_actual", "_law_due"]
  | 0 => OkD.zero F hm (FunD.bindsN F fun _ _ _ _ _ _ us hl => match us, hl with | [_, _], _ => rfl) sc__law_equal
  | n + 1 => by
    have o__law_equal := ok__law_equal G F hm o__law_is_integer n
    refine OkD.mk (k := n + 2) F hm (FunD.bindsN F fun _ _ _ _ _ _ us hl => match us, hl with | [_, _], _ => rfl) sc__law_equal rfl rfl fun cd A outer s H E hr => ?_
    have tk := takes_cx (P := P) (w := w) (K := K) (mg := mg) (base := base) (N := ["_law_actual", "_law_due", "_law_at"]) (qual := "_law_equal") (scope := defScope (top 50)) (f := f) (cd := cd) (A := A) (outer := outer) (s := s) (H := H) (E := E)
    exact (ss_cons (s_if (b_cmp op_isN isNoneM_ok (x_var 1) x_non) (ss_one (s_ret (x_cmp op_isN isNoneM_ok (x_var 0) x_non))) ss_nil)
  (ss_cons (s_if (b_tru (x_isi (by decide) G.n_isinstance G.n_bool rfl (x_var 1))) (ss_one (s_ret (x_and (x_isi (by decide) G.n_isinstance G.n_bool rfl (x_var 0)) (x_one (x_cmp (op_eqD hr.units) eqM_ok (x_var 0) (x_var 1)))))) ss_nil)
  (ss_cons (s_if (b_tru (x_isi (by decide) G.n_isinstance G.n_int rfl (x_var 1))) (ss_one (s_ret (x_and (x_call o__law_is_integer (hr.mono (by omega)) tk (a_cons (x_var 0) a_nil)) (x_one (x_cmp (op_eqD hr.units) eqM_ok (x_var 0) (x_var 1)))))) ss_nil)
  (ss_cons (s_if (b_tru (x_isi (by decide) G.n_isinstance G.n_str rfl (x_var 1))) (ss_one (s_ret (x_and (x_isi (by decide) G.n_isinstance G.n_str rfl (x_var 0)) (x_one (x_cmp (op_eqD hr.units) eqM_ok (x_var 0) (x_var 1)))))) ss_nil)
  (ss_cons (s_if (PW.pt (b_and (b_tru (x_isi (by decide) G.n_isinstance G.n_tuple rfl (x_var 1))) (b_and1 (b_not (b_tru (x_isi (by decide) G.n_isinstance G.n_tuple rfl (x_var 0))))))) (ss_one (s_ret x_bl)) ss_nil)
  (ss_cons (s_if (PW.pt (b_and (b_tru (x_isi (by decide) G.n_isinstance G.n_list rfl (x_var 1))) (b_and1 (b_not (b_tru (x_isi (by decide) G.n_isinstance G.n_list rfl (x_var 0))))))) (ss_one (s_ret x_bl)) ss_nil)
  (ss_cons (s_if (b_cmp (op_neD hr.units) neM_ok (x_callB call_len lenM_ok G.n_len rfl (a_cons (x_var 0) a_nil)) (x_callB call_len lenM_ok G.n_len rfl (a_cons (x_var 1) a_nil))) (ss_one (s_ret x_bl)) ss_nil)
  (ss_one (s_ret (x_callB (cr_all rfl) allM_ok G.n_all rfl (a_cons (x_lc (own := [("_law_at", 2)]) lcFin_ok rfl rfl sc__law_equal.nd (i_rg1 G.n_range (x_callB call_len lenM_ok G.n_len rfl (a_cons (x_var 1) a_nil))) (blkOk_by (by kernel_rfl)) (fun _ _ _ _ _ => (g_name sc__law_equal.nd rfl (by first | exact Or.inl rfl | exact Or.inr rfl))) (fun _ _ _ _ _ => ts_nil) (fun _ _ _ _ _ => (x_call o__law_equal (hr.mono (by omega)) takes0 (a_cons (x_ix (x_var 0) (x_var 2)) (a_cons (x_ix (x_var 1) (x_var 2)) a_nil))))) a_nil)))))))))))
theorem sc__law_pick : FnScope ["_law_stream_here", "_law_rows_here"] ["_law_stream_here", "_law_rows_here"] (defScope (top 51)) := ⟨rfl, rfl, rfl, by decide +kernel, rfl, by decide +kernel, by decide +kernel⟩
def m__law_pick : SX := (sRet (eOp2 idxM (eVar 1) (eCall 2 F__law_next (aCons (eVar 0) (aCons (eCB lenM (aCons (eVar 1) aNil)) aNil)))))
def F__law_pick : FF := mkFn true 2 2 m__law_pick
theorem ok__law_pick (G : Globs mg) (F : FnP K "_law_pick" (top 51) f fd) (hm : mg "_law_pick" = some (.ref f)) (o__law_next : OkD P w K mg base 1 "_law_next" F__law_next ["_law_stream_here", "_law_many"]) : OkD P w K mg base 2 "_law_pick" F__law_pick ["_law_stream_here", "_law_rows_here"] := by
  refine OkD.mk F hm (FunD.bindsN F fun _ _ _ _ _ _ us hl => match us, hl with | [_, _], _ => rfl) sc__law_pick rfl rfl fun cd A outer s H E hr => ?_
  have tk := takes_cx (P := P) (w := w) (K := K) (mg := mg) (base := base) (N := ["_law_stream_here", "_law_rows_here"]) (qual := "_law_pick") (scope := defScope (top 51)) (f := f) (cd := cd) (A := A) (outer := outer) (s := s) (H := H) (E := E)
  exact (ss_one (s_ret (x_ix (x_var 1) (x_call o__law_next (hr.mono (by omega)) tk (a_cons (x_var 0) (a_cons (x_callB call_len lenM_ok G.n_len rfl (a_cons (x_var 1) a_nil)) a_nil))))))
def C1__law_rows : EX W := eLc lcFin (iRg1 (eVar 0)) (.n 6) bYes (eOp2 addM (eVar 5) (eTup (aCons (eVar 6) aNil))) [6]
def L1__law_rows : SX := sTidy [5, 6] (sExpr (eLM extendM (eVar 4) (aCons C1__law_rows aNil)))
def L2__law_rows : SX := sTidy [3, 4, 5, 6] (sSeq (sSet 4 (eLstL aNil))
  (sSeq (sFor (iSeq (eVar 2)) (.n 5) L1__law_rows)
  (sSet 2 (eVar 4))))
theorem sc__law_rows : FnScope ["_law_values", "_law_many", "_law_rows_here", "_law_k", "_law_longer", "_law_row", "_law_one"] ["_law_values", "_law_many"] (defScope (top 52)) := ⟨rfl, rfl, rfl, by decide +kernel, rfl, by decide +kernel, by decide +kernel⟩
def m__law_rows : SX := (sSeq (sSet 2 (eLst (aCons (eTup aNil) aNil)))
  (sSeq (sFor (iRg1 (eVar 1)) (.n 3) L2__law_rows)
  (sRet (eVar 2))))
def F__law_rows : FF := mkFn true 2 7 m__law_rows
theorem ok__law_rows (G : Globs mg) (F : FnP K "_law_rows" (top 52) f fd) (hm : mg "_law_rows" = some (.ref f))  : OkD P w K mg base 1 "_law_rows" F__law_rows ["_law_values", "_law_many"] := by
  refine OkD.mk F hm (FunD.bindsN F fun _ _ _ _ _ _ us hl => match us, hl with | [_, _], _ => rfl) sc__law_rows rfl rfl fun cd A outer s H E hr => ?_
  have tk := takes_cx (P := P) (w := w) (K := K) (mg := mg) (base := base) (N := ["_law_values", "_law_many", "_law_rows_here", "_law_k", "_law_longer", "_law_row", "_law_one"]) (qual := "_law_rows") (scope := defScope (top 52)) (f := f) (cd := cd) (A := A) (outer := outer) (s := s) (H := H) (E := E)
  exact (ss_cons (s_set sc__law_rows.nd rfl (by first | exact Or.inl rfl | exact Or.inr rfl) (x_lst (a_cons (x_tup a_nil) a_nil)))
  (ss_cons (s_for owns_cx rfl (i_rg1 G.n_range (x_var 1)) (g_name sc__law_rows.nd rfl (by first | exact Or.inl rfl | exact Or.inr rfl)) (ss_tidy [3, 4, 5, 6] (ss_cons (s_set sc__law_rows.nd rfl (by first | exact Or.inl rfl | exact Or.inr rfl) (x_lstL a_nil))
  (ss_cons (s_for owns_cx rfl (i_seq (x_var 2)) (g_name sc__law_rows.nd rfl (by first | exact Or.inl rfl | exact Or.inr rfl)) (ss_tidy [5, 6] (ss_one (s_expr (x_lm PySem.F.slot_list_extend PySem.F.type_list_extend mt_extend extendM_ok (x_var 4) (a_cons (x_lc (own := [("_law_one", 6)]) lcFin_ok rfl rfl sc__law_rows.nd (i_rg1 G.n_range (x_var 0)) (blkOk_by (by kernel_rfl)) (fun _ _ _ _ _ => (g_name sc__law_rows.nd rfl (by first | exact Or.inl rfl | exact Or.inr rfl))) (fun _ _ _ _ _ => ts_nil) (fun _ _ _ _ _ => (x_op op_addAll addM_ok (x_var 5) (x_tup (a_cons (x_var 6) a_nil))))) a_nil))))))
  (ss_one (s_set sc__law_rows.nd rfl (by first | exact Or.inl rfl | exact Or.inr rfl) (x_var 4)))))))
  (ss_one (s_ret (x_var 2)))))
def C1__law_table : EX W := eLc lcFin (iSeq (eCall 2 F__law_rows (aCons (eVar 1) (aCons (eCB lenM (aCons (eVar 2) aNil)) aNil)))) (.n 4) (bVal (eOp2 ltM (eCall 2 F__law_next (aCons (eVar 0) (aCons (eC (.int 3)) aNil))) (eVar 3))) (eTup (aCons (eVar 4) (aCons (eCall 2 F__law_next (aCons (eVar 0) (aCons (eCall 2 F__law_pick (aCons (eVar 0) (aCons (eLst (aCons (eC (.int 3)) (aCons (eC (.int 101)) aNil))) aNil))) aNil))) aNil))) [4]
theorem sc__law_table : FnScope ["_law_stream_here", "_law_values", "_law_scope", "_law_share", "_law_row"] ["_law_stream_here", "_law_values", "_law_scope"] (defScope (top 53)) := ⟨rfl, rfl, rfl, by decide +kernel, rfl, by decide +kernel, by decide +kernel⟩
def m__law_table : SX := (sSeq (sSet 3 (eCall 2 F__law_pick (aCons (eVar 0) (aCons (eLst (aCons (eC (.int 1)) (aCons (eC (.int 2)) (aCons (eC (.int 2)) (aCons (eC (.int 3)) aNil))))) aNil))))
  (sRet (eCB tupleM (aCons C1__law_table aNil))))
def F__law_table : FF := mkFn true 3 5 m__law_table
theorem ok__law_table (G : Globs mg) (F : FnP K "_law_table" (top 53) f fd) (hm : mg "_law_table" = some (.ref f)) (o__law_pick : OkD P w K mg base 2 "_law_pick" F__law_pick ["_law_stream_here", "_law_rows_here"]) (o__law_rows : OkD P w K mg base 1 "_law_rows" F__law_rows ["_law_values", "_law_many"]) (o__law_next : OkD P w K mg base 1 "_law_next" F__law_next ["_law_stream_here", "_law_many"]) : OkD P w K mg base 3 "_law_table" F__law_table ["_law_stream_here", "_law_values", "_law_scope"] := by
  refine OkD.mk F hm (FunD.bindsN F fun _ _ _ _ _ _ us hl => match us, hl with | [_, _, _], _ => rfl) sc__law_table rfl rfl fun cd A outer s H E hr => ?_
  have tk := takes_cx (P := P) (w := w) (K := K) (mg := mg) (base := base) (N := ["_law_stream_here", "_law_values", "_law_scope", "_law_share", "_law_row"]) (qual := "_law_table") (scope := defScope (top 53)) (f := f) (cd := cd) (A := A) (outer := outer) (s := s) (H := H) (E := E)
  exact (ss_cons (s_set sc__law_table.nd rfl (by first | exact Or.inl rfl | exact Or.inr rfl) (x_call o__law_pick (hr.mono (by omega)) tk (a_cons (x_var 0) (a_cons (x_lst (a_cons x_int (a_cons x_int (a_cons x_int (a_cons x_int a_nil))))) a_nil))))
  (ss_one (s_ret (x_callTy call_tuple_of tupleM_ok G.n_tuple rfl (a_cons (x_lc (own := [("_law_row", 4)]) lcFin_ok rfl rfl sc__law_table.nd (i_seq (x_call o__law_rows (hr.mono (by omega)) tk (a_cons (x_var 1) (a_cons (x_callB call_len lenM_ok G.n_len rfl (a_cons (x_var 2) a_nil)) a_nil)))) (blkOk_by (by kernel_rfl)) (fun _ _ _ _ _ => (g_name sc__law_table.nd rfl (by first | exact Or.inl rfl | exact Or.inr rfl))) (fun _ _ _ _ _ => (ts_one (b_cmp (op_ltAll hr.units0) ltM_ok (x_call o__law_next (hr.mono (by omega)) takes0 (a_cons (x_var 0) (a_cons x_int a_nil))) (x_var 3)))) (fun _ _ _ _ _ => (x_tup (a_cons (x_var 4) (a_cons (x_call o__law_next (hr.mono (by omega)) takes0 (a_cons (x_var 0) (a_cons (x_call o__law_pick (hr.mono (by omega)) takes0 (a_cons (x_var 0) (a_cons (x_lst (a_cons x_int (a_cons x_int a_nil))) a_nil))) a_nil))) a_nil))))) a_nil)))))
def C1__law_part : EX W := eLc lcFin (iRg1 (eCB lenM (aCons (eVar 0) aNil))) (.n 3) (bVal (eOp2 (inM false) (eOp2 idxM (eVar 0) (eVar 3)) (eVar 2))) (eOp2 idxM (eVar 1) (eVar 3)) [3]
theorem sc__law_part : FnScope ["_law_some", "_law_row", "_law_kept", "_law_k"] ["_law_some", "_law_row", "_law_kept"] (defScope (top 54)) := ⟨rfl, rfl, rfl, by decide +kernel, rfl, by decide +kernel, by decide +kernel⟩
def m__law_part : SX := (sRet (eCB tupleM (aCons C1__law_part aNil)))
def F__law_part : FF := mkFn true 3 4 m__law_part
theorem ok__law_part (G : Globs mg) (F : FnP K "_law_part" (top 54) f fd) (hm : mg "_law_part" = some (.ref f))  : OkD P w K mg base 1 "_law_part" F__law_part ["_law_some", "_law_row", "_law_kept"] := by
  refine OkD.mk F hm (FunD.bindsN F fun _ _ _ _ _ _ us hl => match us, hl with | [_, _, _], _ => rfl) sc__law_part rfl rfl fun cd A outer s H E hr => ?_
  have tk := takes_cx (P := P) (w := w) (K := K) (mg := mg) (base := base) (N := ["_law_some", "_law_row", "_law_kept", "_law_k"]) (qual := "_law_part") (scope := defScope (top 54)) (f := f) (cd := cd) (A := A) (outer := outer) (s := s) (H := H) (E := E)
  exact (ss_one (s_ret (x_callTy call_tuple_of tupleM_ok G.n_tuple rfl (a_cons (x_lc (own := [("_law_k", 3)]) lcFin_ok rfl rfl sc__law_part.nd (i_rg1 G.n_range (x_callB call_len lenM_ok G.n_len rfl (a_cons (x_var 0) a_nil))) (blkOk_by (by kernel_rfl)) (fun _ _ _ _ _ => (g_name sc__law_part.nd rfl (by first | exact Or.inl rfl | exact Or.inr rfl))) (fun _ _ _ _ _ => (ts_one (b_cmp (op_inAll (u65 hr)) inM_ok (x_ix (x_var 0) (x_var 3)) (x_var 2)))) (fun _ _ _ _ _ => (x_ix (x_var 1) (x_var 3)))) a_nil))))
def C1__law_graph : EX W := eLc lcFin (iSeq (eVar 4)) (.n 9) (bVal (eOp2 (eqM false) (eCall 2 F__law_next (aCons (eVar 0) (aCons (eC (.int 2)) aNil))) (eC (.int 1)))) (eVar 9) [9]
def L1__law_graph : SX := sTidy [6, 7] (sSeq (sSet 7 C1__law_graph)
  (sExpr (eLM appendM (eVar 5) (aCons (eCB tupleM (aCons (eCut (eVar 7) oNone (oSome (eVar 2))) aNil)) aNil))))
def C2__law_graph : EX W := eLc lcFin (iRg2 (eOp2 addM (eVar 9) (eC (.int 1))) (eCB lenM (aCons (eVar 5) aNil))) (.n 10) (bVal (eOp2 (eqM false) (eCall 2 F__law_next (aCons (eVar 0) (aCons (eC (.int 2)) aNil))) (eC (.int 1)))) (eTup (aCons (eVar 9) (aCons (eVar 10) aNil))) [10]
def L2__law_graph : SX := sTidy [10] (sExpr (eLM extendM (eVar 8) (aCons C2__law_graph aNil)))
theorem sc__law_graph : FnScope ["_law_stream_here", "_law_nodes", "_law_widest", "_law_values", "_law_pool", "_law_scopes", "_law_node", "_law_scope", "_law_pairs", "_law_one", "_law_other"] ["_law_stream_here", "_law_nodes", "_law_widest"] (defScope (top 55)) := ⟨rfl, rfl, rfl, by decide +kernel, rfl, by decide +kernel, by decide +kernel⟩
def m__law_graph : SX := (sSeq (sSet 3 (eOp2 addM (eC (.int 2)) (eCB intM1 (aCons (eOp2 (eqM false) (eCall 2 F__law_next (aCons (eVar 0) (aCons (eC (.int 4)) aNil))) (eC (.int 0))) aNil))))
  (sSeq (sSet 4 (eCall 2 F__law_pick (aCons (eVar 0) (aCons (eLst (aCons (eTup (aCons (eC (.int 0)) (aCons (eC (.int 1)) aNil))) (aCons (eTup (aCons (eC (.int 0)) (aCons (eC (.int 1)) (aCons (eC (.int 2)) aNil)))) (aCons (eTup (aCons (eC (.int 0)) (aCons (eC (.int 2)) (aCons (eC (.int 5)) aNil)))) (aCons (eTup (aCons (eC (.int 0)) (aCons (eC (.int 1)) (aCons (eC (.int 3)) (aCons (eC (.int 4)) aNil))))) aNil))))) aNil))))
  (sSeq (sSet 5 (eLstL aNil))
  (sSeq (sFor (iRg1 (eOp2 addM (eC (.int 1)) (eCall 2 F__law_next (aCons (eVar 0) (aCons (eVar 1) aNil))))) (.n 6) L1__law_graph)
  (sSeq (sSet 8 (eLstL aNil))
  (sSeq (sFor (iRg1 (eCB lenM (aCons (eVar 5) aNil))) (.n 9) L2__law_graph)
  (sRet (eTup (aCons (eVar 3) (aCons (eCB tupleM (aCons (eVar 5) aNil)) (aCons (eCB tupleM (aCons (eVar 8) aNil)) aNil)))))))))))
def F__law_graph : FF := mkFn true 3 11 m__law_graph
theorem ok__law_graph (G : Globs mg) (F : FnP K "_law_graph" (top 55) f fd) (hm : mg "_law_graph" = some (.ref f)) (o__law_next : OkD P w K mg base 1 "_law_next" F__law_next ["_law_stream_here", "_law_many"]) (o__law_pick : OkD P w K mg base 2 "_law_pick" F__law_pick ["_law_stream_here", "_law_rows_here"]) : OkD P w K mg base 3 "_law_graph" F__law_graph ["_law_stream_here", "_law_nodes", "_law_widest"] := by
  refine OkD.mk F hm (FunD.bindsN F fun _ _ _ _ _ _ us hl => match us, hl with | [_, _, _], _ => rfl) sc__law_graph rfl rfl fun cd A outer s H E hr => ?_
  have tk := takes_cx (P := P) (w := w) (K := K) (mg := mg) (base := base) (N := ["_law_stream_here", "_law_nodes", "_law_widest", "_law_values", "_law_pool", "_law_scopes", "_law_node", "_law_scope", "_law_pairs", "_law_one", "_law_other"]) (qual := "_law_graph") (scope := defScope (top 55)) (f := f) (cd := cd) (A := A) (outer := outer) (s := s) (H := H) (E := E)
  exact (ss_cons (s_set sc__law_graph.nd rfl (by first | exact Or.inl rfl | exact Or.inr rfl) (x_op op_addAll addM_ok x_int (x_callTy call_int1 intM1_ok G.n_int rfl (a_cons (x_cmp (op_eqD hr.units) eqM_ok (x_call o__law_next (hr.mono (by omega)) tk (a_cons (x_var 0) (a_cons x_int a_nil))) x_int) a_nil))))
  (ss_cons (s_set sc__law_graph.nd rfl (by first | exact Or.inl rfl | exact Or.inr rfl) (x_call o__law_pick (hr.mono (by omega)) tk (a_cons (x_var 0) (a_cons (x_lst (a_cons (x_tup (a_cons x_int (a_cons x_int a_nil))) (a_cons (x_tup (a_cons x_int (a_cons x_int (a_cons x_int a_nil)))) (a_cons (x_tup (a_cons x_int (a_cons x_int (a_cons x_int a_nil)))) (a_cons (x_tup (a_cons x_int (a_cons x_int (a_cons x_int (a_cons x_int a_nil))))) a_nil))))) a_nil))))
  (ss_cons (s_set sc__law_graph.nd rfl (by first | exact Or.inl rfl | exact Or.inr rfl) (x_lstL a_nil))
  (ss_cons (s_for owns_cx rfl (i_rg1 G.n_range (x_op op_addAll addM_ok x_int (x_call o__law_next (hr.mono (by omega)) tk (a_cons (x_var 0) (a_cons (x_var 1) a_nil))))) (g_name sc__law_graph.nd rfl (by first | exact Or.inl rfl | exact Or.inr rfl)) (ss_tidy [6, 7] (ss_cons (s_setLc (own := [("_law_one", 9)]) lcFin_ok rfl rfl sc__law_graph.nd rfl rfl (sw_true rfl rfl rfl (by decide +kernel)) (i_seq (x_var 4)) (blkOk_by (by kernel_rfl)) (fun _ _ _ _ _ => (g_name sc__law_graph.nd rfl (by first | exact Or.inl rfl | exact Or.inr rfl))) (fun _ _ _ _ _ => (ts_one (b_cmp (op_eqD hr.units) eqM_ok (x_call o__law_next (hr.mono (by omega)) takes0 (a_cons (x_var 0) (a_cons x_int a_nil))) x_int))) (fun _ _ _ _ _ => (x_var 9)))
  (ss_one (s_expr (x_lm PySem.F.slot_list_append PySem.F.type_list_append mt_append appendM_ok (x_var 5) (a_cons (x_callTy call_tuple_of tupleM_ok G.n_tuple rfl (a_cons (x_cut (x_var 7) o_none (o_some (x_var 2))) a_nil)) a_nil)))))))
  (ss_cons (s_set sc__law_graph.nd rfl (by first | exact Or.inl rfl | exact Or.inr rfl) (x_lstL a_nil))
  (ss_cons (s_for owns_cx rfl (i_rg1 G.n_range (x_callB call_len lenM_ok G.n_len rfl (a_cons (x_var 5) a_nil))) (g_name sc__law_graph.nd rfl (by first | exact Or.inl rfl | exact Or.inr rfl)) (ss_tidy [10] (ss_one (s_expr (x_lm PySem.F.slot_list_extend PySem.F.type_list_extend mt_extend extendM_ok (x_var 8) (a_cons (x_lc (own := [("_law_other", 10)]) lcFin_ok rfl rfl sc__law_graph.nd (i_rg2 G.n_range (x_op op_addAll addM_ok (x_var 9) x_int) (x_callB call_len lenM_ok G.n_len rfl (a_cons (x_var 5) a_nil))) (blkOk_by (by kernel_rfl)) (fun _ _ _ _ _ => (g_name sc__law_graph.nd rfl (by first | exact Or.inl rfl | exact Or.inr rfl))) (fun _ _ _ _ _ => (ts_one (b_cmp (op_eqD hr.units) eqM_ok (x_call o__law_next (hr.mono (by omega)) takes0 (a_cons (x_var 0) (a_cons x_int a_nil))) x_int))) (fun _ _ _ _ _ => (x_tup (a_cons (x_var 9) (a_cons (x_var 10) a_nil))))) a_nil))))))
  (ss_one (s_ret (x_tup (a_cons (x_var 3) (a_cons (x_callTy call_tuple_of tupleM_ok G.n_tuple rfl (a_cons (x_var 5) a_nil)) (a_cons (x_callTy call_tuple_of tupleM_ok G.n_tuple rfl (a_cons (x_var 8) a_nil)) a_nil))))))))))))
def C1__law_tables : EX W := eLc lcFin (iSeq (eOp2 idxM (eVar 1) (eC (.int 1)))) (.n 2) bYes (eCall 3 F__law_table (aCons (eVar 0) (aCons (eOp2 idxM (eVar 1) (eC (.int 0))) (aCons (eVar 2) aNil)))) [2]
theorem sc__law_tables : FnScope ["_law_stream_here", "_law_graph_here", "_law_scope"] ["_law_stream_here", "_law_graph_here"] (defScope (top 56)) := ⟨rfl, rfl, rfl, by decide +kernel, rfl, by decide +kernel, by decide +kernel⟩
def m__law_tables : SX := (sRet (eCB tupleM (aCons C1__law_tables aNil)))
def F__law_tables : FF := mkFn true 2 3 m__law_tables
theorem ok__law_tables (G : Globs mg) (F : FnP K "_law_tables" (top 56) f fd) (hm : mg "_law_tables" = some (.ref f)) (o__law_table : OkD P w K mg base 3 "_law_table" F__law_table ["_law_stream_here", "_law_values", "_law_scope"]) : OkD P w K mg base 4 "_law_tables" F__law_tables ["_law_stream_here", "_law_graph_here"] := by
  refine OkD.mk F hm (FunD.bindsN F fun _ _ _ _ _ _ us hl => match us, hl with | [_, _], _ => rfl) sc__law_tables rfl rfl fun cd A outer s H E hr => ?_
  have tk := takes_cx (P := P) (w := w) (K := K) (mg := mg) (base := base) (N := ["_law_stream_here", "_law_graph_here", "_law_scope"]) (qual := "_law_tables") (scope := defScope (top 56)) (f := f) (cd := cd) (A := A) (outer := outer) (s := s) (H := H) (E := E)
  exact (ss_one (s_ret (x_callTy call_tuple_of tupleM_ok G.n_tuple rfl (a_cons (x_lc (own := [("_law_scope", 2)]) lcFin_ok rfl rfl sc__law_tables.nd (i_seq (x_ix (x_var 1) x_int)) (blkOk_by (by kernel_rfl)) (fun _ _ _ _ _ => (g_name sc__law_tables.nd rfl (by first | exact Or.inl rfl | exact Or.inr rfl))) (fun _ _ _ _ _ => ts_nil) (fun _ _ _ _ _ => (x_call o__law_table (hr.mono (by omega)) takes0 (a_cons (x_var 0) (a_cons (x_ix (x_var 1) x_int) (a_cons (x_var 2) a_nil)))))) a_nil))))
def C1__law_variables : EX W := eLc lcFin (iSeq (eOp2 idxM (eOp2 idxM (eVar 0) (eC (.int 1))) (eVar 3))) (.n 4) (bVal (eOp2 (inM true) (eVar 4) (eVar 2))) (eVar 4) [4]
def L1__law_variables : SX := sTidy [3, 4] (sExpr (eLM extendM (eVar 2) (aCons C1__law_variables aNil)))
theorem sc__law_variables : FnScope ["_law_graph_here", "_law_nodes", "_law_found", "_law_node", "_law_one"] ["_law_graph_here", "_law_nodes"] (defScope (top 57)) := ⟨rfl, rfl, rfl, by decide +kernel, rfl, by decide +kernel, by decide +kernel⟩
def m__law_variables : SX := (sSeq (sSet 2 (eLstL aNil))
  (sSeq (sFor (iSeq (eVar 1)) (.n 3) L1__law_variables)
  (sRet (eCB tupleK (aCons (eCB sortedM (aCons (eVar 2) aNil)) aNil)))))
def F__law_variables : FF := mkFn true 2 5 m__law_variables
theorem ok__law_variables (G : Globs mg) (F : FnP K "_law_variables" (top 57) f fd) (hm : mg "_law_variables" = some (.ref f))  : OkD P w K mg base 1 "_law_variables" F__law_variables ["_law_graph_here", "_law_nodes"] := by
  refine OkD.mk F hm (FunD.bindsN F fun _ _ _ _ _ _ us hl => match us, hl with | [_, _], _ => rfl) sc__law_variables rfl rfl fun cd A outer s H E hr => ?_
  have tk := takes_cx (P := P) (w := w) (K := K) (mg := mg) (base := base) (N := ["_law_graph_here", "_law_nodes", "_law_found", "_law_node", "_law_one"]) (qual := "_law_variables") (scope := defScope (top 57)) (f := f) (cd := cd) (A := A) (outer := outer) (s := s) (H := H) (E := E)
  exact (ss_cons (s_set sc__law_variables.nd rfl (by first | exact Or.inl rfl | exact Or.inr rfl) (x_lstL a_nil))
  (ss_cons (s_for owns_cx rfl (i_seq (x_var 1)) (g_name sc__law_variables.nd rfl (by first | exact Or.inl rfl | exact Or.inr rfl)) (ss_tidy [3, 4] (ss_one (s_expr (x_lm PySem.F.slot_list_extend PySem.F.type_list_extend mt_extend extendM_ok (x_var 2) (a_cons (x_lc (own := [("_law_one", 4)]) lcFin_ok rfl rfl sc__law_variables.nd (i_seq (x_ix (x_ix (x_var 0) x_int) (x_var 3))) (blkOk_by (by kernel_rfl)) (fun _ _ _ _ _ => (g_name sc__law_variables.nd rfl (by first | exact Or.inl rfl | exact Or.inr rfl))) (fun _ _ _ _ _ => (ts_one (b_cmp (op_notInAll (u65 hr)) notInM_ok (x_var 4) (x_var 2)))) (fun _ _ _ _ _ => (x_var 4))) a_nil))))))
  (ss_one (s_ret (x_callTy call_tupK tupleK_ok G.n_tuple rfl (a_cons (x_callB (cr_sortedD (u65 hr)) sortedM_ok G.n_sorted rfl (a_cons (x_var 2) a_nil)) a_nil))))))
def C1__law_solutions : EX W := eLc lcFin (iSeq (eOp2 idxM (eVar 1) (eVar 7))) (.t [(.n 9), (.n 10)]) (bVal (eOp2 (eqM false) (eVar 9) (eVar 8))) (eVar 10) [9, 10]
def L1__law_solutions : SX := sTidy [7, 8, 9, 10] (sSeq (sSet 8 (eCall 3 F__law_part (aCons (eUn (eVar 3)) (aCons (eVar 5) (aCons (eOp2 idxM (eOp2 idxM (eVar 0) (eC (.int 1))) (eVar 7)) aNil)))))
  (sExpr (eLM extendM (eVar 6) (aCons C1__law_solutions aNil))))
def L2__law_solutions : SX := sTidy [5, 6, 7, 8, 9, 10] (sSeq (sSet 6 (eLstL aNil))
  (sSeq (sFor (iSeq (eVar 2)) (.n 7) L1__law_solutions)
  (sIf (bVal (eOp2 (eqM false) (eCB lenM (aCons (eVar 6) aNil)) (eCB lenM (aCons (eVar 2) aNil)))) (sExpr (eLM appendM (eVar 4) (aCons (eTup (aCons (eVar 5) (aCons (eCB sumM (aCons (eVar 6) aNil)) aNil))) aNil))) sSkip)))
theorem sc__law_solutions : FnScope ["_law_graph_here", "_law_tables_here", "_law_nodes", "_law_some", "_law_found", "_law_row", "_law_costs", "_law_node", "_law_part_here", "_law_one", "_law_cost"] ["_law_graph_here", "_law_tables_here", "_law_nodes"] (defScope (top 58)) := ⟨rfl, rfl, rfl, by decide +kernel, rfl, by decide +kernel, by decide +kernel⟩
def m__law_solutions : SX := (sSeq (sSet 3 (eCall 2 F__law_variables (aCons (eVar 0) (aCons (eVar 2) aNil))))
  (sSeq (sSet 4 (eLstL aNil))
  (sSeq (sFor (iSeq (eCall 2 F__law_rows (aCons (eOp2 idxM (eVar 0) (eC (.int 0))) (aCons (eCB lenM (aCons (eUn (eVar 3)) aNil)) aNil)))) (.n 5) L2__law_solutions)
  (sRet (eVar 4)))))
def F__law_solutions : FF := mkFn true 3 11 m__law_solutions
theorem ok__law_solutions (G : Globs mg) (F : FnP K "_law_solutions" (top 58) f fd) (hm : mg "_law_solutions" = some (.ref f)) (o__law_variables : OkD P w K mg base 1 "_law_variables" F__law_variables ["_law_graph_here", "_law_nodes"]) (o__law_rows : OkD P w K mg base 1 "_law_rows" F__law_rows ["_law_values", "_law_many"]) (o__law_part : OkD P w K mg base 1 "_law_part" F__law_part ["_law_some", "_law_row", "_law_kept"]) : OkD P w K mg base 2 "_law_solutions" F__law_solutions ["_law_graph_here", "_law_tables_here", "_law_nodes"] := by
  refine OkD.mk F hm (FunD.bindsN F fun _ _ _ _ _ _ us hl => match us, hl with | [_, _, _], _ => rfl) sc__law_solutions rfl rfl fun cd A outer s H E hr => ?_
  have tk := takes_cx (P := P) (w := w) (K := K) (mg := mg) (base := base) (N := ["_law_graph_here", "_law_tables_here", "_law_nodes", "_law_some", "_law_found", "_law_row", "_law_costs", "_law_node", "_law_part_here", "_law_one", "_law_cost"]) (qual := "_law_solutions") (scope := defScope (top 58)) (f := f) (cd := cd) (A := A) (outer := outer) (s := s) (H := H) (E := E)
  exact (ss_cons (s_set sc__law_solutions.nd rfl (by first | exact Or.inl rfl | exact Or.inr rfl) (x_call o__law_variables (hr.mono (by omega)) tk (a_cons (x_var 0) (a_cons (x_var 2) a_nil))))
  (ss_cons (s_set sc__law_solutions.nd rfl (by first | exact Or.inl rfl | exact Or.inr rfl) (x_lstL a_nil))
  (ss_cons (s_for owns_cx rfl (i_seq (x_call o__law_rows (hr.mono (by omega)) tk (a_cons (x_ix (x_var 0) x_int) (a_cons (x_callB call_len lenM_ok G.n_len rfl (a_cons (x_un (x_var 3)) a_nil)) a_nil)))) (g_name sc__law_solutions.nd rfl (by first | exact Or.inl rfl | exact Or.inr rfl)) (ss_tidy [5, 6, 7, 8, 9, 10] (ss_cons (s_set sc__law_solutions.nd rfl (by first | exact Or.inl rfl | exact Or.inr rfl) (x_lstL a_nil))
  (ss_cons (s_for owns_cx rfl (i_seq (x_var 2)) (g_name sc__law_solutions.nd rfl (by first | exact Or.inl rfl | exact Or.inr rfl)) (ss_tidy [7, 8, 9, 10] (ss_cons (s_set sc__law_solutions.nd rfl (by first | exact Or.inl rfl | exact Or.inr rfl) (x_call o__law_part (hr.mono (by omega)) tk (a_cons (x_un (x_var 3)) (a_cons (x_var 5) (a_cons (x_ix (x_ix (x_var 0) x_int) (x_var 7)) a_nil)))))
  (ss_one (s_expr (x_lm PySem.F.slot_list_extend PySem.F.type_list_extend mt_extend extendM_ok (x_var 6) (a_cons (x_lc (own := [("_law_one", 9), ("_law_cost", 10)]) lcFin_ok rfl rfl sc__law_solutions.nd (i_seq (x_ix (x_var 1) (x_var 7))) (blkOk_by (by kernel_rfl)) (fun _ _ _ _ _ => (g_tup rfl (g_cons (g_name sc__law_solutions.nd rfl (by first | exact Or.inl rfl | exact Or.inr rfl)) (g_cons (g_name sc__law_solutions.nd rfl (by first | exact Or.inl rfl | exact Or.inr rfl)) g_nil)))) (fun _ _ _ _ _ => (ts_one (b_cmp (op_eqD hr.units) eqM_ok (x_var 9) (x_var 8)))) (fun _ _ _ _ _ => (x_var 10))) a_nil)))))))
  (ss_one (s_if (b_cmp (op_eqD hr.units) eqM_ok (x_callB call_len lenM_ok G.n_len rfl (a_cons (x_var 6) a_nil)) (x_callB call_len lenM_ok G.n_len rfl (a_cons (x_var 2) a_nil))) (ss_one (s_expr (x_lm PySem.F.slot_list_append PySem.F.type_list_append mt_append appendM_ok (x_var 4) (a_cons (x_tup (a_cons (x_var 5) (a_cons (x_callB (cr_sum rfl) sumM_ok G.n_sum rfl (a_cons (x_var 6) a_nil)) a_nil))) a_nil)))) ss_nil))))))
  (ss_one (s_ret (x_var 4))))))
theorem sc__law_every : FnScope ["_law_graph_here"] ["_law_graph_here"] (defScope (top 59)) := ⟨rfl, rfl, rfl, by decide +kernel, rfl, by decide +kernel, by decide +kernel⟩
def m__law_every : SX := (sRet (eRg1 .l (eCB lenM (aCons (eOp2 idxM (eVar 0) (eC (.int 1))) aNil))))
def F__law_every : FF := mkFn true 1 1 m__law_every
theorem ok__law_every (G : Globs mg) (F : FnP K "_law_every" (top 59) f fd) (hm : mg "_law_every" = some (.ref f))  : OkD P w K mg base 1 "_law_every" F__law_every ["_law_graph_here"] := by
  refine OkD.mk F hm (FunD.bindsN F fun _ _ _ _ _ _ us hl => match us, hl with | [_], _ => rfl) sc__law_every rfl rfl fun cd A outer s H E hr => ?_
  have tk := takes_cx (P := P) (w := w) (K := K) (mg := mg) (base := base) (N := ["_law_graph_here"]) (qual := "_law_every") (scope := defScope (top 59)) (f := f) (cd := cd) (A := A) (outer := outer) (s := s) (H := H) (E := E)
  exact (ss_one (s_ret (x_listRg1 rfl G.n_list G.n_range (x_callB call_len lenM_ok G.n_len rfl (a_cons (x_ix (x_var 0) x_int) a_nil)))))
def C1__law_rejects : EX W := eLc lcFin (iRg1 (eCB lenM (aCons (eVar 4) aNil))) (.n 7) bYes (eOp2 (eqM false) (eDGet2 (eVar 3) (eOp2 idxM (eVar 4) (eVar 7)) (eOp2 idxM (eVar 5) (eVar 7))) (eOp2 idxM (eVar 5) (eVar 7))) [7]
def C2__law_rejects : EX W := eLc lcFin (iSeq (eOp2 idxM (eVar 1) (eVar 2))) (.t [(.n 5), (.n 6)]) bYes (eCB (allM true) (aCons C1__law_rejects aNil)) [5, 6]
theorem sc__law_rejects : FnScope ["_law_graph_here", "_law_tables_here", "_law_node", "_law_known", "_law_scope", "_law_row", "_law_cost", "_law_k"] ["_law_graph_here", "_law_tables_here", "_law_node", "_law_known"] (defScope (top 60)) := ⟨rfl, rfl, rfl, by decide +kernel, rfl, by decide +kernel, by decide +kernel⟩
def m__law_rejects : SX := (sSeq (sSet 4 (eOp2 idxM (eOp2 idxM (eVar 0) (eC (.int 1))) (eVar 2)))
  (sRet (eNot (eCB (allM false) (aCons C2__law_rejects aNil)))))
def F__law_rejects : FF := mkFn true 4 8 m__law_rejects
theorem ok__law_rejects (G : Globs mg) (F : FnP K "_law_rejects" (top 60) f fd) (hm : mg "_law_rejects" = some (.ref f))  : OkD P w K mg base 1 "_law_rejects" F__law_rejects ["_law_graph_here", "_law_tables_here", "_law_node", "_law_known"] := by
  refine OkD.mk F hm (FunD.bindsN F fun _ _ _ _ _ _ us hl => match us, hl with | [_, _, _, _], _ => rfl) sc__law_rejects rfl rfl fun cd A outer s H E hr => ?_
  have tk := takes_cx (P := P) (w := w) (K := K) (mg := mg) (base := base) (N := ["_law_graph_here", "_law_tables_here", "_law_node", "_law_known", "_law_scope", "_law_row", "_law_cost", "_law_k"]) (qual := "_law_rejects") (scope := defScope (top 60)) (f := f) (cd := cd) (A := A) (outer := outer) (s := s) (H := H) (E := E)
  exact (ss_cons (s_set sc__law_rejects.nd rfl (by first | exact Or.inl rfl | exact Or.inr rfl) (x_ix (x_ix (x_var 0) x_int) (x_var 2)))
  (ss_one (s_ret (x_not (x_callB (cr_any rfl) anyM_ok G.n_any rfl (a_cons (x_lc (own := [("_law_row", 5), ("_law_cost", 6)]) lcFin_ok rfl rfl sc__law_rejects.nd (i_seq (x_ix (x_var 1) (x_var 2))) (blkOk_by (by kernel_rfl)) (fun _ _ _ _ _ => (g_tup rfl (g_cons (g_name sc__law_rejects.nd rfl (by first | exact Or.inl rfl | exact Or.inr rfl)) (g_cons (g_name sc__law_rejects.nd rfl (by first | exact Or.inl rfl | exact Or.inr rfl)) g_nil)))) (fun _ _ _ _ _ => ts_nil) (fun _ _ _ _ _ => (x_callB (cr_all rfl) allM_ok G.n_all rfl (a_cons (x_lc (own := [("_law_k", 7)]) lcFin_ok rfl rfl sc__law_rejects.nd (i_rg1 G.n_range (x_callB call_len lenM_ok G.n_len rfl (a_cons (x_var 4) a_nil))) (blkOk_by (by kernel_rfl)) (fun _ _ _ _ _ => (g_name sc__law_rejects.nd rfl (by first | exact Or.inl rfl | exact Or.inr rfl))) (fun _ _ _ _ _ => ts_nil) (fun _ _ _ _ _ => (x_cmp (op_eqD hr.units) eqM_ok (x_dget2 (u1 hr) (x_var 3) (x_ix (x_var 4) (x_var 7)) (x_ix (x_var 5) (x_var 7)) ⟨rfl, rfl, rfl, rfl⟩) (x_ix (x_var 5) (x_var 7))))) a_nil)))) a_nil))))))
theorem sc__law_with : FnScope ["_law_known", "_law_variable", "_law_value", "_law_found", "_law_one"] ["_law_known", "_law_variable", "_law_value"] (defScope (top 61)) := ⟨rfl, rfl, rfl, by decide +kernel, rfl, by decide +kernel, by decide +kernel⟩
def m__law_with : SX := (sSeq (sSet 3 (eDisp [((eVar 1), (eVar 2))]))
  (sSeq (sDInto 3 0 4)
  (sRet (eVar 3))))
def F__law_with : FF := mkFn false 3 5 m__law_with
theorem ok__law_with (G : Globs mg) (F : FnP K "_law_with" (top 61) f fd) (hm : mg "_law_with" = some (.ref f))  : OkD P w K mg base 1 "_law_with" F__law_with ["_law_known", "_law_variable", "_law_value"] := by
  refine OkD.mk F hm (FunD.bindsN F fun _ _ _ _ _ _ us hl => match us, hl with | [_, _, _], _ => rfl) sc__law_with rfl rfl fun cd A outer s H E hr => ?_
  have tk := takes_cx (P := P) (w := w) (K := K) (mg := mg) (base := base) (N := ["_law_known", "_law_variable", "_law_value", "_law_found", "_law_one"]) (qual := "_law_with") (scope := defScope (top 61)) (f := f) (cd := cd) (A := A) (outer := outer) (s := s) (H := H) (E := E)
  exact (ss_cons (s_set sc__law_with.nd rfl (by first | exact Or.inl rfl | exact Or.inr rfl) (x_disp (ps := [((eVar 1), (eVar 2))]) (pps_cons (x_var 1) (x_var 2) pps_nil)))
  (ss_cons (s_dinto (by decide) (by decide) (u1 hr) owns_cx rfl (pv 0) (pg_name sc__law_with.nd rfl (by first | exact Or.inl rfl | exact Or.inr rfl)) (pv 3) (pv 4) (pv 4) (pv 0))
  (ss_one (s_ret (x_var 3)))))
def C1__law_is_tree (F_self : FF) : EX W := eLc lcFin (iRg1 (eOp2 idxM (eVar 0) (eC (.int 0)))) (.n 4) bYes (eCall 4 F_self (aCons (eVar 0) (aCons (eVar 1) (aCons (eCall 3 F__law_with (aCons (eVar 2) (aCons (eOp2 idxM (eVar 3) (eC (.int 1))) (aCons (eVar 4) aNil)))) (aCons (eOp2 idxM (eOp2 idxM (eVar 3) (eC (.int 2))) (eVar 4)) aNil))))) [4]
theorem sc__law_is_tree : FnScope ["_law_graph_here", "_law_tables_here", "_law_known", "_law_value", "_law_k"] ["_law_graph_here", "_law_tables_here", "_law_known", "_law_value"] (defScope (top 62)) := ⟨rfl, rfl, rfl, by decide +kernel, rfl, by decide +kernel, by decide +kernel⟩
def m__law_is_tree (F_self : FF) : SX := (sSeq (sIf (bOr (bNot (bTru (eOp1 (isiM "tuple") (eVar 3)))) (bNot (bTru (eVar 3)))) (sRet (eC (.bool false))) sSkip)
  (sSeq (sIf (bAnd (bVal (eOp2 (eqM false) (eCB lenM (aCons (eVar 3) aNil)) (eC (.int 2)))) (bVal (eOp2 (eqM false) (eOp2 idxM (eVar 3) (eC (.int 0))) (eC (.str "no"))))) (sRet (eAnd (eCall 1 F__law_is_integer (aCons (eOp2 idxM (eVar 3) (eC (.int 1))) aNil)) (eAnd (eChain leM ltM (eC (.int 0)) (eOp2 idxM (eVar 3) (eC (.int 1))) (eCB lenM (aCons (eOp2 idxM (eVar 0) (eC (.int 1))) aNil))) (eCall 4 F__law_rejects (aCons (eVar 0) (aCons (eVar 1) (aCons (eOp2 idxM (eVar 3) (eC (.int 1))) (aCons (eVar 2) aNil)))))))) sSkip)
  (sSeq (sIf (bOr (bVal (eOp2 (eqM true) (eCB lenM (aCons (eVar 3) aNil)) (eC (.int 3)))) (bOr (bVal (eOp2 (eqM true) (eOp2 idxM (eVar 3) (eC (.int 0))) (eC (.str "by")))) (bOr (bNot (bTru (eCall 1 F__law_is_integer (aCons (eOp2 idxM (eVar 3) (eC (.int 1))) aNil)))) (bVal (eDIn false (eOp2 idxM (eVar 3) (eC (.int 1))) (eVar 2)))))) (sRet (eC (.bool false))) sSkip)
  (sSeq (sIf (bOr (bVal (eOp2 (inM true) (eOp2 idxM (eVar 3) (eC (.int 1))) (eUn (eCall 2 F__law_variables (aCons (eVar 0) (aCons (eCall 1 F__law_every (aCons (eVar 0) aNil)) aNil)))))) (bOr (bNot (bTru (eOp1 (isiM "tuple") (eOp2 idxM (eVar 3) (eC (.int 2)))))) (bVal (eOp2 (eqM true) (eCB lenM (aCons (eOp2 idxM (eVar 3) (eC (.int 2))) aNil)) (eOp2 idxM (eVar 0) (eC (.int 0))))))) (sRet (eC (.bool false))) sSkip)
  (sRet (eCB (allM true) (aCons (C1__law_is_tree F_self) aNil)))))))
def F__law_is_tree : Nat → FF
  | 0 => fun _ _ => .stuck
  | n + 1 => mkFn true 4 5 (m__law_is_tree (F__law_is_tree n))
theorem ok__law_is_tree (G : Globs mg) (F : FnP K "_law_is_tree" (top 62) f fd) (hm : mg "_law_is_tree" = some (.ref f)) (o__law_is_integer : OkD P w K mg base 1 "_law_is_integer" F__law_is_integer ["_law_actual"]) (o__law_rejects : OkD P w K mg base 1 "_law_rejects" F__law_rejects ["_law_graph_here", "_law_tables_here", "_law_node", "_law_known"]) (o__law_variables : OkD P w K mg base 1 "_law_variables" F__law_variables ["_law_graph_here", "_law_nodes"]) (o__law_every : OkD P w K mg base 1 "_law_every" F__law_every ["_law_graph_here"]) (o__law_with : OkD P w K mg base 1 "_law_with" F__law_with ["_law_known", "_law_variable", "_law_value"]) : ∀ n, OkD P w K mg base (n + 2) "_law_is_tree" (F__law_is_tree n) ["_law_graph_here", "_law_tables_here", "_law_known", "_law_value"]
  | 0 => OkD.zero F hm (FunD.bindsN F fun _ _ _ _ _ _ us hl => match us, hl with | [_, _, _, _], _ => rfl) sc__law_is_tree
  | n + 1 => by
    have o__law_is_tree := ok__law_is_tree G F hm o__law_is_integer o__law_rejects o__law_variables o__law_every o__law_with n
    refine OkD.mk (k := n + 2) F hm (FunD.bindsN F fun _ _ _ _ _ _ us hl => match us, hl with | [_, _, _, _], _ => rfl) sc__law_is_tree rfl rfl fun cd A outer s H E hr => ?_
    have tk := takes_cx (P := P) (w := w) (K := K) (mg := mg) (base := base) (N := ["_law_graph_here", "_law_tables_here", "_law_known", "_law_value", "_law_k"]) (qual := "_law_is_tree") (scope := defScope (top 62)) (f := f) (cd := cd) (A := A) (outer := outer) (s := s) (H := H) (E := E)
    exact (ss_cons (s_if (PW.pt (b_or (b_not (b_tru (x_isi (by decide) G.n_isinstance G.n_tuple rfl (x_var 3)))) (b_or1 (b_not (b_tru (x_var 3)))))) (ss_one (s_ret x_bl)) ss_nil)
  (ss_cons (s_if (PW.pt (b_and (b_cmp (op_eqD hr.units) eqM_ok (x_callB call_len lenM_ok G.n_len rfl (a_cons (x_var 3) a_nil)) x_int) (b_and1 (b_cmp (op_eqD hr.units) eqM_ok (x_ix (x_var 3) x_int) x_str)))) (ss_one (s_ret (x_and (x_call o__law_is_integer (hr.mono (by omega)) tk (a_cons (x_ix (x_var 3) x_int) a_nil)) (x_and (x_chain op_le leM_ok intM_quiet (op_ltAll hr.units0) ltM_ok x_int (x_ix (x_var 3) x_int) (x_callB call_len lenM_ok G.n_len rfl (a_cons (x_ix (x_var 0) x_int) a_nil))) (x_one (x_call o__law_rejects (hr.mono (by omega)) tk (a_cons (x_var 0) (a_cons (x_var 1) (a_cons (x_ix (x_var 3) x_int) (a_cons (x_var 2) a_nil)))))))))) ss_nil)
  (ss_cons (s_if (PW.pt (b_or (b_cmp (op_neD hr.units) neM_ok (x_callB call_len lenM_ok G.n_len rfl (a_cons (x_var 3) a_nil)) x_int) (b_or (b_cmp (op_neD hr.units) neM_ok (x_ix (x_var 3) x_int) x_str) (b_or (b_not (b_tru (x_call o__law_is_integer (hr.mono (by omega)) tk (a_cons (x_ix (x_var 3) x_int) a_nil)))) (b_or1 (b_din (u1 hr) (x_ix (x_var 3) x_int) (x_var 2))))))) (ss_one (s_ret x_bl)) ss_nil)
  (ss_cons (s_if (PW.pt (b_or (b_cmp (op_notInAll (u65 hr)) notInM_ok (x_ix (x_var 3) x_int) (x_un (x_call o__law_variables (hr.mono (by omega)) tk (a_cons (x_var 0) (a_cons (x_call o__law_every (hr.mono (by omega)) tk (a_cons (x_var 0) a_nil)) a_nil))))) (b_or (b_not (b_tru (x_isi (by decide) G.n_isinstance G.n_tuple rfl (x_ix (x_var 3) x_int)))) (b_or1 (b_cmp (op_neD hr.units) neM_ok (x_callB call_len lenM_ok G.n_len rfl (a_cons (x_ix (x_var 3) x_int) a_nil)) (x_ix (x_var 0) x_int)))))) (ss_one (s_ret x_bl)) ss_nil)
  (ss_one (s_ret (x_callB (cr_all rfl) allM_ok G.n_all rfl (a_cons (x_lc (own := [("_law_k", 4)]) lcFin_ok rfl rfl sc__law_is_tree.nd (i_rg1 G.n_range (x_ix (x_var 0) x_int)) (blkOk_by (by kernel_rfl)) (fun _ _ _ _ _ => (g_name sc__law_is_tree.nd rfl (by first | exact Or.inl rfl | exact Or.inr rfl))) (fun _ _ _ _ _ => ts_nil) (fun _ _ _ _ _ => (x_call o__law_is_tree (hr.mono (by omega)) takes0 (a_cons (x_var 0) (a_cons (x_var 1) (a_cons (x_call o__law_with (hr.mono (by omega)) takes0 (a_cons (x_var 2) (a_cons (x_ix (x_var 3) x_int) (a_cons (x_var 4) a_nil)))) (a_cons (x_ix (x_ix (x_var 3) x_int) (x_var 4)) a_nil))))))) a_nil))))))))
def C1__law_is_solution : EX W := eLc lcFin (iSeq (eVar 2)) (.n 4) bYes (eCall 1 F__law_is_integer (aCons (eVar 4) aNil)) [4]
def C2__law_is_solution : EX W := eLc lcFin (iSeq (eCall 3 F__law_solutions (aCons (eVar 0) (aCons (eVar 1) (aCons (eCall 1 F__law_every (aCons (eVar 0) aNil)) aNil))))) (.t [(.n 5), (.n 6)]) bYes (eVar 5) [5, 6]
theorem sc__law_is_solution : FnScope ["_law_graph_here", "_law_tables_here", "_law_value", "_law_some", "_law_one", "_law_row", "_law_cost"] ["_law_graph_here", "_law_tables_here", "_law_value"] (defScope (top 63)) := ⟨rfl, rfl, rfl, by decide +kernel, rfl, by decide +kernel, by decide +kernel⟩
def m__law_is_solution : SX := (sSeq (sSet 3 (eCall 2 F__law_variables (aCons (eVar 0) (aCons (eCall 1 F__law_every (aCons (eVar 0) aNil)) aNil))))
  (sSeq (sIf (bOr (bNot (bTru (eOp1 (isiM "tuple") (eVar 2)))) (bOr (bVal (eOp2 (eqM true) (eCB lenM (aCons (eVar 2) aNil)) (eCB lenM (aCons (eUn (eVar 3)) aNil)))) (bNot (bTru (eCB (allM true) (aCons C1__law_is_solution aNil)))))) (sRet (eC (.bool false))) sSkip)
  (sRet (eOp2 (inM false) (eVar 2) C2__law_is_solution))))
def F__law_is_solution : FF := mkFn true 3 7 m__law_is_solution
theorem ok__law_is_solution (G : Globs mg) (F : FnP K "_law_is_solution" (top 63) f fd) (hm : mg "_law_is_solution" = some (.ref f)) (o__law_variables : OkD P w K mg base 1 "_law_variables" F__law_variables ["_law_graph_here", "_law_nodes"]) (o__law_every : OkD P w K mg base 1 "_law_every" F__law_every ["_law_graph_here"]) (o__law_is_integer : OkD P w K mg base 1 "_law_is_integer" F__law_is_integer ["_law_actual"]) (o__law_solutions : OkD P w K mg base 2 "_law_solutions" F__law_solutions ["_law_graph_here", "_law_tables_here", "_law_nodes"]) : OkD P w K mg base 3 "_law_is_solution" F__law_is_solution ["_law_graph_here", "_law_tables_here", "_law_value"] := by
  refine OkD.mk F hm (FunD.bindsN F fun _ _ _ _ _ _ us hl => match us, hl with | [_, _, _], _ => rfl) sc__law_is_solution rfl rfl fun cd A outer s H E hr => ?_
  have tk := takes_cx (P := P) (w := w) (K := K) (mg := mg) (base := base) (N := ["_law_graph_here", "_law_tables_here", "_law_value", "_law_some", "_law_one", "_law_row", "_law_cost"]) (qual := "_law_is_solution") (scope := defScope (top 63)) (f := f) (cd := cd) (A := A) (outer := outer) (s := s) (H := H) (E := E)
  exact (ss_cons (s_set sc__law_is_solution.nd rfl (by first | exact Or.inl rfl | exact Or.inr rfl) (x_call o__law_variables (hr.mono (by omega)) tk (a_cons (x_var 0) (a_cons (x_call o__law_every (hr.mono (by omega)) tk (a_cons (x_var 0) a_nil)) a_nil))))
  (ss_cons (s_if (PW.pt (b_or (b_not (b_tru (x_isi (by decide) G.n_isinstance G.n_tuple rfl (x_var 2)))) (b_or (b_cmp (op_neD hr.units) neM_ok (x_callB call_len lenM_ok G.n_len rfl (a_cons (x_var 2) a_nil)) (x_callB call_len lenM_ok G.n_len rfl (a_cons (x_un (x_var 3)) a_nil))) (b_or1 (b_not (b_tru (x_callB (cr_all rfl) allM_ok G.n_all rfl (a_cons (x_lc (own := [("_law_one", 4)]) lcFin_ok rfl rfl sc__law_is_solution.nd (i_seq (x_var 2)) (blkOk_by (by kernel_rfl)) (fun _ _ _ _ _ => (g_name sc__law_is_solution.nd rfl (by first | exact Or.inl rfl | exact Or.inr rfl))) (fun _ _ _ _ _ => ts_nil) (fun _ _ _ _ _ => (x_call o__law_is_integer (hr.mono (by omega)) takes0 (a_cons (x_var 4) a_nil)))) a_nil)))))))) (ss_one (s_ret x_bl)) ss_nil)
  (ss_one (s_ret (x_cmp (op_inAll (u65 hr)) inM_ok (x_var 2) (x_lc (own := [("_law_row", 5), ("_law_cost", 6)]) lcFin_ok rfl rfl sc__law_is_solution.nd (i_seq (x_call o__law_solutions (hr.mono (by omega)) tk (a_cons (x_var 0) (a_cons (x_var 1) (a_cons (x_call o__law_every (hr.mono (by omega)) tk (a_cons (x_var 0) a_nil)) a_nil))))) (blkOk_by (by kernel_rfl)) (fun _ _ _ _ _ => (g_tup rfl (g_cons (g_name sc__law_is_solution.nd rfl (by first | exact Or.inl rfl | exact Or.inr rfl)) (g_cons (g_name sc__law_is_solution.nd rfl (by first | exact Or.inl rfl | exact Or.inr rfl)) g_nil)))) (fun _ _ _ _ _ => ts_nil) (fun _ _ _ _ _ => (x_var 5))))))))
def C1__law_accepted : EX W := eLc lcFin (iRg1 (eOp2 idxM (eVar 0) (eC (.int 0)))) (.n 7) (bVal (eOp2 (eqM true) (eVar 7) (eVar 3))) (eVar 7) [7]
def C2__law_accepted : EX W := eLc lcFin (iRg1 (eCB lenM (aCons (eVar 6) aNil))) (.n 8) bYes (eCall 4 (F__law_is_tree 7) (aCons (eVar 0) (aCons (eVar 1) (aCons (eDisp [((eVar 2), (eOp2 idxM (eVar 6) (eVar 8)))]) (aCons (eOp2 idxM (eOp2 idxM (eVar 4) (eC (.int 2))) (eVar 8)) aNil))))) [8]
theorem sc__law_accepted : FnScope ["_law_graph_here", "_law_tables_here", "_law_variable", "_law_value", "_law_told", "_law_at", "_law_others", "_law_one", "_law_k"] ["_law_graph_here", "_law_tables_here", "_law_variable", "_law_value", "_law_told"] (defScope (top 64)) := ⟨rfl, rfl, rfl, by decide +kernel, rfl, by decide +kernel, by decide +kernel⟩
def m__law_accepted : SX := (sSeq (sIf (bOr (bNot (bTru (eOp1 (isiM "tuple") (eVar 4)))) (bVal (eOp2 (inM true) (eCB lenM (aCons (eVar 4) aNil)) (eLst (aCons (eC (.int 2)) (aCons (eC (.int 3)) aNil)))))) (sRet (eC (.bool false))) sSkip)
  (sSeq (sIf (bVal (eOp2 (eqM false) (eCB lenM (aCons (eVar 4) aNil)) (eC (.int 2)))) (sRet (eAnd (eOp2 (eqM false) (eOp2 idxM (eVar 4) (eC (.int 0))) (eC (.str "never"))) (eCall 4 (F__law_is_tree 7) (aCons (eVar 0) (aCons (eVar 1) (aCons (eDisp [((eVar 2), (eVar 3))]) (aCons (eOp2 idxM (eVar 4) (eC (.int 1))) aNil))))))) sSkip)
  (sSeq (sSet 5 (eTix (eCall 2 F__law_variables (aCons (eVar 0) (aCons (eCall 1 F__law_every (aCons (eVar 0) aNil)) aNil))) (eVar 2)))
  (sSeq (sIf (bOr (bVal (eOp2 (inM true) (eOp2 idxM (eVar 4) (eC (.int 0))) (eLst (aCons (eC (.str "always")) (aCons (eC (.str "sometimes")) aNil))))) (bOr (bNot (bTru (eCall 3 F__law_is_solution (aCons (eVar 0) (aCons (eVar 1) (aCons (eOp2 idxM (eVar 4) (eC (.int 1))) aNil)))))) (bVal (eOp2 (eqM true) (eOp2 idxM (eOp2 idxM (eVar 4) (eC (.int 1))) (eVar 5)) (eVar 3))))) (sRet (eC (.bool false))) sSkip)
  (sSeq (sIf (bVal (eOp2 (eqM false) (eOp2 idxM (eVar 4) (eC (.int 0))) (eC (.str "sometimes")))) (sRet (eAnd (eCall 3 F__law_is_solution (aCons (eVar 0) (aCons (eVar 1) (aCons (eOp2 idxM (eVar 4) (eC (.int 2))) aNil)))) (eOp2 (eqM true) (eOp2 idxM (eOp2 idxM (eVar 4) (eC (.int 2))) (eVar 5)) (eVar 3)))) sSkip)
  (sSeq (sSet 6 C1__law_accepted)
  (sSeq (sIf (bOr (bNot (bTru (eOp1 (isiM "tuple") (eOp2 idxM (eVar 4) (eC (.int 2)))))) (bVal (eOp2 (eqM true) (eCB lenM (aCons (eOp2 idxM (eVar 4) (eC (.int 2))) aNil)) (eCB lenM (aCons (eVar 6) aNil))))) (sRet (eC (.bool false))) sSkip)
  (sRet (eCB (allM true) (aCons C2__law_accepted aNil))))))))))
def F__law_accepted : FF := mkFn true 5 9 m__law_accepted
theorem ok__law_accepted (G : Globs mg) (F : FnP K "_law_accepted" (top 64) f fd) (hm : mg "_law_accepted" = some (.ref f)) (o__law_is_tree : OkD P w K mg base 9 "_law_is_tree" (F__law_is_tree 7) ["_law_graph_here", "_law_tables_here", "_law_known", "_law_value"]) (o__law_variables : OkD P w K mg base 1 "_law_variables" F__law_variables ["_law_graph_here", "_law_nodes"]) (o__law_every : OkD P w K mg base 1 "_law_every" F__law_every ["_law_graph_here"]) (o__law_is_solution : OkD P w K mg base 3 "_law_is_solution" F__law_is_solution ["_law_graph_here", "_law_tables_here", "_law_value"]) : OkD P w K mg base 10 "_law_accepted" F__law_accepted ["_law_graph_here", "_law_tables_here", "_law_variable", "_law_value", "_law_told"] := by
  refine OkD.mk F hm (FunD.bindsN F fun _ _ _ _ _ _ us hl => match us, hl with | [_, _, _, _, _], _ => rfl) sc__law_accepted rfl rfl fun cd A outer s H E hr => ?_
  have tk := takes_cx (P := P) (w := w) (K := K) (mg := mg) (base := base) (N := ["_law_graph_here", "_law_tables_here", "_law_variable", "_law_value", "_law_told", "_law_at", "_law_others", "_law_one", "_law_k"]) (qual := "_law_accepted") (scope := defScope (top 64)) (f := f) (cd := cd) (A := A) (outer := outer) (s := s) (H := H) (E := E)
  exact (ss_cons (s_if (PW.pt (b_or (b_not (b_tru (x_isi (by decide) G.n_isinstance G.n_tuple rfl (x_var 4)))) (b_or1 (b_cmp (op_notInAll (u65 hr)) notInM_ok (x_callB call_len lenM_ok G.n_len rfl (a_cons (x_var 4) a_nil)) (x_lst (a_cons x_int (a_cons x_int a_nil))))))) (ss_one (s_ret x_bl)) ss_nil)
  (ss_cons (s_if (b_cmp (op_eqD hr.units) eqM_ok (x_callB call_len lenM_ok G.n_len rfl (a_cons (x_var 4) a_nil)) x_int) (ss_one (s_ret (x_and (x_cmp (op_eqD hr.units) eqM_ok (x_ix (x_var 4) x_int) x_str) (x_one (x_call o__law_is_tree (hr.mono (by omega)) tk (a_cons (x_var 0) (a_cons (x_var 1) (a_cons (x_disp (ps := [((eVar 2), (eVar 3))]) (pps_cons (x_var 2) (x_var 3) pps_nil)) (a_cons (x_ix (x_var 4) x_int) a_nil))))))))) ss_nil)
  (ss_cons (s_set sc__law_accepted.nd rfl (by first | exact Or.inl rfl | exact Or.inr rfl) (x_tix (u65 hr) (x_call o__law_variables (hr.mono (by omega)) tk (a_cons (x_var 0) (a_cons (x_call o__law_every (hr.mono (by omega)) tk (a_cons (x_var 0) a_nil)) a_nil))) (x_var 2)))
  (ss_cons (s_if (PW.pt (b_or (b_cmp (op_notInAll (u65 hr)) notInM_ok (x_ix (x_var 4) x_int) (x_lst (a_cons x_str (a_cons x_str a_nil)))) (b_or (b_not (b_tru (x_call o__law_is_solution (hr.mono (by omega)) tk (a_cons (x_var 0) (a_cons (x_var 1) (a_cons (x_ix (x_var 4) x_int) a_nil)))))) (b_or1 (b_cmp (op_neD hr.units) neM_ok (x_ix (x_ix (x_var 4) x_int) (x_var 5)) (x_var 3)))))) (ss_one (s_ret x_bl)) ss_nil)
  (ss_cons (s_if (b_cmp (op_eqD hr.units) eqM_ok (x_ix (x_var 4) x_int) x_str) (ss_one (s_ret (x_and (x_call o__law_is_solution (hr.mono (by omega)) tk (a_cons (x_var 0) (a_cons (x_var 1) (a_cons (x_ix (x_var 4) x_int) a_nil)))) (x_one (x_cmp (op_neD hr.units) neM_ok (x_ix (x_ix (x_var 4) x_int) (x_var 5)) (x_var 3)))))) ss_nil)
  (ss_cons (s_set sc__law_accepted.nd rfl (by first | exact Or.inl rfl | exact Or.inr rfl) (x_lc (own := [("_law_one", 7)]) lcFin_ok rfl rfl sc__law_accepted.nd (i_rg1 G.n_range (x_ix (x_var 0) x_int)) (blkOk_by (by kernel_rfl)) (fun _ _ _ _ _ => (g_name sc__law_accepted.nd rfl (by first | exact Or.inl rfl | exact Or.inr rfl))) (fun _ _ _ _ _ => (ts_one (b_cmp (op_neD hr.units) neM_ok (x_var 7) (x_var 3)))) (fun _ _ _ _ _ => (x_var 7))))
  (ss_cons (s_if (PW.pt (b_or (b_not (b_tru (x_isi (by decide) G.n_isinstance G.n_tuple rfl (x_ix (x_var 4) x_int)))) (b_or1 (b_cmp (op_neD hr.units) neM_ok (x_callB call_len lenM_ok G.n_len rfl (a_cons (x_ix (x_var 4) x_int) a_nil)) (x_callB call_len lenM_ok G.n_len rfl (a_cons (x_var 6) a_nil)))))) (ss_one (s_ret x_bl)) ss_nil)
  (ss_one (s_ret (x_callB (cr_all rfl) allM_ok G.n_all rfl (a_cons (x_lc (own := [("_law_k", 8)]) lcFin_ok rfl rfl sc__law_accepted.nd (i_rg1 G.n_range (x_callB call_len lenM_ok G.n_len rfl (a_cons (x_var 6) a_nil))) (blkOk_by (by kernel_rfl)) (fun _ _ _ _ _ => (g_name sc__law_accepted.nd rfl (by first | exact Or.inl rfl | exact Or.inr rfl))) (fun _ _ _ _ _ => ts_nil) (fun _ _ _ _ _ => (x_call o__law_is_tree (hr.mono (by omega)) takes0 (a_cons (x_var 0) (a_cons (x_var 1) (a_cons (x_disp (ps := [((eVar 2), (eOp2 idxM (eVar 6) (eVar 8)))]) (pps_cons (x_var 2) (x_ix (x_var 6) (x_var 8)) pps_nil)) (a_cons (x_ix (x_ix (x_var 4) x_int) (x_var 8)) a_nil))))))) a_nil)))))))))))
def C1__law_made_tree (F_self : FF) : EX W := eLc lcFin (iSeq (eCall 1 F__law_every (aCons (eVar 1) aNil))) (.n 7) (bTru (eCall 4 F__law_rejects (aCons (eVar 1) (aCons (eVar 2) (aCons (eVar 7) (aCons (eVar 3) aNil)))))) (eVar 7) [7]
def C2__law_made_tree (F_self : FF) : EX W := eLc lcFin (iSeq (eUn (eCall 2 F__law_variables (aCons (eVar 1) (aCons (eCall 1 F__law_every (aCons (eVar 1) aNil)) aNil))))) (.n 8) (bVal (eDIn true (eVar 8) (eVar 3))) (eVar 8) [8]
def C3__law_made_tree (F_self : FF) : EX W := eLc lcFin (iRg1 (eOp2 idxM (eVar 1) (eC (.int 0)))) (.n 9) bYes (eCall 4 F_self (aCons (eVar 0) (aCons (eVar 1) (aCons (eVar 2) (aCons (eCall 3 F__law_with (aCons (eVar 3) (aCons (eVar 6) (aCons (eVar 9) aNil)))) aNil))))) [9]
theorem sc__law_made_tree : FnScope ["_law_stream_here", "_law_graph_here", "_law_tables_here", "_law_known", "_law_nodes", "_law_left", "_law_variable", "_law_node", "_law_one", "_law_k"] ["_law_stream_here", "_law_graph_here", "_law_tables_here", "_law_known"] (defScope (top 65)) := ⟨rfl, rfl, rfl, by decide +kernel, rfl, by decide +kernel, by decide +kernel⟩
def m__law_made_tree (F_self : FF) : SX := (sSeq (sSet 4 (C1__law_made_tree F_self))
  (sSeq (sSet 5 (C2__law_made_tree F_self))
  (sSeq (sIf (bAnd (bTru (eVar 4)) (bOr (bNot (bTru (eVar 5))) (bVal (eOp2 gtM (eCall 2 F__law_next (aCons (eVar 0) (aCons (eC (.int 3)) aNil))) (eC (.int 0)))))) (sRet (eTup (aCons (eC (.str "no")) (aCons (eCall 2 F__law_pick (aCons (eVar 0) (aCons (eVar 4) aNil))) aNil)))) sSkip)
  (sSeq (sIf (bNot (bTru (eVar 5))) (sRet (eTup (aCons (eC (.str "no")) (aCons (eC (.int 0)) aNil)))) sSkip)
  (sSeq (sSet 6 (eCall 2 F__law_pick (aCons (eVar 0) (aCons (eVar 5) aNil))))
  (sRet (eTup (aCons (eC (.str "by")) (aCons (eVar 6) (aCons (eCB tupleM (aCons (C3__law_made_tree F_self) aNil)) aNil))))))))))
def F__law_made_tree : Nat → FF
  | 0 => fun _ _ => .stuck
  | n + 1 => mkFn true 4 10 (m__law_made_tree (F__law_made_tree n))
theorem ok__law_made_tree (G : Globs mg) (F : FnP K "_law_made_tree" (top 65) f fd) (hm : mg "_law_made_tree" = some (.ref f)) (o__law_every : OkD P w K mg base 1 "_law_every" F__law_every ["_law_graph_here"]) (o__law_rejects : OkD P w K mg base 1 "_law_rejects" F__law_rejects ["_law_graph_here", "_law_tables_here", "_law_node", "_law_known"]) (o__law_variables : OkD P w K mg base 1 "_law_variables" F__law_variables ["_law_graph_here", "_law_nodes"]) (o__law_next : OkD P w K mg base 1 "_law_next" F__law_next ["_law_stream_here", "_law_many"]) (o__law_pick : OkD P w K mg base 2 "_law_pick" F__law_pick ["_law_stream_here", "_law_rows_here"]) (o__law_with : OkD P w K mg base 1 "_law_with" F__law_with ["_law_known", "_law_variable", "_law_value"]) : ∀ n, OkD P w K mg base (n + 3) "_law_made_tree" (F__law_made_tree n) ["_law_stream_here", "_law_graph_here", "_law_tables_here", "_law_known"]
  | 0 => OkD.zero F hm (FunD.bindsN F fun _ _ _ _ _ _ us hl => match us, hl with | [_, _, _, _], _ => rfl) sc__law_made_tree
  | n + 1 => by
    have o__law_made_tree := ok__law_made_tree G F hm o__law_every o__law_rejects o__law_variables o__law_next o__law_pick o__law_with n
    refine OkD.mk (k := n + 3) F hm (FunD.bindsN F fun _ _ _ _ _ _ us hl => match us, hl with | [_, _, _, _], _ => rfl) sc__law_made_tree rfl rfl fun cd A outer s H E hr => ?_
    have tk := takes_cx (P := P) (w := w) (K := K) (mg := mg) (base := base) (N := ["_law_stream_here", "_law_graph_here", "_law_tables_here", "_law_known", "_law_nodes", "_law_left", "_law_variable", "_law_node", "_law_one", "_law_k"]) (qual := "_law_made_tree") (scope := defScope (top 65)) (f := f) (cd := cd) (A := A) (outer := outer) (s := s) (H := H) (E := E)
    exact (ss_cons (s_setLc (own := [("_law_node", 7)]) lcFin_ok rfl rfl sc__law_made_tree.nd rfl rfl (sw_true rfl rfl rfl (by decide +kernel)) (i_seq (x_call o__law_every (hr.mono (by omega)) tk (a_cons (x_var 1) a_nil))) (blkOk_by (by kernel_rfl)) (fun _ _ _ _ _ => (g_name sc__law_made_tree.nd rfl (by first | exact Or.inl rfl | exact Or.inr rfl))) (fun _ _ _ _ _ => (ts_one (b_tru (x_call o__law_rejects (hr.mono (by omega)) takes0 (a_cons (x_var 1) (a_cons (x_var 2) (a_cons (x_var 7) (a_cons (x_var 3) a_nil)))))))) (fun _ _ _ _ _ => (x_var 7)))
  (ss_cons (s_setLc (own := [("_law_one", 8)]) lcFin_ok rfl rfl sc__law_made_tree.nd rfl rfl (sw_true rfl rfl rfl (by decide +kernel)) (i_seq (x_un (x_call o__law_variables (hr.mono (by omega)) tk (a_cons (x_var 1) (a_cons (x_call o__law_every (hr.mono (by omega)) tk (a_cons (x_var 1) a_nil)) a_nil))))) (blkOk_by (by kernel_rfl)) (fun _ _ _ _ _ => (g_name sc__law_made_tree.nd rfl (by first | exact Or.inl rfl | exact Or.inr rfl))) (fun _ _ _ _ _ => (ts_one (b_dnotin (u1 hr) (x_var 8) (x_var 3)))) (fun _ _ _ _ _ => (x_var 8)))
  (ss_cons (s_if (PW.pt (b_and (b_tru (x_var 4)) (b_and1 (PW.pt (b_or (b_not (b_tru (x_var 5))) (b_or1 (b_cmp op_gt gtM_ok (x_call o__law_next (hr.mono (by omega)) tk (a_cons (x_var 0) (a_cons x_int a_nil))) x_int))))))) (ss_one (s_ret (x_tup (a_cons x_str (a_cons (x_call o__law_pick (hr.mono (by omega)) tk (a_cons (x_var 0) (a_cons (x_var 4) a_nil))) a_nil))))) ss_nil)
  (ss_cons (s_if (b_not (b_tru (x_var 5))) (ss_one (s_ret (x_tup (a_cons x_str (a_cons x_int a_nil))))) ss_nil)
  (ss_cons (s_set sc__law_made_tree.nd rfl (by first | exact Or.inl rfl | exact Or.inr rfl) (x_call o__law_pick (hr.mono (by omega)) tk (a_cons (x_var 0) (a_cons (x_var 5) a_nil))))
  (ss_one (s_ret (x_tup (a_cons x_str (a_cons (x_var 6) (a_cons (x_callTy call_tuple_of tupleM_ok G.n_tuple rfl (a_cons (x_lc (own := [("_law_k", 9)]) lcFin_ok rfl rfl sc__law_made_tree.nd (i_rg1 G.n_range (x_ix (x_var 1) x_int)) (blkOk_by (by kernel_rfl)) (fun _ _ _ _ _ => (g_name sc__law_made_tree.nd rfl (by first | exact Or.inl rfl | exact Or.inr rfl))) (fun _ _ _ _ _ => ts_nil) (fun _ _ _ _ _ => (x_call o__law_made_tree (hr.mono (by omega)) takes0 (a_cons (x_var 0) (a_cons (x_var 1) (a_cons (x_var 2) (a_cons (x_call o__law_with (hr.mono (by omega)) takes0 (a_cons (x_var 3) (a_cons (x_var 6) (a_cons (x_var 9) a_nil)))) a_nil))))))) a_nil)) a_nil)))))))))))
def L1__law_bent (F_self : FF) : SX := sTidy [3] (sSet 2 (eTup (aCons (eC (.str "by")) (aCons (eCall 2 F__law_next (aCons (eVar 0) (aCons (eC (.int 6)) aNil))) (aCons (eTup (aCons (eVar 2) (aCons (eTup (aCons (eC (.str "no")) (aCons (eC (.int 0)) aNil))) aNil))) aNil)))))
theorem sc__law_bent : FnScope ["_law_stream_here", "_law_tree", "_law_deep", "_law_k", "_law_trees", "_law_pick_here", "_law_at"] ["_law_stream_here", "_law_tree"] (defScope (top 66)) := ⟨rfl, rfl, rfl, by decide +kernel, rfl, by decide +kernel, by decide +kernel⟩
def m__law_bent (F_self : FF) : SX := (sSeq (sIf (bOr (bNot (bTru (eOp1 (isiM "tuple") (eVar 1)))) (bOr (bVal (eOp2 ltM (eCB lenM (aCons (eVar 1) aNil)) (eC (.int 2)))) (bVal (eOp2 (eqM false) (eCall 2 F__law_next (aCons (eVar 0) (aCons (eC (.int 3)) aNil))) (eC (.int 0)))))) (sSeq (sSet 2 (eTup (aCons (eC (.str "no")) (aCons (eC (.int 0)) aNil))))
  (sSeq (sFor (iRg1 (eCall 2 F__law_pick (aCons (eVar 0) (aCons (eLst (aCons (eC (.int 1)) (aCons (eC (.int 300)) aNil))) aNil)))) (.n 3) (L1__law_bent F_self))
  (sRet (eCall 2 F__law_pick (aCons (eVar 0) (aCons (eLst (aCons (eC .none) (aCons (eTup aNil) (aCons (eC (.int 0)) (aCons (eC (.str "no")) (aCons (eTup (aCons (eC (.str "no")) aNil)) (aCons (eTup (aCons (eC (.str "no")) (aCons (eOp1 negM (eC (.int 1))) aNil))) (aCons (eTup (aCons (eC (.str "no")) (aCons (eC (.bool true)) aNil))) (aCons (eTup (aCons (eC (.str "no")) (aCons (eC (.int 9)) aNil))) (aCons (eTup (aCons (eC (.str "no")) (aCons (eC .none) aNil))) (aCons (eTup (aCons (eC (.str "by")) (aCons (eC (.int 0)) aNil))) (aCons (eTup (aCons (eC (.str "by")) (aCons (eC (.int 9)) (aCons (eTup aNil) aNil)))) (aCons (eTup (aCons (eC (.str "by")) (aCons (eC (.bool true)) (aCons (eTup aNil) aNil)))) (aCons (eLst (aCons (eC (.str "no")) (aCons (eC (.int 0)) aNil))) (aCons (eTup (aCons (eC .none) (aCons (eC (.int 0)) aNil))) (aCons (eTup (aCons (eC (.str "No")) (aCons (eC (.int 0)) aNil))) (aCons (eVar 2) (aCons (eTup (aCons (eC (.str "no")) (aCons (eC (.int 0)) (aCons (eC (.int 0)) aNil)))) (aCons (eTup (aCons (eC (.str "no")) (aCons (eC (.int 0)) aNil))) (aCons (eTup (aCons (eC (.str "no")) (aCons (eC (.int 1)) aNil))) aNil)))))))))))))))))))) aNil)))))) sSkip)
  (sSeq (sIf (bVal (eOp2 (eqM false) (eCB lenM (aCons (eVar 1) aNil)) (eC (.int 2)))) (sRet (eTup (aCons (eC (.str "no")) (aCons (eCall 2 F__law_next (aCons (eVar 0) (aCons (eC (.int 4)) aNil))) aNil)))) sSkip)
  (sSeq (sSet 4 (eOp2 idxM (eVar 1) (eC (.int 2))))
  (sSeq (sSet 5 (eCall 2 F__law_next (aCons (eVar 0) (aCons (eC (.int 4)) aNil))))
  (sSeq (sIf (bVal (eOp2 (eqM false) (eVar 5) (eC (.int 0)))) (sRet (eTup (aCons (eOp2 idxM (eVar 1) (eC (.int 0))) (aCons (eCall 2 F__law_pick (aCons (eVar 0) (aCons (eLst (aCons (eCall 2 F__law_next (aCons (eVar 0) (aCons (eC (.int 6)) aNil))) (aCons (eC (.bool true)) (aCons (eC .none) (aCons (eOp1 negM (eC (.int 1))) (aCons (eC (.str "0")) aNil)))))) aNil))) (aCons (eVar 4) aNil))))) sSkip)
  (sSeq (sIf (bOr (bVal (eOp2 (eqM false) (eVar 5) (eC (.int 1)))) (bOr (bNot (bTru (eOp1 (isiM "tuple") (eVar 4)))) (bNot (bTru (eVar 4))))) (sRet (eTup (aCons (eOp2 idxM (eVar 1) (eC (.int 0))) (aCons (eOp2 idxM (eVar 1) (eC (.int 1))) (aCons (eCall 2 F__law_pick (aCons (eVar 0) (aCons (eIf (bTru (eOp1 (isiM "tuple") (eVar 4))) (eLst (aCons (eCut (eVar 4) (oSome (eC (.int 1))) oNone) (aCons (eOp2 addM (eVar 4) (eCut (eVar 4) oNone (oSome (eC (.int 1))))) (aCons (eOp1 (revM none) (eVar 4)) (aCons (eCB listM (aCons (eVar 4) aNil)) (aCons (eC .none) aNil)))))) (eLst (aCons (eC .none) aNil))) aNil))) aNil))))) sSkip)
  (sSeq (sSet 6 (eCall 2 F__law_next (aCons (eVar 0) (aCons (eCB lenM (aCons (eVar 4) aNil)) aNil))))
  (sRet (eTup (aCons (eOp2 idxM (eVar 1) (eC (.int 0))) (aCons (eOp2 idxM (eVar 1) (eC (.int 1))) (aCons (eOp2 addM (eOp2 addM (eCut (eVar 4) oNone (oSome (eVar 6))) (eTup (aCons (eCall 2 F_self (aCons (eVar 0) (aCons (eOp2 idxM (eVar 4) (eVar 6)) aNil))) aNil))) (eCut (eVar 4) (oSome (eOp2 addM (eVar 6) (eC (.int 1)))) oNone)) aNil))))))))))))
def F__law_bent : Nat → FF
  | 0 => fun _ _ => .stuck
  | n + 1 => mkFn true 2 7 (m__law_bent (F__law_bent n))
theorem ok__law_bent (G : Globs mg) (F : FnP K "_law_bent" (top 66) f fd) (hm : mg "_law_bent" = some (.ref f)) (o__law_next : OkD P w K mg base 1 "_law_next" F__law_next ["_law_stream_here", "_law_many"]) (o__law_pick : OkD P w K mg base 2 "_law_pick" F__law_pick ["_law_stream_here", "_law_rows_here"]) : ∀ n, OkD P w K mg base (n + 3) "_law_bent" (F__law_bent n) ["_law_stream_here", "_law_tree"]
  | 0 => OkD.zero F hm (FunD.bindsN F fun _ _ _ _ _ _ us hl => match us, hl with | [_, _], _ => rfl) sc__law_bent
  | n + 1 => by
    have o__law_bent := ok__law_bent G F hm o__law_next o__law_pick n
    refine OkD.mk (k := n + 3) F hm (FunD.bindsN F fun _ _ _ _ _ _ us hl => match us, hl with | [_, _], _ => rfl) sc__law_bent rfl rfl fun cd A outer s H E hr => ?_
    have tk := takes_cx (P := P) (w := w) (K := K) (mg := mg) (base := base) (N := ["_law_stream_here", "_law_tree", "_law_deep", "_law_k", "_law_trees", "_law_pick_here", "_law_at"]) (qual := "_law_bent") (scope := defScope (top 66)) (f := f) (cd := cd) (A := A) (outer := outer) (s := s) (H := H) (E := E)
    exact (ss_cons (s_if (PW.pt (b_or (b_not (b_tru (x_isi (by decide) G.n_isinstance G.n_tuple rfl (x_var 1)))) (b_or (b_cmp (op_ltAll hr.units0) ltM_ok (x_callB call_len lenM_ok G.n_len rfl (a_cons (x_var 1) a_nil)) x_int) (b_or1 (b_cmp (op_eqD hr.units) eqM_ok (x_call o__law_next (hr.mono (by omega)) tk (a_cons (x_var 0) (a_cons x_int a_nil))) x_int))))) (ss_cons (s_set sc__law_bent.nd rfl (by first | exact Or.inl rfl | exact Or.inr rfl) (x_tup (a_cons x_str (a_cons x_int a_nil))))
  (ss_cons (s_for owns_cx rfl (i_rg1 G.n_range (x_call o__law_pick (hr.mono (by omega)) tk (a_cons (x_var 0) (a_cons (x_lst (a_cons x_int (a_cons x_int a_nil))) a_nil)))) (g_name sc__law_bent.nd rfl (by first | exact Or.inl rfl | exact Or.inr rfl)) (ss_tidy [3] (ss_one (s_set sc__law_bent.nd rfl (by first | exact Or.inl rfl | exact Or.inr rfl) (x_tup (a_cons x_str (a_cons (x_call o__law_next (hr.mono (by omega)) tk (a_cons (x_var 0) (a_cons x_int a_nil))) (a_cons (x_tup (a_cons (x_var 2) (a_cons (x_tup (a_cons x_str (a_cons x_int a_nil))) a_nil))) a_nil))))))))
  (ss_one (s_ret (x_call o__law_pick (hr.mono (by omega)) tk (a_cons (x_var 0) (a_cons (x_lst (a_cons x_non (a_cons (x_tup a_nil) (a_cons x_int (a_cons x_str (a_cons (x_tup (a_cons x_str a_nil)) (a_cons (x_tup (a_cons x_str (a_cons (x_neg x_int) a_nil))) (a_cons (x_tup (a_cons x_str (a_cons x_bl a_nil))) (a_cons (x_tup (a_cons x_str (a_cons x_int a_nil))) (a_cons (x_tup (a_cons x_str (a_cons x_non a_nil))) (a_cons (x_tup (a_cons x_str (a_cons x_int a_nil))) (a_cons (x_tup (a_cons x_str (a_cons x_int (a_cons (x_tup a_nil) a_nil)))) (a_cons (x_tup (a_cons x_str (a_cons x_bl (a_cons (x_tup a_nil) a_nil)))) (a_cons (x_lst (a_cons x_str (a_cons x_int a_nil))) (a_cons (x_tup (a_cons x_non (a_cons x_int a_nil))) (a_cons (x_tup (a_cons x_str (a_cons x_int a_nil))) (a_cons (x_var 2) (a_cons (x_tup (a_cons x_str (a_cons x_int (a_cons x_int a_nil)))) (a_cons (x_tup (a_cons x_str (a_cons x_int a_nil))) (a_cons (x_tup (a_cons x_str (a_cons x_int a_nil))) a_nil)))))))))))))))))))) a_nil))))))) ss_nil)
  (ss_cons (s_if (b_cmp (op_eqD hr.units) eqM_ok (x_callB call_len lenM_ok G.n_len rfl (a_cons (x_var 1) a_nil)) x_int) (ss_one (s_ret (x_tup (a_cons x_str (a_cons (x_call o__law_next (hr.mono (by omega)) tk (a_cons (x_var 0) (a_cons x_int a_nil))) a_nil))))) ss_nil)
  (ss_cons (s_set sc__law_bent.nd rfl (by first | exact Or.inl rfl | exact Or.inr rfl) (x_ix (x_var 1) x_int))
  (ss_cons (s_set sc__law_bent.nd rfl (by first | exact Or.inl rfl | exact Or.inr rfl) (x_call o__law_next (hr.mono (by omega)) tk (a_cons (x_var 0) (a_cons x_int a_nil))))
  (ss_cons (s_if (b_cmp (op_eqD hr.units) eqM_ok (x_var 5) x_int) (ss_one (s_ret (x_tup (a_cons (x_ix (x_var 1) x_int) (a_cons (x_call o__law_pick (hr.mono (by omega)) tk (a_cons (x_var 0) (a_cons (x_lst (a_cons (x_call o__law_next (hr.mono (by omega)) tk (a_cons (x_var 0) (a_cons x_int a_nil))) (a_cons x_bl (a_cons x_non (a_cons (x_neg x_int) (a_cons x_str a_nil)))))) a_nil))) (a_cons (x_var 4) a_nil)))))) ss_nil)
  (ss_cons (s_if (PW.pt (b_or (b_cmp (op_eqD hr.units) eqM_ok (x_var 5) x_int) (b_or (b_not (b_tru (x_isi (by decide) G.n_isinstance G.n_tuple rfl (x_var 4)))) (b_or1 (b_not (b_tru (x_var 4))))))) (ss_one (s_ret (x_tup (a_cons (x_ix (x_var 1) x_int) (a_cons (x_ix (x_var 1) x_int) (a_cons (x_call o__law_pick (hr.mono (by omega)) tk (a_cons (x_var 0) (a_cons (x_if (b_tru (x_isi (by decide) G.n_isinstance G.n_tuple rfl (x_var 4))) (x_lst (a_cons (x_cut (x_var 4) (o_some x_int) o_none) (a_cons (x_op op_addAll addM_ok (x_var 4) (x_cut (x_var 4) o_none (o_some x_int))) (a_cons (x_rev (x_var 4)) (a_cons (x_callTy call_list_of listM_ok G.n_list rfl (a_cons (x_var 4) a_nil)) (a_cons x_non a_nil)))))) (x_lst (a_cons x_non a_nil))) a_nil))) a_nil)))))) ss_nil)
  (ss_cons (s_set sc__law_bent.nd rfl (by first | exact Or.inl rfl | exact Or.inr rfl) (x_call o__law_next (hr.mono (by omega)) tk (a_cons (x_var 0) (a_cons (x_callB call_len lenM_ok G.n_len rfl (a_cons (x_var 4) a_nil)) a_nil))))
  (ss_one (s_ret (x_tup (a_cons (x_ix (x_var 1) x_int) (a_cons (x_ix (x_var 1) x_int) (a_cons (x_op op_addAll addM_ok (x_op op_addAll addM_ok (x_cut (x_var 4) o_none (o_some (x_var 6))) (x_tup (a_cons (x_call o__law_bent (hr.mono (by omega)) tk (a_cons (x_var 0) (a_cons (x_ix (x_var 4) (x_var 6)) a_nil))) a_nil))) (x_cut (x_var 4) (o_some (x_op op_addAll addM_ok (x_var 6) x_int)) o_none)) a_nil)))))))))))))
theorem sc__law_changed : FnScope ["_law_stream_here", "_law_graph_here", "_law_told", "_law_pick_here", "_law_rows_here", "_law_row", "_law_at"] ["_law_stream_here", "_law_graph_here", "_law_told"] (defScope (top 67)) := ⟨rfl, rfl, rfl, by decide +kernel, rfl, by decide +kernel, by decide +kernel⟩
def m__law_changed : SX := (sSeq (sSet 3 (eCall 2 F__law_next (aCons (eVar 0) (aCons (eC (.int 4)) aNil))))
  (sSeq (sSet 4 (eCall 2 F__law_rows (aCons (eOp2 idxM (eVar 1) (eC (.int 0))) (aCons (eCB lenM (aCons (eUn (eCall 2 F__law_variables (aCons (eVar 1) (aCons (eCall 1 F__law_every (aCons (eVar 1) aNil)) aNil)))) aNil)) aNil))))
  (sSeq (sIf (bVal (eOp2 (eqM false) (eVar 3) (eC (.int 0)))) (sRet (eCall 2 F__law_pick (aCons (eVar 0) (aCons (eLst (aCons (eC .none) (aCons (eTup aNil) (aCons (eCB listM (aCons (eVar 2) aNil)) (aCons (eOp2 addM (eVar 2) (eTup (aCons (eC (.int 0)) aNil))) (aCons (eCut (eVar 2) oNone (oSome (eC (.int 1)))) (aCons (eOp2 addM (eTup (aCons (eC (.str "never")) aNil)) (eCut (eVar 2) (oSome (eC (.int 1))) oNone)) (aCons (eOp2 addM (eTup (aCons (eC (.str "always")) aNil)) (eCut (eVar 2) (oSome (eC (.int 1))) oNone)) (aCons (eOp2 addM (eTup (aCons (eC (.str "sometimes")) aNil)) (eCut (eVar 2) (oSome (eC (.int 1))) oNone)) (aCons (eOp2 addM (eTup (aCons (eC .none) aNil)) (eCut (eVar 2) (oSome (eC (.int 1))) oNone)) (aCons (eCut (eVar 2) oNone (oSome (eOp1 negM (eC (.int 1))))) (aCons (eOp2 addM (eTup (aCons (eC (.str "sometimes")) aNil)) (eOp1 (revM (some 0)) (eVar 2))) aNil)))))))))))) aNil)))) sSkip)
  (sSeq (sIf (bVal (eOp2 (eqM false) (eCB lenM (aCons (eVar 2) aNil)) (eC (.int 2)))) (sRet (eTup (aCons (eOp2 idxM (eVar 2) (eC (.int 0))) (aCons (eCall 2 (F__law_bent 8) (aCons (eVar 0) (aCons (eOp2 idxM (eVar 2) (eC (.int 1))) aNil))) aNil)))) sSkip)
  (sSeq (sSet 5 (eCall 2 F__law_pick (aCons (eVar 0) (aCons (eLst (aCons (eCall 2 F__law_pick (aCons (eVar 0) (aCons (eVar 4) aNil))) (aCons (eCB listM (aCons (eOp2 idxM (eVar 4) (eC (.int 0))) aNil)) (aCons (eOp2 addM (eOp2 idxM (eVar 4) (eC (.int 0))) (eTup (aCons (eC (.int 0)) aNil))) (aCons (eC .none) (aCons (eOp2 repM (eTup (aCons (eC (.bool true)) aNil)) (eCB lenM (aCons (eOp2 idxM (eVar 4) (eC (.int 0))) aNil))) aNil)))))) aNil))))
  (sSeq (sIf (bVal (eOp2 (eqM false) (eVar 3) (eC (.int 1)))) (sRet (eTup (aCons (eOp2 idxM (eVar 2) (eC (.int 0))) (aCons (eVar 5) (aCons (eOp2 idxM (eVar 2) (eC (.int 2))) aNil))))) sSkip)
  (sSeq (sIf (bVal (eOp2 (eqM false) (eOp2 idxM (eVar 2) (eC (.int 0))) (eC (.str "sometimes")))) (sRet (eOp2 addM (eCut (eVar 2) oNone (oSome (eC (.int 2)))) (eTup (aCons (eVar 5) aNil)))) sSkip)
  (sSeq (sIf (bOr (bNot (bTru (eOp1 (isiM "tuple") (eOp2 idxM (eVar 2) (eC (.int 2)))))) (bNot (bTru (eOp2 idxM (eVar 2) (eC (.int 2)))))) (sRet (eVar 2)) sSkip)
  (sSeq (sSet 6 (eCall 2 F__law_next (aCons (eVar 0) (aCons (eCB lenM (aCons (eOp2 idxM (eVar 2) (eC (.int 2))) aNil)) aNil))))
  (sRet (eOp2 addM (eCut (eVar 2) oNone (oSome (eC (.int 2)))) (eTup (aCons (eCall 2 F__law_pick (aCons (eVar 0) (aCons (eLst (aCons (eOp2 addM (eOp2 addM (eCut (eOp2 idxM (eVar 2) (eC (.int 2))) oNone (oSome (eVar 6))) (eTup (aCons (eCall 2 (F__law_bent 8) (aCons (eVar 0) (aCons (eOp2 idxM (eOp2 idxM (eVar 2) (eC (.int 2))) (eVar 6)) aNil))) aNil))) (eCut (eOp2 idxM (eVar 2) (eC (.int 2))) (oSome (eOp2 addM (eVar 6) (eC (.int 1)))) oNone)) (aCons (eCut (eOp2 idxM (eVar 2) (eC (.int 2))) (oSome (eC (.int 1))) oNone) (aCons (eOp2 addM (eOp2 idxM (eVar 2) (eC (.int 2))) (eCut (eOp2 idxM (eVar 2) (eC (.int 2))) oNone (oSome (eC (.int 1))))) (aCons (eCB listM (aCons (eOp2 idxM (eVar 2) (eC (.int 2))) aNil)) aNil))))) aNil))) aNil)))))))))))))
def F__law_changed : FF := mkFn true 3 7 m__law_changed
theorem ok__law_changed (G : Globs mg) (F : FnP K "_law_changed" (top 67) f fd) (hm : mg "_law_changed" = some (.ref f)) (o__law_next : OkD P w K mg base 1 "_law_next" F__law_next ["_law_stream_here", "_law_many"]) (o__law_rows : OkD P w K mg base 1 "_law_rows" F__law_rows ["_law_values", "_law_many"]) (o__law_variables : OkD P w K mg base 1 "_law_variables" F__law_variables ["_law_graph_here", "_law_nodes"]) (o__law_every : OkD P w K mg base 1 "_law_every" F__law_every ["_law_graph_here"]) (o__law_pick : OkD P w K mg base 2 "_law_pick" F__law_pick ["_law_stream_here", "_law_rows_here"]) (o__law_bent : OkD P w K mg base 11 "_law_bent" (F__law_bent 8) ["_law_stream_here", "_law_tree"]) : OkD P w K mg base 12 "_law_changed" F__law_changed ["_law_stream_here", "_law_graph_here", "_law_told"] := by
  refine OkD.mk F hm (FunD.bindsN F fun _ _ _ _ _ _ us hl => match us, hl with | [_, _, _], _ => rfl) sc__law_changed rfl rfl fun cd A outer s H E hr => ?_
  have tk := takes_cx (P := P) (w := w) (K := K) (mg := mg) (base := base) (N := ["_law_stream_here", "_law_graph_here", "_law_told", "_law_pick_here", "_law_rows_here", "_law_row", "_law_at"]) (qual := "_law_changed") (scope := defScope (top 67)) (f := f) (cd := cd) (A := A) (outer := outer) (s := s) (H := H) (E := E)
  exact (ss_cons (s_set sc__law_changed.nd rfl (by first | exact Or.inl rfl | exact Or.inr rfl) (x_call o__law_next (hr.mono (by omega)) tk (a_cons (x_var 0) (a_cons x_int a_nil))))
  (ss_cons (s_set sc__law_changed.nd rfl (by first | exact Or.inl rfl | exact Or.inr rfl) (x_call o__law_rows (hr.mono (by omega)) tk (a_cons (x_ix (x_var 1) x_int) (a_cons (x_callB call_len lenM_ok G.n_len rfl (a_cons (x_un (x_call o__law_variables (hr.mono (by omega)) tk (a_cons (x_var 1) (a_cons (x_call o__law_every (hr.mono (by omega)) tk (a_cons (x_var 1) a_nil)) a_nil)))) a_nil)) a_nil))))
  (ss_cons (s_if (b_cmp (op_eqD hr.units) eqM_ok (x_var 3) x_int) (ss_one (s_ret (x_call o__law_pick (hr.mono (by omega)) tk (a_cons (x_var 0) (a_cons (x_lst (a_cons x_non (a_cons (x_tup a_nil) (a_cons (x_callTy call_list_of listM_ok G.n_list rfl (a_cons (x_var 2) a_nil)) (a_cons (x_op op_addAll addM_ok (x_var 2) (x_tup (a_cons x_int a_nil))) (a_cons (x_cut (x_var 2) o_none (o_some x_int)) (a_cons (x_op op_addAll addM_ok (x_tup (a_cons x_str a_nil)) (x_cut (x_var 2) (o_some x_int) o_none)) (a_cons (x_op op_addAll addM_ok (x_tup (a_cons x_str a_nil)) (x_cut (x_var 2) (o_some x_int) o_none)) (a_cons (x_op op_addAll addM_ok (x_tup (a_cons x_str a_nil)) (x_cut (x_var 2) (o_some x_int) o_none)) (a_cons (x_op op_addAll addM_ok (x_tup (a_cons x_non a_nil)) (x_cut (x_var 2) (o_some x_int) o_none)) (a_cons (x_cut (x_var 2) o_none (o_some (x_neg x_int))) (a_cons (x_op op_addAll addM_ok (x_tup (a_cons x_str a_nil)) (x_rev0 (x_var 2))) a_nil)))))))))))) a_nil))))) ss_nil)
  (ss_cons (s_if (b_cmp (op_eqD hr.units) eqM_ok (x_callB call_len lenM_ok G.n_len rfl (a_cons (x_var 2) a_nil)) x_int) (ss_one (s_ret (x_tup (a_cons (x_ix (x_var 2) x_int) (a_cons (x_call o__law_bent (hr.mono (by omega)) tk (a_cons (x_var 0) (a_cons (x_ix (x_var 2) x_int) a_nil))) a_nil))))) ss_nil)
  (ss_cons (s_set sc__law_changed.nd rfl (by first | exact Or.inl rfl | exact Or.inr rfl) (x_call o__law_pick (hr.mono (by omega)) tk (a_cons (x_var 0) (a_cons (x_lst (a_cons (x_call o__law_pick (hr.mono (by omega)) tk (a_cons (x_var 0) (a_cons (x_var 4) a_nil))) (a_cons (x_callTy call_list_of listM_ok G.n_list rfl (a_cons (x_ix (x_var 4) x_int) a_nil)) (a_cons (x_op op_addAll addM_ok (x_ix (x_var 4) x_int) (x_tup (a_cons x_int a_nil))) (a_cons x_non (a_cons (x_op op_repAny repM_ok (x_tup (a_cons x_bl a_nil)) (x_callB call_len lenM_ok G.n_len rfl (a_cons (x_ix (x_var 4) x_int) a_nil))) a_nil)))))) a_nil))))
  (ss_cons (s_if (b_cmp (op_eqD hr.units) eqM_ok (x_var 3) x_int) (ss_one (s_ret (x_tup (a_cons (x_ix (x_var 2) x_int) (a_cons (x_var 5) (a_cons (x_ix (x_var 2) x_int) a_nil)))))) ss_nil)
  (ss_cons (s_if (b_cmp (op_eqD hr.units) eqM_ok (x_ix (x_var 2) x_int) x_str) (ss_one (s_ret (x_op op_addAll addM_ok (x_cut (x_var 2) o_none (o_some x_int)) (x_tup (a_cons (x_var 5) a_nil))))) ss_nil)
  (ss_cons (s_if (PW.pt (b_or (b_not (b_tru (x_isi (by decide) G.n_isinstance G.n_tuple rfl (x_ix (x_var 2) x_int)))) (b_or1 (b_not (b_tru (x_ix (x_var 2) x_int)))))) (ss_one (s_ret (x_var 2))) ss_nil)
  (ss_cons (s_set sc__law_changed.nd rfl (by first | exact Or.inl rfl | exact Or.inr rfl) (x_call o__law_next (hr.mono (by omega)) tk (a_cons (x_var 0) (a_cons (x_callB call_len lenM_ok G.n_len rfl (a_cons (x_ix (x_var 2) x_int) a_nil)) a_nil))))
  (ss_one (s_ret (x_op op_addAll addM_ok (x_cut (x_var 2) o_none (o_some x_int)) (x_tup (a_cons (x_call o__law_pick (hr.mono (by omega)) tk (a_cons (x_var 0) (a_cons (x_lst (a_cons (x_op op_addAll addM_ok (x_op op_addAll addM_ok (x_cut (x_ix (x_var 2) x_int) o_none (o_some (x_var 6))) (x_tup (a_cons (x_call o__law_bent (hr.mono (by omega)) tk (a_cons (x_var 0) (a_cons (x_ix (x_ix (x_var 2) x_int) (x_var 6)) a_nil))) a_nil))) (x_cut (x_ix (x_var 2) x_int) (o_some (x_op op_addAll addM_ok (x_var 6) x_int)) o_none)) (a_cons (x_cut (x_ix (x_var 2) x_int) (o_some x_int) o_none) (a_cons (x_op op_addAll addM_ok (x_ix (x_var 2) x_int) (x_cut (x_ix (x_var 2) x_int) o_none (o_some x_int))) (a_cons (x_callTy call_list_of listM_ok G.n_list rfl (a_cons (x_ix (x_var 2) x_int) a_nil)) a_nil))))) a_nil))) a_nil))))))))))))))
def C1_law : EX W := eLc lcFin (iRg1 (eOp2 idxM (eVar 2) (eC (.int 0)))) (.n 16) (bVal (eOp2 (eqM true) (eVar 16) (eVar 6))) (eVar 16) [16]
def C2_law : EX W := eLc lcFin (iSeq (eVar 10)) (.n 16) bYes (eCall 4 (F__law_made_tree 7) (aCons (eVar 1) (aCons (eVar 2) (aCons (eVar 3) (aCons (eDisp [((eVar 5), (eVar 16))]) aNil))))) [16]
def L1_law : SX := sTidy [13, 14, 15] (sSeq (sSet 14 (eIf (bVal (eOp2 ltM (eVar 13) (eC (.int 4)))) (eOp2 idxM (eVar 12) (eVar 13)) (eCall 3 F__law_changed (aCons (eVar 1) (aCons (eVar 2) (aCons (eCall 2 F__law_pick (aCons (eVar 1) (aCons (eOp2 addM (eVar 12) (eLst (aCons (eVar 8) aNil))) aNil))) aNil))))))
  (sSeq (sSet 15 (eCall 5 F__law_accepted (aCons (eVar 2) (aCons (eVar 3) (aCons (eVar 5) (aCons (eVar 6) (aCons (eVar 14) aNil)))))))
  (sIf (bOr (bNot (bTru (eCall 2 (F__law_equal 5) (aCons (eCall 5 F_accepts_verdict (aCons (eVar 2) (aCons (eVar 3) (aCons (eVar 5) (aCons (eVar 6) (aCons (eVar 14) aNil)))))) (aCons (eVar 15) aNil))))) (bAnd (bTru (eVar 15)) (bVal (eOp2 (eqM true) (eOp2 idxM (eVar 14) (eC (.int 0))) (eVar 7))))) (sRet (eC (.bool false))) sSkip)))
theorem sc_law : FnScope ["_law_script", "_law_stream_here", "_law_graph_here", "_law_tables_here", "_law_some", "_law_variable", "_law_value", "_law_word", "_law_told", "_law_rows_here", "_law_others", "_law_trees", "_law_made", "_law_turn", "_law_row", "_law_due", "_law_one"] ["_law_script"] (defScope (top 68)) := ⟨rfl, rfl, rfl, by decide +kernel, rfl, by decide +kernel, by decide +kernel⟩
def m_law : SX := (sSeq (sSet 1 (eCall 1 F__law_stream (aCons (eVar 0) aNil)))
  (sSeq (sSet 2 (eCall 3 F__law_graph (aCons (eVar 1) (aCons (eC (.int 3)) (aCons (eC (.int 2)) aNil)))))
  (sSeq (sSet 3 (eCall 2 F__law_tables (aCons (eVar 1) (aCons (eVar 2) aNil))))
  (sSeq (sSet 4 (eCall 2 F__law_variables (aCons (eVar 2) (aCons (eCall 1 F__law_every (aCons (eVar 2) aNil)) aNil))))
  (sSeq (sIf (bVal (eOp2 (eqM false) (eUn (eVar 4)) (eTup aNil))) (sRet (eC (.bool true))) sSkip)
  (sSeq (sSet 5 (eCall 2 F__law_pick (aCons (eVar 1) (aCons (eUn (eVar 4)) aNil))))
  (sSeq (sSet 6 (eCall 2 F__law_next (aCons (eVar 1) (aCons (eOp2 idxM (eVar 2) (eC (.int 0))) aNil))))
  (sSeq (sSet 7 (eCall 4 F_verdict (aCons (eVar 2) (aCons (eVar 3) (aCons (eVar 5) (aCons (eVar 6) aNil))))))
  (sSeq (sSet 8 (eCall 4 F_verdict_evidence (aCons (eVar 2) (aCons (eVar 3) (aCons (eVar 5) (aCons (eVar 6) aNil))))))
  (sSeq (sIf (bOr (bVal (eOp2 (eqM true) (eOp2 idxM (eVar 8) (eC (.int 0))) (eVar 7))) (bOr (bVal (eOp2 (isBlM true) (eCall 5 F_accepts_verdict (aCons (eVar 2) (aCons (eVar 3) (aCons (eVar 5) (aCons (eVar 6) (aCons (eVar 8) aNil)))))) (eC (.bool true)))) (bNot (bTru (eCall 5 F__law_accepted (aCons (eVar 2) (aCons (eVar 3) (aCons (eVar 5) (aCons (eVar 6) (aCons (eVar 8) aNil)))))))))) (sRet (eC (.bool false))) sSkip)
  (sSeq (sSet 9 (eCall 2 F__law_rows (aCons (eOp2 idxM (eVar 2) (eC (.int 0))) (aCons (eCB lenM (aCons (eUn (eVar 4)) aNil)) aNil))))
  (sSeq (sSet 10 C1_law)
  (sSeq (sSet 11 (eCB tupleM (aCons C2_law aNil)))
  (sSeq (sSet 12 (eLst (aCons (eVar 8) (aCons (eTup (aCons (eC (.str "never")) (aCons (eCall 4 (F__law_made_tree 7) (aCons (eVar 1) (aCons (eVar 2) (aCons (eVar 3) (aCons (eDisp [((eVar 5), (eVar 6))]) aNil))))) aNil))) (aCons (eTup (aCons (eC (.str "always")) (aCons (eCall 2 F__law_pick (aCons (eVar 1) (aCons (eVar 9) aNil))) (aCons (eVar 11) aNil)))) (aCons (eTup (aCons (eC (.str "sometimes")) (aCons (eCall 2 F__law_pick (aCons (eVar 1) (aCons (eVar 9) aNil))) (aCons (eCall 2 F__law_pick (aCons (eVar 1) (aCons (eVar 9) aNil))) aNil)))) aNil))))))
  (sSeq (sFor (iRg1 (eC (.int 10))) (.n 13) L1_law)
  (sRet (eC (.bool true))))))))))))))))))
def F_law : FF := mkFn true 1 17 m_law
theorem ok_law (G : Globs mg) (F : FnP K "law" (top 68) f fd) (o__law_stream : OkD P w K mg base 1 "_law_stream" F__law_stream ["_law_script"]) (o__law_graph : OkD P w K mg base 3 "_law_graph" F__law_graph ["_law_stream_here", "_law_nodes", "_law_widest"]) (o__law_tables : OkD P w K mg base 4 "_law_tables" F__law_tables ["_law_stream_here", "_law_graph_here"]) (o__law_variables : OkD P w K mg base 1 "_law_variables" F__law_variables ["_law_graph_here", "_law_nodes"]) (o__law_every : OkD P w K mg base 1 "_law_every" F__law_every ["_law_graph_here"]) (o__law_pick : OkD P w K mg base 2 "_law_pick" F__law_pick ["_law_stream_here", "_law_rows_here"]) (o__law_next : OkD P w K mg base 1 "_law_next" F__law_next ["_law_stream_here", "_law_many"]) (o_verdict : OkD P w K mg base 9 "verdict" F_verdict ["graph", "tables", "variable", "value"]) (o_verdict_evidence : OkD P w K mg base 11 "verdict_evidence" F_verdict_evidence ["graph", "tables", "variable", "value"]) (o_accepts_verdict : OkD P w K mg base 11 "accepts_verdict" F_accepts_verdict ["graph", "tables", "variable", "value", "evidence"]) (o__law_accepted : OkD P w K mg base 10 "_law_accepted" F__law_accepted ["_law_graph_here", "_law_tables_here", "_law_variable", "_law_value", "_law_told"]) (o__law_rows : OkD P w K mg base 1 "_law_rows" F__law_rows ["_law_values", "_law_many"]) (o__law_made_tree : OkD P w K mg base 10 "_law_made_tree" (F__law_made_tree 7) ["_law_stream_here", "_law_graph_here", "_law_tables_here", "_law_known"]) (o__law_changed : OkD P w K mg base 12 "_law_changed" F__law_changed ["_law_stream_here", "_law_graph_here", "_law_told"]) (o__law_equal : OkD P w K mg base 7 "_law_equal" (F__law_equal 5) ["_law_actual", "_law_due"]) : FnOk P w K mg base (L2.CX P w) 13 f fd ["_law_script"] (SpF K F_law 1) := by
  refine fn_mk F sc_law rfl rfl fun cd A outer s H E hr => ?_
  have tk := takes_cx (P := P) (w := w) (K := K) (mg := mg) (base := base) (N := ["_law_script", "_law_stream_here", "_law_graph_here", "_law_tables_here", "_law_some", "_law_variable", "_law_value", "_law_word", "_law_told", "_law_rows_here", "_law_others", "_law_trees", "_law_made", "_law_turn", "_law_row", "_law_due", "_law_one"]) (qual := "law") (scope := defScope (top 68)) (f := f) (cd := cd) (A := A) (outer := outer) (s := s) (H := H) (E := E)
  exact (ss_cons (s_set sc_law.nd rfl (by first | exact Or.inl rfl | exact Or.inr rfl) (x_call o__law_stream (hr.mono (by omega)) tk (a_cons (x_var 0) a_nil)))
  (ss_cons (s_set sc_law.nd rfl (by first | exact Or.inl rfl | exact Or.inr rfl) (x_call o__law_graph (hr.mono (by omega)) tk (a_cons (x_var 1) (a_cons x_int (a_cons x_int a_nil)))))
  (ss_cons (s_set sc_law.nd rfl (by first | exact Or.inl rfl | exact Or.inr rfl) (x_call o__law_tables (hr.mono (by omega)) tk (a_cons (x_var 1) (a_cons (x_var 2) a_nil))))
  (ss_cons (s_set sc_law.nd rfl (by first | exact Or.inl rfl | exact Or.inr rfl) (x_call o__law_variables (hr.mono (by omega)) tk (a_cons (x_var 2) (a_cons (x_call o__law_every (hr.mono (by omega)) tk (a_cons (x_var 2) a_nil)) a_nil))))
  (ss_cons (s_if (b_cmp (op_eqD hr.units) eqM_ok (x_un (x_var 4)) (x_tup a_nil)) (ss_one (s_ret x_bl)) ss_nil)
  (ss_cons (s_set sc_law.nd rfl (by first | exact Or.inl rfl | exact Or.inr rfl) (x_call o__law_pick (hr.mono (by omega)) tk (a_cons (x_var 1) (a_cons (x_un (x_var 4)) a_nil))))
  (ss_cons (s_set sc_law.nd rfl (by first | exact Or.inl rfl | exact Or.inr rfl) (x_call o__law_next (hr.mono (by omega)) tk (a_cons (x_var 1) (a_cons (x_ix (x_var 2) x_int) a_nil))))
  (ss_cons (s_set sc_law.nd rfl (by first | exact Or.inl rfl | exact Or.inr rfl) (x_call o_verdict (hr.mono (by omega)) tk (a_cons (x_var 2) (a_cons (x_var 3) (a_cons (x_var 5) (a_cons (x_var 6) a_nil))))))
  (ss_cons (s_set sc_law.nd rfl (by first | exact Or.inl rfl | exact Or.inr rfl) (x_call o_verdict_evidence (hr.mono (by omega)) tk (a_cons (x_var 2) (a_cons (x_var 3) (a_cons (x_var 5) (a_cons (x_var 6) a_nil))))))
  (ss_cons (s_if (PW.pt (b_or (b_cmp (op_neD hr.units) neM_ok (x_ix (x_var 8) x_int) (x_var 7)) (b_or (b_cmp op_isnot_bl isntBlM_ok (x_call o_accepts_verdict (hr.mono (by omega)) tk (a_cons (x_var 2) (a_cons (x_var 3) (a_cons (x_var 5) (a_cons (x_var 6) (a_cons (x_var 8) a_nil)))))) x_bl) (b_or1 (b_not (b_tru (x_call o__law_accepted (hr.mono (by omega)) tk (a_cons (x_var 2) (a_cons (x_var 3) (a_cons (x_var 5) (a_cons (x_var 6) (a_cons (x_var 8) a_nil)))))))))))) (ss_one (s_ret x_bl)) ss_nil)
  (ss_cons (s_set sc_law.nd rfl (by first | exact Or.inl rfl | exact Or.inr rfl) (x_call o__law_rows (hr.mono (by omega)) tk (a_cons (x_ix (x_var 2) x_int) (a_cons (x_callB call_len lenM_ok G.n_len rfl (a_cons (x_un (x_var 4)) a_nil)) a_nil))))
  (ss_cons (s_setLc (own := [("_law_one", 16)]) lcFin_ok rfl rfl sc_law.nd rfl rfl (sw_true rfl rfl rfl (by decide +kernel)) (i_rg1 G.n_range (x_ix (x_var 2) x_int)) (blkOk_by (by kernel_rfl)) (fun _ _ _ _ _ => (g_name sc_law.nd rfl (by first | exact Or.inl rfl | exact Or.inr rfl))) (fun _ _ _ _ _ => (ts_one (b_cmp (op_neD hr.units) neM_ok (x_var 16) (x_var 6)))) (fun _ _ _ _ _ => (x_var 16)))
  (ss_cons (s_set sc_law.nd rfl (by first | exact Or.inl rfl | exact Or.inr rfl) (x_callTy call_tuple_of tupleM_ok G.n_tuple rfl (a_cons (x_lc (own := [("_law_one", 16)]) lcFin_ok rfl rfl sc_law.nd (i_seq (x_var 10)) (blkOk_by (by kernel_rfl)) (fun _ _ _ _ _ => (g_name sc_law.nd rfl (by first | exact Or.inl rfl | exact Or.inr rfl))) (fun _ _ _ _ _ => ts_nil) (fun _ _ _ _ _ => (x_call o__law_made_tree (hr.mono (by omega)) takes0 (a_cons (x_var 1) (a_cons (x_var 2) (a_cons (x_var 3) (a_cons (x_disp (ps := [((eVar 5), (eVar 16))]) (pps_cons (x_var 5) (x_var 16) pps_nil)) a_nil))))))) a_nil)))
  (ss_cons (s_set sc_law.nd rfl (by first | exact Or.inl rfl | exact Or.inr rfl) (x_lst (a_cons (x_var 8) (a_cons (x_tup (a_cons x_str (a_cons (x_call o__law_made_tree (hr.mono (by omega)) tk (a_cons (x_var 1) (a_cons (x_var 2) (a_cons (x_var 3) (a_cons (x_disp (ps := [((eVar 5), (eVar 6))]) (pps_cons (x_var 5) (x_var 6) pps_nil)) a_nil))))) a_nil))) (a_cons (x_tup (a_cons x_str (a_cons (x_call o__law_pick (hr.mono (by omega)) tk (a_cons (x_var 1) (a_cons (x_var 9) a_nil))) (a_cons (x_var 11) a_nil)))) (a_cons (x_tup (a_cons x_str (a_cons (x_call o__law_pick (hr.mono (by omega)) tk (a_cons (x_var 1) (a_cons (x_var 9) a_nil))) (a_cons (x_call o__law_pick (hr.mono (by omega)) tk (a_cons (x_var 1) (a_cons (x_var 9) a_nil))) a_nil)))) a_nil))))))
  (ss_cons (s_for owns_cx rfl (i_rg1 G.n_range x_int) (g_name sc_law.nd rfl (by first | exact Or.inl rfl | exact Or.inr rfl)) (ss_tidy [13, 14, 15] (ss_cons (s_set sc_law.nd rfl (by first | exact Or.inl rfl | exact Or.inr rfl) (x_if (b_cmp (op_ltAll hr.units0) ltM_ok (x_var 13) x_int) (x_ix (x_var 12) (x_var 13)) (x_call o__law_changed (hr.mono (by omega)) tk (a_cons (x_var 1) (a_cons (x_var 2) (a_cons (x_call o__law_pick (hr.mono (by omega)) tk (a_cons (x_var 1) (a_cons (x_op op_addAll addM_ok (x_var 12) (x_lst (a_cons (x_var 8) a_nil))) a_nil))) a_nil))))))
  (ss_cons (s_set sc_law.nd rfl (by first | exact Or.inl rfl | exact Or.inr rfl) (x_call o__law_accepted (hr.mono (by omega)) tk (a_cons (x_var 2) (a_cons (x_var 3) (a_cons (x_var 5) (a_cons (x_var 6) (a_cons (x_var 14) a_nil)))))))
  (ss_one (s_if (PW.pt (b_or (b_not (b_tru (x_call o__law_equal (hr.mono (by omega)) tk (a_cons (x_call o_accepts_verdict (hr.mono (by omega)) tk (a_cons (x_var 2) (a_cons (x_var 3) (a_cons (x_var 5) (a_cons (x_var 6) (a_cons (x_var 14) a_nil)))))) (a_cons (x_var 15) a_nil))))) (b_or1 (PW.pt (b_and (b_tru (x_var 15)) (b_and1 (b_cmp (op_neD hr.units) neM_ok (x_ix (x_var 14) x_int) (x_var 7)))))))) (ss_one (s_ret x_bl)) ss_nil))))))
  (ss_one (s_ret x_bl)))))))))))))))))
end
end Mir.K60

namespace Mir.K60
open PySem PySem.Spec PyProof.Rows L2
def isW (d : PyData) (lo hi : Int) : Bool := match d with
  | .int i => decide (lo ≤ i) && decide (i ≤ hi)
  | _ => false
def nd : PyData → Bool
  | .dict _ => false
  | _ => true
theorem q_is_whole (d : PyData) (lo hi : Int) (m : Hm) (h : nd d = true) : F_is_whole [.p d, .p (.int lo), .p (.int hi)] m = .ok (.p (.bool (isW d lo hi))) m := by
  unfold F_is_whole mkFn m_is_whole
  cases d with
  | int i =>
    by_cases h1 : lo ≤ i <;> by_cases h2 : i ≤ hi <;> simp [startE, isiM, tyN, isiA, isW, h1, h2, endFn_p]
  | dict => cases h
  | _ => simp [startE, isiM, tyN, isiA, isW, endFn_p]
theorem all_true {m : Hm} {α : Type} (xs : List α) : allM true [.p (.list (xs.map fun _ => .bool true))] m = .ok (.p (.bool true)) m := by
  have := o_all (m := m) (xs.map fun _ => true)
  simp only [List.map_map, Function.comp_def] at this
  rw [this]
  simp
theorem q_climb {s : List Int} {m : Hm} (hs : s.Pairwise (· < ·)) (hl : s.length ≤ 64) : F_is_climbing [.p (sd s)] m = .ok (.p (.bool true)) m := by
  unfold F_is_climbing mkFn m_is_climbing C1_is_climbing
  cases s with
  | nil =>
    simp [startE]
    rw [lc_map ([] : List Int) (fun i => .p (.int i)) (fun _ => .bool true) (gs := []) (by simp [rgP]) rfl (by simp) fun z hz => by cases hz]
    simp [all_true]
    have := all_true (m := m) ([] : List Int)
    simp at this
    simp [this, endFn_p]
  | cons a s =>
    have e : ((s.length + 1 : Nat) : Int) - 1 = (s.length : Nat) := by omega
    have hl : s.length ≤ 63 := by simpa using hl
    simp [startE]
    rw [lc_map (rgI s.length) (fun i => .p (.int i)) (fun _ => .bool true) (gs := []) (by
      have := rg_it (n := s.length) (m := m) (by omega)
      simp at this ⊢
      exact this) rfl (by simp [rgI]; omega) fun z hz => ⟨_, rfl, ?_⟩]
    · simp [all_true, endFn_p]
    · obtain ⟨i, hi, rfl⟩ := List.mem_map.mp hz
      have hi := List.mem_range.mp hi
      have e1 : atI (.int a :: s.map PyData.int) (i : Int) = some (.int ((a :: s)[i]'(by simp; omega))) := by
        rw [atI_lit, ← List.map_cons, List.getElem?_map, List.getElem?_eq_getElem (by simp; omega)]; rfl
      have e2 : atI (.int a :: s.map PyData.int) ((i : Int) + 1) = some (.int ((a :: s)[i + 1]'(by simp; omega))) := by
        rw [show (i : Int) + 1 = ((i + 1 : Nat) : Int) from rfl, atI_lit, ← List.map_cons, List.getElem?_map, List.getElem?_eq_getElem (by simp; omega)]; rfl
      have lt := List.pairwise_iff_getElem.mp hs i (i + 1) (by simp; omega) (by simp; omega) (by omega)
      simp [wipeE, e1, e2]
      simpa using lt
theorem q_vars {s : List Int} {m : Hm} (hs : s.Pairwise (· < ·)) (hl : s.length ≤ 64) (hr : ∀ v ∈ s, 0 ≤ v ∧ v ≤ 5) : F_are_variables [.p (sd s)] m = .ok (.p (.bool true)) m := by
  unfold F_are_variables mkFn m_are_variables C1_are_variables
  simp [startE, isiM, tyN, isiA]
  rw [lc_map s (fun i => .p (.int i)) (fun _ => .bool true) (gs := []) (by simp [Function.comp_def]) rfl (by omega) fun z hz => ⟨_, rfl, by
    have := hr z hz
    simp [wipeE, q_is_whole (.int z) 0 5 m rfl, isW, this.1, this.2]⟩]
  simp [all_true, q_climb hs hl, endFn_p]
theorem q_scope {s : List Int} {m : Hm} (hs : s.Pairwise (· < ·)) (hl : s.length ≤ 3) (hr : ∀ v ∈ s, 0 ≤ v ∧ v ≤ 5) : F_is_scope [.p (sd s)] m = .ok (.p (.bool true)) m := by
  unfold F_is_scope mkFn m_is_scope
  have : (s.length : Int) ≤ 3 := by omega
  simp [startE, q_vars hs (by omega) hr, this, endFn_p]
def isInt : PyData → Bool
  | .int _ => true
  | _ => false
theorem q_isint {d : PyData} {m : Hm} (h : nd d = true) : F__law_is_integer [.p d] m = .ok (.p (.bool (isInt d))) m := by
  unfold F__law_is_integer mkFn m__law_is_integer
  cases d with
  | dict => cases h
  | _ => simp [startE, isiM, tyN, isiA, isInt, endFn_p]
theorem ix31 : ixN 3 1 = some 1 := rfl
theorem ix32 : ixN 3 2 = some 2 := rfl
theorem q_stream (ns : List Int) : F__law_stream [.ro (ns.map .int)] [] = .ok (.loc 0) [strm ns 0 0] := by
  unfold F__law_stream mkFn m__law_stream
  have e : allP (ns.map (W.p ∘ PyData.int)) = some (ns.map .int) := allP_ints ns
  simp [startE, listM, seqW, sizeLine_eq, e, endFn, okM, okW, strm]
def draws : SX := (sSeq (sSet 4 (eOp2 modM (eCB intM1 (aCons (eOp2 idxM (eVar 0) (eC (.int 1))) aNil)) (eVar 1)))
  (sSeq (sSetIx (eVar 0) (eC (.int 1)) (eOp2 divM (eOp2 idxM (eVar 0) (eC (.int 1))) (eVar 1)))
  (sRet (eVar 4))))
theorem q_draws {ns : List Int} {c k many : Int} {r : Hm} {s2 s3 : Option W} (h : 0 < many) (h2 : many < 1073741824) : draws [some (.loc 0), some (.p (.int many)), s2, s3, none] (strm ns c k :: r) = some (.rt (.p (.int (c % many))), strm ns (c / many) k :: r) := by
  unfold draws
  simp [strm, o_mod h, o_div h h2, setIx, ix31, ix32]
def mix : SX := (sSeq (sSet 3 (eOp2 modM (eCB intM1 (aCons (eOp2 addM (eOp2 addM (eOp2 mulI (eVar 3) (eC (.int 48271))) (eOp2 mulI (eVar 2) (eC (.int 69621)))) (eC (.int 11))) aNil)) (eC (.int 2147483647))))
  (sSet 3 (eOp2 addM (eOp2 mulI (eOp2 modM (eCB intM1 (aCons (eOp2 addM (eOp2 mulI (eVar 3) (eC (.int 16807))) (eC (.int 13))) aNil)) (eC (.int 2147483647))) (eC (.int 65537))) (eVar 3))))
theorem ex_mul (i j : Int) (h : smallI j = true) (m : Hm) : ∃ f, mulI (.p (.int i)) (.p (.int j)) m = .ok (.p (.int f)) m := ⟨_, o_mulr h⟩
theorem ex_mod (i j : Int) (h : 0 < j) (m : Hm) : ∃ f, modM (.p (.int i)) (.p (.int j)) m = .ok (.p (.int f)) m := ⟨_, o_mod h⟩
theorem q_mix (a b : Option W) (k c : Int) (m : Hm) : ∃ f, mix [a, b, some (.p (.int k)), some (.p (.int c)), none] m = some (.nx [a, b, some (.p (.int k)), some (.p (.int f)), none], m) := by
  obtain ⟨f1, e1⟩ := ex_mul c 48271 rfl m
  obtain ⟨f2, e2⟩ := ex_mul k 69621 rfl m
  obtain ⟨f3, e3⟩ := ex_mod (f1 + f2 + 11) 2147483647 (by omega) m
  obtain ⟨f4, e4⟩ := ex_mul f3 16807 rfl m
  obtain ⟨f5, e5⟩ := ex_mod (f4 + 13) 2147483647 (by omega) m
  obtain ⟨f6, e6⟩ := ex_mul f5 65537 rfl m
  refine ⟨f6 + f3, ?_⟩
  unfold mix
  generalize (2147483647 : Int) = M at e3 e5 ⊢
  simp [e1, e2, e3, e4, e5, e6]
/-- a number below many is drawn; the stream goes on -/
def Draw (ns : List Int) (many : Int) (r : Hm) (x : Res W) : Prop := ∃ (d c' : Int) (k' : Nat), x = .ok (.p (.int d)) (strm ns c' k' :: r) ∧ 0 ≤ d ∧ d < many
theorem q_next {ns : List Int} {c : Int} {k : Nat} {r : Hm} {many : Int} (h : 0 < many) (h2 : many < 1073741824) : Draw ns many r (F__law_next [.loc 0, .p (.int many)] (strm ns c k :: r)) := by
  have fin : ∀ (c' : Int) (k' : Nat) (s2 s3 : Option W), Draw ns many r (retE true (r.length + 1) (draws [some (.loc 0), some (.p (.int many)), s2, s3, none] (strm ns c' k' :: r))) := by
    intro c' k' s2 s3
    rw [q_draws h h2]
    exact ⟨c' % many, c' / many, k', endFn_len rfl, Int.emod_nonneg _ (by omega), Int.emod_lt_of_pos _ h⟩
  unfold F__law_next mkFn m__law_next
  rw [← draws, ← mix]
  obtain ⟨P, hP, B, hB⟩ : ∃ P : EX W, eOp2 powM (eC (.int 10)) (eC (.int 18)) = P ∧ ∃ B : Int, ∀ s m, P s m = .ok (.p (.int B)) m := ⟨_, rfl, 1000000000000000000, fun s m => rfl⟩
  rw [hP]
  clear hP
  by_cases c0 : c = 0
  · subst c0
    by_cases hk : k < ns.length
    · have hk' : (k : Int) < ns.length := by omega
      obtain ⟨n, hn⟩ : ∃ n, ns[k]? = some n := ⟨_, List.getElem?_eq_getElem hk⟩
      have e1 : atI (ns.map PyData.int) (k : Int) = some (.int n) := by rw [atI_lit]; simp [hn]
      by_cases hb : (if n < 0 then -n else n) < B
      · obtain ⟨f, hf⟩ := q_mix (some (.loc 0)) (some (.p (.int many))) k (if n < 0 then -n else n) (strm ns 0 k :: r)
        simp [startE, strm, hk', e1, hB, hb] at hf ⊢
        simp [hf, setIx, ix31, ix32]
        exact fin _ (k + 1) _ _
      · simp [startE, strm, hk', e1, hB, hb, setIx, ix31, ix32]
        exact fin _ (k + 1) _ _
    · have hk' : ¬ (k : Int) < ns.length := by omega
      obtain ⟨c1, hc1⟩ : ∃ c1 : Int, (7 : Int) + k = c1 := ⟨_, rfl⟩
      by_cases hb : c1 < B
      · obtain ⟨f, hf⟩ := q_mix (some (.loc 0)) (some (.p (.int many))) k c1 (strm ns 0 k :: r)
        simp [startE, strm, hk', hB, hc1, hb] at hf ⊢
        simp [hf, setIx, ix31, ix32]
        exact fin _ (k + 1) _ _
      · simp [startE, strm, hk', hB, hc1, hb, setIx, ix31, ix32]
        exact fin _ (k + 1) _ _
  · simp [startE, strm, c0]
    exact fin _ k _ _
end Mir.K60

namespace Mir.K60
open PySem PySem.Spec PyProof.Rows L2
/-! ### rows -/
def rows (q : Nat) : Nat → List (List Int)
  | 0 => [[]]
  | n + 1 => (rows q n).flatMap fun r => (rgI q).map fun v => r ++ [v]
theorem rows_len (q : Nat) : ∀ n, (rows q n).length = q ^ n
  | 0 => rfl
  | n + 1 => by
    have ih := rows_len q n
    have : ∀ l : List (List Int), (l.flatMap fun r => (rgI q).map fun v => r ++ [v]).length = l.length * q := by
      intro l
      induction l with
      | nil => simp
      | cons a l ih =>
        rw [List.flatMap_cons, List.length_append, ih, List.length_map, List.length_cons, Nat.succ_mul]
        simp [rgI, Nat.add_comm]
    rw [rows, this, ih, Nat.pow_succ]
theorem row_len {q n : Nat} {r : List Int} (h : r ∈ rows q n) : r.length = n := by
  induction n generalizing r with
  | zero => simp [rows] at h; subst h; rfl
  | succ n ih =>
    simp only [rows, List.mem_flatMap, List.mem_map] at h
    obtain ⟨r', h', v, _, rfl⟩ := h
    simp [ih h']
theorem rows_small {q n : Nat} (hq : q ≤ 3) (hn : n ≤ 6) : (rows q n).length ≤ 729 := by
  rw [rows_len]
  have h1 : q ^ n ≤ 3 ^ n := Nat.pow_le_pow_left hq n
  have h2 : 3 ^ n ≤ 3 ^ 6 := Nat.pow_le_pow_right (by omega) hn
  omega
theorem q_rows_of {q n : Nat} {m : Hm} (hw : okM m.length m = true) (hq : q ≤ 3) (hn : n ≤ 6) : F_rows_of [.p (.int q), .p (.int n)] m = .ok (.p (.list ((rows q n).map sd))) m := by
  unfold F_rows_of mkFn m_rows_of
  have b1 : decide (-1000000 ≤ (n : Int)) = true := decide_eq_true (by omega)
  have b2 : decide ((n : Int) ≤ 1000000) = true := decide_eq_true (by omega)
  simp [startE, sizeLine_eq, mkTup]
  have b3 : (n : Int) ≤ 1000000 := by omega
  have e5 : (rgP 0 (n : Int)).map W.p = (rgI n).map fun i => W.p (.int i) := by rw [rgP_eq]; simp
  simp only [b3, if_true, st_ok, e5]
  have key := for_rwP (gs := []) (t := .n 3) (e := fun i => W.p (.int i)) (xs := rgI n) (s := [some (.p (.int q)), some (.p (.int n)), some (.p (.list [.tuple []])), none, none, none]) (m := m)
    (body := L1_rows_of)
    (fun acc _ => .inl (acc.flatMap fun r => (rgI q).map fun v => r ++ [v])) (fun acc : List (List Int) => [some (.p (.int q)), some (.p (.int n)), some (.p (.list (acc.map sd))), none, none, none]) (fun _ => m) (fun pre acc => acc = rows q pre.length) [[]] rfl rfl (fun _ _ _ => rfl)
    (fun pre a post acc hx hi => ⟨⟨_, rfl, ?_⟩, fun b' e => ?_⟩) rfl
  · obtain ⟨b', e⟩ := loopE_total (st := fun (acc : List (List Int)) (_ : Int) => (Sum.inl (acc.flatMap fun r => (rgI q).map fun v => r ++ [v]) : List (List Int) ⊕ (W × Hm))) (fun b x => ⟨_, rfl⟩) (rgI n) [[]]
    have k2 := key.2 b' e
    rw [e] at key
    have k1 := key.1
    simp only [outE] at k1
    rw [k1]
    simp [k2, endFn_p, rgI]
  · have pl : pre.length + 1 ≤ n := by
      have := congrArg List.length hx
      simp [rgI] at this
      omega
    have hr : ∀ r ∈ acc, r.length ≤ 6 := fun r h => by rw [hi] at h; have := row_len h; omega
    have fm : (acc.map sd).flatMap (fun d => (rgI q).map fun v => match d with
        | .tuple xs => PyData.tuple (xs ++ [.int v])
        | d => d) = (acc.flatMap fun r => (rgI q).map fun v => r ++ [v]).map sd := by
      simp [List.flatMap_map, List.map_flatMap, Function.comp_def, sd]
    have ln : (acc.flatMap fun r => (rgI q).map fun v => r ++ [v]).length ≤ 729 := by
      rw [hi]
      exact rows_small (n := pre.length + 1) hq (by omega)
    simp only [L1_rows_of, q_tidy, q_set]
    rw [frz_lc2 (acc.map sd) .p (fun i => W.p (.int i)) (fun _ => rgI q) (fun d v => match d with
        | .tuple xs => PyData.tuple (xs ++ [.int v])
        | d => d) (by simp) hw (by rw [fm, List.length_map]; omega) fun d hd => ?_]
    · rw [fm]
      simp [outE, wipeE]
    · obtain ⟨r, hr', rfl⟩ := List.mem_map.mp hd
      refine ⟨_, rfl, fun m' => ?_, fun v hv => ⟨_, rfl, fun m' => ?_⟩⟩
      · have := rg_it (n := q) (m := m') (by omega)
        simp [wipeE] at this ⊢
        exact this
      · have := o_addT (xs := r.map PyData.int) (ys := [.int v]) (m := m') (by have := hr r hr'; simp; omega)
        simp [wipeE, sizeLine_eq, mkTup, this]
  · cases e
    rw [hi]
    simp [rows]
end Mir.K60

namespace Mir.K60
open PySem PySem.Spec PyProof.Rows L2
theorem o_tupL {ds : List PyData} {m : Hm} : tupleM [.p (.list ds)] m = .ok (.p (.tuple ds)) m := by simp only [tupleM, seqW, mkTup_map]
theorem zipped_ints : ∀ (xs ys : List Int), zipped ((xs.map PyData.int).map .p) ((ys.map PyData.int).map .p) = (xs.zip ys).map fun p => .p (.tuple [.int p.1, .int p.2])
  | [], _ => by simp [zipped]
  | _ :: _, [] => by simp [zipped]
  | x :: xs, y :: ys => by
    have := zipped_ints xs ys
    simp only [List.map_cons, zipped, this, List.zip_cons_cons, mkTup, allP_cons, allP_nil, Option.map_some]
/-! ### cut_to, _law_part -/
def cutR (so row kept : List Int) : List Int := ((so.zip row).filter fun p => decide (p.1 ∈ kept)).map (·.2)
theorem q_cut_to {so row kept : List Int} {m : Hm} (h6 : so.length ≤ 6) : F_cut_to [.p (sd row), .p (sd so), .p (sd kept)] m = .ok (.p (sd (cutR so row kept))) m := by
  have hz : (so.zip row).length ≤ 6 := by rw [List.length_zip]; omega
  unfold F_cut_to mkFn m_cut_to C1_cut_to
  simp only [startE, List.length_cons, List.length_nil, List.map_cons, List.map_nil, decide_true, if_true, q_ret, r_cb, r_acons, r_anil]
  rw [lc_data (so.zip row) (fun p => .p (.tuple [.int p.1, .int p.2])) (fun p => decide (p.1 ∈ kept)) (fun p => .int p.2) (gs := []) (by
    have := zipped_ints so row
    simp only [iZp, r_var, List.cons_append, List.nil_append, List.getElem?_cons_succ, List.getElem?_cons_zero, bind_ok, zipR, isL, beq_self_eq_true, if_true, srcOf_t, this, List.append_nil]) rfl (by omega) fun p hp => ⟨_, by simp [Tg.put, Tg.puts, seqT]; rfl, by simp [wipeE], by simp [wipeE]⟩]
  simp only [bind_ok, o_tupL, st_ok, ret_rt]
  rw [endFn_p]
  simp [cutR, Function.comp_def]
def at0 (l : List Int) (k : Int) : Int := l[k.toNat]?.getD 0
theorem at0_ok {l : List Int} {k : Int} (h : k ∈ rgI l.length) : atI (l.map PyData.int) k = some (.int (at0 l k)) := by
  obtain ⟨i, hi, rfl⟩ := List.mem_map.mp h
  have hi := List.mem_range.mp hi
  rw [atI_lit]
  simp [at0, hi]
theorem zip_rg {so row : List Int} (hl : so.length = row.length) : so.zip row = (rgI so.length).map fun k => (at0 so k, at0 row k) := by
  apply List.ext_getElem?
  intro i
  by_cases hi : i < so.length
  · have hi2 : i < row.length := by omega
    simp [rgI, at0, hi, hi2, List.getElem?_zip_eq_some]
  · rw [List.getElem?_eq_none (by rw [List.length_zip]; omega), List.getElem?_eq_none (by simp [rgI]; omega)]
theorem q_part {so row kept : List Int} {m : Hm} (hl : so.length = row.length) (h6 : so.length ≤ 6) : F__law_part [.p (sd so), .p (sd row), .p (sd kept)] m = .ok (.p (sd (cutR so row kept))) m := by
  unfold F__law_part mkFn m__law_part C1__law_part
  simp only [startE, List.length_cons, List.length_nil, List.map_cons, List.map_nil, decide_true, if_true, q_ret, r_cb, r_acons, r_anil]
  rw [lc_data (rgI so.length) (fun k => .p (.int k)) (fun k => decide (at0 so k ∈ kept)) (fun k => .int (at0 row k)) (gs := []) (by
    have := rg_it (n := so.length) (m := m) (by omega)
    simp at this ⊢
    exact this) rfl (by simp [rgI]; omega) fun k hk => ⟨_, rfl, by simp [wipeE, at0_ok hk], fun _ => by rw [hl] at hk; simp [wipeE, at0_ok hk]⟩]
  simp only [bind_ok, o_tupL, st_ok, ret_rt]
  rw [endFn_p]
  simp [cutR, zip_rg hl, List.filter_map, Function.comp_def]
end Mir.K60

namespace Mir.K60
open PySem PySem.Spec PyProof.Rows L2
/-! ### _law_rows: the same rows -/
theorem set_last {m : Hm} {x y : Cell} : (m ++ [x]).set m.length y = m ++ [y] := by simp
theorem o_extend {m : Hm} {n : Nat} {ws : List W} {ds : List PyData} (h : m[n]? = some (.lst ws)) (hl : ws.length + ds.length ≤ 16777216) : extendM (.loc n) [.p (.list ds)] m = .ok (.p .none) (m.set n (.lst (ws ++ ds.map .p))) := by
  simp [extendM, h, seqW, isLst, sizeLine_eq]
  omega
theorem q_law_rows {q n : Nat} {m : Hm} (hw : okM m.length m = true) (hq : q ≤ 3) (hn : n ≤ 6) : F__law_rows [.p (.int q), .p (.int n)] m = .ok (.p (.list ((rows q n).map sd))) m := by
  -- the inner loop: one row's followers
  have inner : ∀ (mm : Hm) (ws : List (List Int)) (r : List Int) (a b : Option W), ws.length ≤ 729 → r.length ≤ 6 → L1__law_rows [some (.p (.int q)), some (.p (.int n)), a, b, some (.loc mm.length), some (.p (sd r)), none] (mm ++ [.lst ((ws.map sd).map .p)]) = some (.nx [some (.p (.int q)), some (.p (.int n)), a, b, some (.loc mm.length), none, none], mm ++ [.lst (((ws ++ (rgI q).map fun v => r ++ [v]).map sd).map .p)]) := by
    intro mm ws r a b hl hr
    unfold L1__law_rows C1__law_rows
    have h0 : (mm ++ [Cell.lst ((ws.map sd).map .p)])[mm.length]? = some (.lst ((ws.map sd).map .p)) := by simp
    simp only [q_tidy, q_expr, r_lm, r_acons, r_anil, r_var, List.getElem?_cons_succ, List.getElem?_cons_zero, bind_ok, lstAt_loc h0, if_true]
    rw [lc_map (rgI q) (fun v => .p (.int v)) (fun v => sd (r ++ [v])) (gs := []) (by
      have := rg_it (n := q) (m := mm ++ [Cell.lst ((ws.map sd).map .p)]) (by omega)
      simp at this ⊢
      exact this) rfl (by simp [rgI]; omega) fun v hv => ⟨_, rfl, by
        have := fun M => o_addT (xs := r.map PyData.int) (ys := [.int v]) (m := M) (by simp; omega)
        simp [wipeE, mkTup, sizeLine_eq, this, sd]⟩]
    simp only [bind_ok]
    rw [o_extend h0 (by simp [rgI]; omega)]
    simp only [st_ok, set_last]
    rw [tidy_len (by simp)]
    simp [wipeE, Function.comp_def, sd]
  -- one turn
  have turn : ∀ (mm : Hm) (w : W) (acc : List (List Int)) (x : Int), RD m.length mm w (acc.map sd) → acc.length * 3 ≤ 729 → (∀ r ∈ acc, r.length ≤ 6) → m.length ≤ mm.length → L2__law_rows [some (.p (.int q)), some (.p (.int n)), some w, some (.p (.int x)), none, none, none] mm = some (.nx [some (.p (.int q)), some (.p (.int n)), some (.loc mm.length), none, none, none, none], mm ++ [.lst (((acc.flatMap fun r => (rgI q).map fun v => r ++ [v]).map sd).map .p)]) := by
    intro mm w acc x hw hl hr hm
    obtain ⟨gs, h1, h2⟩ := hw.src
    have k := for_fold (gs := gs) (t := .n 5) (body := L1__law_rows) (e := fun r : List Int => W.p (sd r)) (s := [some (.p (.int q)), some (.p (.int n)), some w, some (.p (.int x)), some (.loc mm.length), none, none]) (m := mm ++ [.lst []])
      (fun (ws : List (List Int)) r => ws ++ (rgI q).map fun v => r ++ [v]) (fun _ => [some (.p (.int q)), some (.p (.int n)), some w, some (.p (.int x)), some (.loc mm.length), none, none]) (fun ws => mm ++ [.lst ((ws.map sd).map .p)]) (fun pre ws => ws.length ≤ pre.length * 3) acc [] rfl rfl (fun _ _ _ => h2 _) (fun pre r post ws hx hi => by
        have hlen := congrArg List.length hx
        simp at hlen
        refine ⟨_, rfl, ?_, ?_⟩
        · exact inner mm ws r (some w) (some (.p (.int x))) (by omega) (hr r (by rw [hx]; simp))
        · simp [rgI]; omega) (by simp)
    have e2 : srcOf w (mm ++ [Cell.lst []]) = .ok ⟨(acc.map fun r => W.p (sd r)), gs⟩ (mm ++ [Cell.lst []]) := by
      rcases hw with rfl | ⟨j, rfl, _, hj⟩
      · cases h1; simp [Function.comp_def]
      · have : (mm ++ [Cell.lst []])[j]? = some (.lst ((acc.map sd).map .p)) := by rw [List.getElem?_append_left (List.getElem?_eq_some_iff.mp hj).1]; exact hj
        simp only [srcOf, hj] at h1
        cases h1
        simp [srcOf, this, Function.comp_def]
    have ef : ∀ (l : List (List Int)) (b : List (List Int)), l.foldl (fun (ws : List (List Int)) r => ws ++ (rgI q).map fun v => r ++ [v]) b = b ++ l.flatMap fun r => (rgI q).map fun v => r ++ [v] := by
      intro l
      induction l with
      | nil => intro b; simp
      | cons a l ih => intro b; simp only [List.foldl_cons, ih, List.flatMap_cons, List.append_assoc]
    rw [ef] at k
    have k1 := k.1
    unfold L2__law_rows
    simp [sizeLine_eq, e2, k1]
    unfold tidy
    rw [if_neg (by simp [okE, wipeE, okW])]
    simp [wipeE]
  have key := for_ex (gs := []) (t := .n 3) (body := L2__law_rows) (e := fun i => W.p (.int i)) (xs := rgI n) (s := [some (.p (.int q)), some (.p (.int n)), some (.p (.list [.tuple []])), none, none, none, none]) (m := m)
    (fun pre s m' => ∃ w e, s = [some (.p (.int q)), some (.p (.int n)), some w, none, none, none, none] ∧ m' = m ++ e ∧ RD m.length (m ++ e) w ((rows q pre.length).map sd)) (fun _ _ _ _ => rfl) (by
      rintro pre x post _ _ hx ⟨w, e, rfl, rfl, hi⟩
      have pl : pre.length + 1 ≤ n := by
        have := congrArg List.length hx
        simp [rgI] at this
        omega
      have hs := rows_small (n := pre.length + 1) hq (by omega)
      have hs2 := rows_small (n := pre.length) hq (by omega)
      have h3 : (rows q pre.length).length * 3 ≤ 729 := by
        rw [rows_len]
        have h1 : q ^ pre.length ≤ 3 ^ pre.length := Nat.pow_le_pow_left hq _
        have h2 : 3 ^ pre.length ≤ 3 ^ 5 := Nat.pow_le_pow_right (by omega) (by omega)
        omega
      refine ⟨_, rfl, _, _, turn (m ++ e) w _ x hi h3 (fun r h => by have := row_len h; omega) (by simp), .loc (m ++ e).length, e ++ [.lst (((rows q (pre.length + 1)).map sd).map .p)], rfl, by simp [rows], .inr ⟨_, rfl, by simp, ?_⟩⟩
      rw [← List.append_assoc, List.getElem?_append_right (Nat.le_refl _)]
      simp) ⟨_, [], rfl, by simp, .inl (by simp [rows])⟩
  obtain ⟨s', m', e1, w, e, rfl, rfl, hr⟩ := key
  unfold F__law_rows mkFn m__law_rows
  have b1 : decide (-1000000 ≤ (n : Int)) = true := decide_eq_true (by omega)
  have b3 : (n : Int) ≤ 1000000 := by omega
  have e5 : (rgP 0 (n : Int)).map W.p = (rgI n).map fun i => W.p (.int i) := by rw [rgP_eq]; simp
  simp [startE, sizeLine_eq, mkTup]
  simp only [b3, if_true, st_ok, e5, e1]
  have rl : (rgI n).length = n := by simp [rgI]
  rw [rl] at hr
  simp
  exact end_RD rfl hw hr
end Mir.K60

namespace Mir.K60
open PySem PySem.Spec PyProof.Rows L2
/-! ### graphs as data, variables of nodes -/
def nth (S : List (List Int)) (n : Int) : List Int := (S[n.toNat]?).getD []
abbrev prD (p : Int × Int) : PyData := .tuple [.int p.1, .int p.2]
abbrev gD (q : Nat) (S : List (List Int)) (E : List (Int × Int)) : PyData := .tuple [.int q, .tuple (S.map sd), .tuple (E.map prD)]
structure Sc (S : List (List Int)) : Prop where
  one : ∀ s ∈ S, s.Pairwise (· < ·) ∧ s.length ≤ 3 ∧ ∀ v ∈ s, 0 ≤ v ∧ v ≤ 5
  len : S.length ≤ 5
structure Nd (S : List (List Int)) (N : List Int) : Prop where
  one : ∀ n ∈ N, 0 ≤ n ∧ n < S.length
  len : N.length ≤ 5
theorem atI_nth {S : List (List Int)} {n : Int} (h : 0 ≤ n ∧ n < S.length) : atI (S.map sd) n = some (sd (nth S n)) := by
  obtain ⟨k, rfl⟩ : ∃ k : Nat, n = k := ⟨n.toNat, by omega⟩
  have hk : k < S.length := by omega
  rw [atI_lit]
  simp [nth, hk]
theorem nth_mem {S : List (List Int)} {n : Int} (h : 0 ≤ n ∧ n < S.length) : nth S n ∈ S := by
  have hk : n.toNat < S.length := by omega
  simp [nth, hk]
theorem Sc.nth {S : List (List Int)} (h : Sc S) (n : Int) : (nth S n).Pairwise (· < ·) ∧ (nth S n).length ≤ 3 ∧ ∀ v ∈ nth S n, 0 ≤ v ∧ v ≤ 5 := by
  by_cases hk : n.toNat < S.length
  · have : Mir.K60.nth S n = S[n.toNat] := by simp [Mir.K60.nth, hk]
    rw [this]
    exact h.one _ (List.getElem_mem _)
  · have : Mir.K60.nth S n = [] := by simp [Mir.K60.nth, List.getElem?_eq_none (Nat.le_of_not_lt hk)]
    rw [this]
    simp
/-- nodes, a tuple or a list -/
def NW (w : W) (N : List Int) : Prop := w = .p (.tuple (N.map .int)) ∨ w = .p (.list (N.map .int))
theorem NW.src {w : W} {N : List Int} {m : Hm} (h : NW w N) : srcOf w m = .ok ⟨N.map fun n => .p (.int n), []⟩ m := by
  rcases h with rfl | rfl <;> simp [Function.comp_def]
theorem NW.len {w : W} {N : List Int} {m : Hm} (h : NW w N) : lenM [w] m = .ok (.p (.int N.length)) m := by
  rcases h with rfl | rfl <;> simp
def ins (ks : List Int) (v : Int) : List Int := if v ∈ ks then ks else ks ++ [v]
def ksN (S : List (List Int)) (N : List Int) : List Int := N.foldl (fun ks n => (nth S n).foldl ins ks) []
def vars (S : List (List Int)) (N : List Int) : List Int := srtI (ksN S N)
theorem mem_ins {ks : List Int} {v x : Int} : x ∈ ins ks v ↔ x ∈ ks ∨ x = v := by
  unfold ins
  split
  · rename_i h
    exact ⟨.inl, fun q => q.elim id fun e => e ▸ h⟩
  · simp
theorem nd_ins {ks : List Int} {v : Int} (h : ks.Nodup) : (ins ks v).Nodup := by
  unfold ins
  split
  · exact h
  · rename_i q
    rw [List.nodup_append]
    refine ⟨h, by simp, fun a ha b hb => ?_⟩
    simp at hb
    subst hb
    exact fun e => q (e ▸ ha)
theorem mem_insF {x : Int} : ∀ {s ks : List Int}, x ∈ s.foldl ins ks ↔ x ∈ ks ∨ x ∈ s
  | [], ks => by simp
  | v :: s, ks => by rw [List.foldl_cons, mem_insF, mem_ins]; simp [or_assoc]
theorem nd_insF : ∀ {s ks : List Int}, ks.Nodup → (s.foldl ins ks).Nodup
  | [], ks, h => h
  | v :: s, ks, h => nd_insF (s := s) (nd_ins h)
theorem mem_ksN' {S : List (List Int)} {x : Int} : ∀ {N ks : List Int}, x ∈ N.foldl (fun ks n => (nth S n).foldl ins ks) ks ↔ x ∈ ks ∨ ∃ n ∈ N, x ∈ nth S n
  | [], ks => by simp
  | n :: N, ks => by rw [List.foldl_cons, mem_ksN', mem_insF]; simp [or_assoc]
theorem nd_ksN' {S : List (List Int)} : ∀ {N ks : List Int}, ks.Nodup → (N.foldl (fun ks n => (nth S n).foldl ins ks) ks).Nodup
  | [], ks, h => h
  | n :: N, ks, h => nd_ksN' (N := N) (nd_insF h)
theorem mem_vars {S : List (List Int)} {N : List Int} {x : Int} : x ∈ vars S N ↔ ∃ n ∈ N, x ∈ nth S n := by
  unfold vars
  rw [(srtI_perm _).mem_iff]
  unfold ksN
  rw [mem_ksN']
  simp
theorem vars_lt (S : List (List Int)) (N : List Int) : (vars S N).Pairwise (· < ·) := by
  have h1 := srtI_sorted (ksN S N)
  have h2 : (srtI (ksN S N)).Nodup := (srtI_perm _).nodup_iff.mpr (nd_ksN' List.nodup_nil)
  have h3 := h1.and h2
  exact h3.imp fun {a b} h => by have := h.1; have := h.2; omega
theorem asc_len {hi : Int} : ∀ {l : List Int} {lo : Int}, l.Pairwise (· < ·) → (∀ x ∈ l, lo ≤ x ∧ x < hi) → l.length ≤ (hi - lo).toNat
  | [], _, _, _ => by simp
  | a :: l, lo, hp, hb => by
    rw [List.pairwise_cons] at hp
    have h1 := hb a (by simp)
    have ih := asc_len (l := l) (lo := a + 1) hp.2 fun x hx => ⟨by have := hp.1 x hx; omega, (hb x (by simp [hx])).2⟩
    simp only [List.length_cons]
    omega
theorem vars_len {S : List (List Int)} (h : Sc S) (N : List Int) : (vars S N).length ≤ 6 := by
  have := asc_len (hi := 6) (lo := 0) (vars_lt S N) fun x hx => by
    obtain ⟨n, _, hn⟩ := mem_vars.mp hx
    have := (h.nth n).2.2 x hn
    omega
  simpa using this
theorem ksN_len {S : List (List Int)} (h : Sc S) (N : List Int) : (ksN S N).length ≤ 6 := by
  rw [← (srtI_perm (ksN S N)).length_eq]
  exact vars_len h N
/-! ### scope_of -/
def dk (ks : List Int) : List (Key × W) := ks.map fun k => (Sum.inl k, W.p (.bool true))
theorem put_dk (ks : List Int) (v : Int) : putW (dk ks) (.inl v) (.p (.bool true)) = dk (ins ks v) := by
  unfold putW ins dk
  have e : ((ks.map fun k => ((Sum.inl k : Key), W.p (.bool true))).any fun kv => decide (kv.1 = .inl v)) = decide (v ∈ ks) := by
    rw [List.any_map, Bool.eq_iff_iff]
    simp
  rw [e]
  by_cases h : v ∈ ks
  · rw [if_pos (by simpa using h), if_pos h, List.map_map]
    apply List.map_congr_left
    intro k _
    by_cases e : k = v <;> simp [e]
  · rw [if_neg (by simpa using h), if_neg h]
    simp
theorem inlK_dk : ∀ ks : List Int, inlK (dk ks) = some ks
  | [] => rfl
  | k :: ks => by
    have : inlK (dk (k :: ks)) = (inlK (dk ks)).map (k :: ·) := rfl
    rw [this, inlK_dk ks]; rfl
theorem dk_len (ks : List Int) : (dk ks).length = ks.length := by simp [dk]
theorem insF_len : ∀ {s ks : List Int}, (s.foldl ins ks).length ≤ ks.length + s.length
  | [], ks => by simp
  | v :: s, ks => by
    have := insF_len (s := s) (ks := ins ks v)
    have h2 : (ins ks v).length ≤ ks.length + 1 := by unfold ins; split <;> simp
    simp only [List.foldl_cons, List.length_cons]
    omega
theorem q_scope_of {q : Nat} {S : List (List Int)} {E : List (Int × Int)} {N : List Int} {wn : W} {m : Hm} (hw : okM m.length m = true) (hS : Sc S) (hN : Nd S N) (hn : NW wn N) : F_scope_of [.p (gD q S E), wn] m = .ok (.kt ((vars S N).map .int)) m := by
  have inner : ∀ (ks : List Int) (n : Int), ks.length ≤ 100 → 0 ≤ n ∧ n < S.length → L2_scope_of [some (.p (gD q S E)), some wn, some (.loc m.length), some (.p (.int n)), none] (m ++ [.dct (dk ks)]) = some (.nx [some (.p (gD q S E)), some wn, some (.loc m.length), none, none], m ++ [.dct (dk ((nth S n).foldl ins ks))]) := by
    intro ks n hk hn
    have k := for_fold (gs := []) (t := .n 4) (body := L1_scope_of) (e := fun v : Int => W.p (.int v)) (s := [some (.p (gD q S E)), some wn, some (.loc m.length), some (.p (.int n)), none]) (m := m ++ [.dct (dk ks)])
      ins (fun _ => [some (.p (gD q S E)), some wn, some (.loc m.length), some (.p (.int n)), none]) (fun ks => m ++ [.dct (dk ks)]) (fun pre k2 => k2.length ≤ ks.length + pre.length) (nth S n) ks rfl rfl (fun _ _ _ => rfl) (fun pre v post k2 hx hi => by
        have hl := (hS.nth n).2.1
        rw [hx] at hl
        simp at hl
        refine ⟨_, rfl, ?_, ?_⟩
        · unfold L1_scope_of
          have h0 : (m ++ [Cell.dct (dk k2)])[m.length]? = some (.dct (dk k2)) := by simp
          have h1 : setKy (.loc m.length) (.p (.int v)) (.p (.bool true)) (m ++ [Cell.dct (dk k2)]) = some (m ++ [Cell.dct (dk (ins k2 v))]) := by
            simp only [setKy, h0, keyP]
            rw [if_pos (by rw [dk_len, sizeLine_eq]; omega), put_dk, set_last]
          simp only [q_tidy, sSetKy, r_var, r_c, List.set_cons_succ, List.set_cons_zero, List.getElem?_cons_succ, List.getElem?_cons_zero, st_ok, h1]
          rw [tidy_len (by simp)]
          simp [wipeE]
        · have h2 : (ins k2 v).length ≤ k2.length + 1 := by unfold ins; split <;> simp
          simp; omega) (by simp)
    unfold L2_scope_of
    have e1 := atI_nth hn
    have e2 : ((nth S n).map PyData.int).map W.p = (nth S n).map fun v => W.p (.int v) := by simp [Function.comp_def]
    simp only [q_tidy, q_for, r_iseq, r_op2, r_var, r_c, List.getElem?_cons_succ, List.getElem?_cons_zero, bind_ok, o_ixT, atI_1, e1, srcOf_t, st_ok, e2, k.1]
    rw [tidy_len (by simp)]
    simp [wipeE]
  have key := for_fold (gs := []) (t := .n 3) (body := L2_scope_of) (e := fun v : Int => W.p (.int v)) (s := [some (.p (gD q S E)), some wn, some (.loc m.length), none, none]) (m := m ++ [.dct []])
    (fun ks n => (nth S n).foldl ins ks) (fun _ => [some (.p (gD q S E)), some wn, some (.loc m.length), none, none]) (fun ks => m ++ [.dct (dk ks)]) (fun pre k2 => k2.length ≤ 3 * pre.length) N [] rfl rfl (fun _ _ _ => rfl) (fun pre n post k2 hx hi => by
      have hl := hN.len
      have hn := hN.one n (by rw [hx]; simp)
      rw [hx] at hl
      simp at hl
      refine ⟨_, rfl, inner k2 n (by omega) hn, ?_⟩
      have h2 := insF_len (s := nth S n) (ks := k2)
      have h3 := (hS.nth n).2.1
      simp; omega) (by simp)
  have k1 := key.1
  have h0 : (m ++ [Cell.dct (dk (ksN S N))])[m.length]? = some (.dct (dk (ksN S N))) := by simp
  have e3 : sortedKM [.loc m.length] (m ++ [Cell.dct (dk (ksN S N))]) = .ok (.p (.list ((vars S N).map .int))) (m ++ [Cell.dct (dk (ksN S N))]) := by
    have := ksN_len hS N
    have h64 : (ksN S N).length < 64 := by omega
    simp only [sortedKM, h0, inlK_dk, h64, if_true, vars]
  have e4 : tupleK [.p (.list ((vars S N).map .int))] (m ++ [Cell.dct (dk (ksN S N))]) = .ok (.kt ((vars S N).map .int)) (m ++ [Cell.dct (dk (ksN S N))]) := by
    simp only [tupleK, isL, seqW, Option.bind_some, allP_map, if_true]
  unfold F_scope_of mkFn m_scope_of
  have e9 : eDict = fun (_ : Ev) m => Res.ok (W.loc m.length) (m ++ [.dct []]) := rfl
  simp only [startE, List.length_cons, List.length_nil, List.map_cons, List.map_nil, decide_true, if_true, q_seq, q_set, e9, st_ok, List.cons_append, List.nil_append, List.replicate, List.set_cons_succ, List.set_cons_zero]
  simp only [q_for, r_iseq, r_var, List.getElem?_cons_succ, List.getElem?_cons_zero, bind_ok, hn.src, st_ok]
  change retE true m.length (match forGo [] (.n 3) L2_scope_of (N.map fun n => W.p (.int n)) [some (.p (gD q S E)), some wn, some (.loc m.length), none, none] (m ++ [.dct []]) with | some (.nx s1, m1) => _ | r => r) = _
  rw [k1]
  simp only [q_ret, r_cb, r_acons, r_anil, r_var, List.getElem?_cons_succ, List.getElem?_cons_zero, bind_ok]
  have e5 : N.foldl (fun ks n => (nth S n).foldl ins ks) [] = ksN S N := rfl
  rw [e5]
  simp only [e3, e4, bind_ok, st_ok, ret_rt]
  exact end_kt rfl hw
end Mir.K60

namespace Mir.K60
open PySem PySem.Spec PyProof.Rows L2
/-! ### cells may come -/
mutual
theorem okW_mono {k k' : Nat} (h : k ≤ k') : ∀ {w : W}, okW k w = true → okW k' w = true
  | .p _, _ => rfl
  | .ro _, _ => rfl
  | .loc n, e => by simp only [okW, decide_eq_true_eq] at e ⊢; omega
  | .tw ws, e => by simp only [okW] at e ⊢; exact okWs_mono h e
  | .kt _, _ => rfl
theorem okWs_mono {k k' : Nat} (h : k ≤ k') : ∀ {ws : List W}, okWs k ws = true → okWs k' ws = true
  | [], _ => rfl
  | w :: ws, e => by
    simp only [okWs, Bool.and_eq_true] at e ⊢
    exact ⟨okW_mono h e.1, okWs_mono h e.2⟩
end
theorem okC_mono {k k' : Nat} (h : k ≤ k') {c : Cell} (e : okC k c = true) : okC k' c = true := by
  cases c with
  | lst ws => exact okWs_mono h e
  | dct kvs => exact okWs_mono h e
  | ins C fs => exact okWs_mono h e
  | _ => first | exact okWs_mono h e | exact e | cases e
theorem okWs_data {k : Nat} : ∀ ds : List PyData, okWs k (ds.map .p) = true
  | [] => rfl
  | d :: ds => by simp only [List.map_cons, okWs, okW, okWs_data ds, Bool.and_self]
theorem okM_ext {m : Hm} {c : Cell} (hw : okM m.length m = true) (hc : okC (m.length + 1) c = true) : okM (m ++ [c]).length (m ++ [c]) = true := by
  unfold okM at hw ⊢
  rw [List.take_of_length_le (Nat.le_refl _)] at hw ⊢
  rw [List.all_append, Bool.and_eq_true]
  constructor
  · rw [List.all_eq_true] at hw ⊢
    exact fun x hx => okC_mono (by simp) (hw x hx)
  · simpa using hc
theorem okM_data {m : Hm} {ds : List PyData} (hw : okM m.length m = true) : okM (m ++ [Cell.lst (ds.map .p)]).length (m ++ [Cell.lst (ds.map .p)]) = true := okM_ext hw (c := Cell.lst (ds.map .p)) (okWs_data ds)
/-! ### the law's variables -/
theorem insF_filter : ∀ {s ks : List Int}, s.Nodup → s.foldl ins ks = ks ++ s.filter fun v => !decide (v ∈ ks)
  | [], ks, _ => by simp
  | v :: s, ks, h => by
    rw [List.nodup_cons] at h
    rw [List.foldl_cons, insF_filter h.2]
    by_cases q : v ∈ ks
    · have : ins ks v = ks := by simp [ins, q]
      rw [this]
      simp [q]
    · have : ins ks v = ks ++ [v] := by simp [ins, q]
      rw [this]
      have e : (s.filter fun x => !decide (x ∈ ks ++ [v])) = s.filter fun x => !decide (x ∈ ks) := by
        apply List.filter_congr
        intro x hx
        have : x ≠ v := fun e => h.1 (e ▸ hx)
        simp [this]
      rw [e]
      simp [q]
theorem lt_nodup {s : List Int} (h : s.Pairwise (· < ·)) : s.Nodup := h.imp fun {a b} h => by omega
theorem q_law_variables {q : Nat} {S : List (List Int)} {E : List (Int × Int)} {N : List Int} {wn : W} {m : Hm} (hw : okM m.length m = true) (hS : Sc S) (hN : Nd S N) (hn : NW wn N) : F__law_variables [.p (gD q S E), wn] m = .ok (.kt ((vars S N).map .int)) m := by
  have key := for_fold (gs := []) (t := .n 3) (body := L1__law_variables) (e := fun v : Int => W.p (.int v)) (s := [some (.p (gD q S E)), some wn, some (.loc m.length), none, none]) (m := m ++ [.lst []])
    (fun ks n => (nth S n).foldl ins ks) (fun _ => [some (.p (gD q S E)), some wn, some (.loc m.length), none, none]) (fun ks => m ++ [.lst ((ks.map .int).map .p)]) (fun pre k2 => k2.length ≤ 3 * pre.length) N [] rfl rfl (fun _ _ _ => rfl) (fun pre n post ks hx hi => by
      have hl := hN.len
      have hn := hN.one n (by rw [hx]; simp)
      rw [hx] at hl
      simp at hl
      have h3 := (hS.nth n).2.1
      refine ⟨_, rfl, ?_, ?_⟩
      · have e1 := atI_nth hn
        have h0 : (m ++ [Cell.lst ((ks.map PyData.int).map .p)])[m.length]? = some (.lst ((ks.map PyData.int).map .p)) := by simp
        have rl : RL (m ++ [Cell.lst ((ks.map PyData.int).map .p)]) (.loc m.length) ks := .inr ⟨_, rfl, by rw [h0]; simp [Function.comp_def]⟩
        have e3 := fun v => (rl.inn v).2
        generalize hM : m ++ [Cell.lst ((ks.map PyData.int).map .p)] = M at h0 rl e3 ⊢
        unfold L1__law_variables C1__law_variables
        simp only [q_tidy, q_expr, r_lm, r_acons, r_anil, r_var, List.set_cons_succ, List.set_cons_zero, List.getElem?_cons_succ, List.getElem?_cons_zero, bind_ok, lstAt_loc h0, if_true]
        rw [lc_data (nth S n) (fun v => .p (.int v)) (fun v => !decide (v ∈ ks)) .int (gs := []) (by
          simp only [r_iseq, r_op2, r_var, r_c, List.getElem?_cons_succ, List.getElem?_cons_zero, bind_ok, o_ixT, atI_1, e1, srcOf_t]
          simp [Function.comp_def]) rfl (by omega) fun v hv => ⟨_, rfl, by simp [wipeE, e3], by simp [wipeE]⟩]
        simp only [bind_ok]
        have hf := List.length_filter_le (fun v => !decide (v ∈ ks)) (nth S n)
        rw [o_extend h0 (by simp only [List.length_map]; omega)]
        simp only [st_ok]
        rw [tidy_len (by simp)]
        rw [insF_filter (lt_nodup (hS.nth n).1), ← hM, set_last]
        simp [wipeE]
      · have h2 := insF_len (s := nth S n) (ks := ks)
        simp; omega) (by simp)
  have k1 := key.1
  have e5 : N.foldl (fun ks n => (nth S n).foldl ins ks) [] = ksN S N := rfl
  rw [e5] at k1
  have h0 : (m ++ [Cell.lst (((ksN S N).map PyData.int).map .p)])[m.length]? = some (.lst (((ksN S N).map PyData.int).map .p)) := by simp
  have e3 : sortedM [.loc m.length] (m ++ [Cell.lst (((ksN S N).map PyData.int).map .p)]) = .ok (.p (.list ((vars S N).map .int))) (m ++ [Cell.lst (((ksN S N).map PyData.int).map .p)]) := by
    simp only [sortedM, isL, seqW, h0, Option.bind_some, allP_map, if_true, sortB_ints, srt_ints, vars]
  have e4 : tupleK [.p (.list ((vars S N).map .int))] (m ++ [Cell.lst (((ksN S N).map PyData.int).map .p)]) = .ok (.kt ((vars S N).map .int)) (m ++ [Cell.lst (((ksN S N).map PyData.int).map .p)]) := by
    simp only [tupleK, isL, seqW, Option.bind_some, allP_map, if_true]
  unfold F__law_variables mkFn m__law_variables
  simp only [startE, List.length_cons, List.length_nil, List.map_cons, List.map_nil, decide_true, if_true, q_seq, q_set, r_lstL, r_anil, bind_ok, Nat.zero_le, st_ok, List.cons_append, List.nil_append, List.replicate, List.set_cons_succ, List.set_cons_zero]
  simp only [q_for, r_iseq, r_var, List.getElem?_cons_succ, List.getElem?_cons_zero, bind_ok, hn.src, st_ok]
  change retE true m.length (match forGo [] (.n 3) L1__law_variables (N.map fun n => W.p (.int n)) [some (.p (gD q S E)), some wn, some (.loc m.length), none, none] (m ++ [.lst []]) with | some (.nx s1, m1) => _ | r => r) = _
  rw [k1]
  simp only [q_ret, r_cb, r_acons, r_anil, r_var, List.getElem?_cons_succ, List.getElem?_cons_zero, bind_ok, e3, e4, st_ok, ret_rt]
  exact end_kt rfl hw
/-! ### tables -/
abbrev Row := List Int × Int
abbrev rowD (p : Row) : PyData := .tuple [sd p.1, .int p.2]
abbrev tbD (t : List Row) : PyData := .tuple (t.map rowD)
abbrev tsD (T : List (List Row)) : PyData := .tuple (T.map tbD)
def nthT (T : List (List Row)) (n : Int) : List Row := (T[n.toNat]?).getD []
theorem atI_nthT {T : List (List Row)} {n : Int} (h : 0 ≤ n ∧ n < T.length) : atI (T.map tbD) n = some (tbD (nthT T n)) := by
  obtain ⟨k, rfl⟩ : ∃ k : Nat, n = k := ⟨n.toNat, by omega⟩
  have hk : k < T.length := by omega
  rw [atI_lit]
  simp [nthT, hk]
/-- tables of scopes: in size -/
structure Ts (S : List (List Int)) (T : List (List Row)) : Prop where
  len : T.length = S.length
  sz : ∀ t ∈ T, t.length ≤ 729
theorem Ts.nth {S : List (List Int)} {T : List (List Row)} (h : Ts S T) (n : Int) : (nthT T n).length ≤ 729 := by
  by_cases hk : n.toNat < T.length
  · have : nthT T n = T[n.toNat] := by simp [nthT, hk]
    rw [this]
    exact h.sz _ (List.getElem_mem _)
  · have : nthT T n = [] := by simp [nthT, List.getElem?_eq_none (Nat.le_of_not_lt hk)]
    rw [this]
    simp
/-- the part of a row of the variables of N for the scope of n; is it there; the costs there -/
def part (S : List (List Int)) (N r : List Int) (n : Int) : List Int := cutR (vars S N) r (nth S n)
def hits (S : List (List Int)) (T : List (List Row)) (N r : List Int) (n : Int) : List Row := (nthT T n).filter fun p => decide (p.1 = part S N r n)
def has (S : List (List Int)) (T : List (List Row)) (N r : List Int) (n : Int) : Bool := (nthT T n).any fun p => decide (p.1 = part S N r n)
def cost (S : List (List Int)) (T : List (List Row)) (N r : List Int) (n : Int) : Int := (((hits S T N r n).map (·.2))[0]?).getD 0
theorem has_hits {S : List (List Int)} {T : List (List Row)} {N r : List Int} {n : Int} : has S T N r n = true ↔ hits S T N r n ≠ [] := by
  unfold has hits
  rw [List.any_eq_true, Ne, List.filter_eq_nil_iff]
  constructor
  · rintro ⟨x, hx, h⟩ q
    exact q x hx h
  · intro h
    refine Classical.byContradiction fun q => h fun x hx hp => q ⟨x, hx, hp⟩
theorem any_id {α : Type} (xs : List α) (p : α → Bool) : (xs.map p).any id = xs.any p := by simp [List.any_map, Function.comp_def]
section
variable {q : Nat} {S : List (List Int)} {E : List (Int × Int)} {T : List (List Row)} {N r : List Int} {wn : W} {m : Hm}
theorem src_tb {t : List Row} : srcOf (.p (tbD t)) m = .ok ⟨t.map fun p => .p (rowD p), []⟩ m := by simp [Function.comp_def]
theorem unK_kt {ks : List PyData} : unK (.kt ks) = .p (.tuple ks) := rfl
@[simp] theorem r_un {f : EX W} {s : Ev} : eUn f s m = (f s m).bind fun w m1 => .ok (unK w) m1 := rfl
theorem q_first (hw : okM m.length m = true) (hS : Sc S) (hN : Nd S N) (hn : NW wn N) (hT : Ts S T) : F_first_rejecting [.p (gD q S E), .p (tsD T), wn, .p (sd r)] m = .ok (match N.find? fun n => !has S T N r n with | some n => .p (.int n) | none => .p .none) m := by
  have e1 := q_scope_of (q := q) (E := E) hw hS hN hn
  have key := for_find (gs := []) (t := .n 5) (body := L1_first_rejecting) (e := fun v : Int => W.p (.int v)) (s := [some (.p (gD q S E)), some (.p (tsD T)), some wn, some (.p (sd r)), some (.kt ((vars S N).map .int)), none, none, none, none]) (m := m)
    (fun n => !has S T N r n) (fun n => .p (.int n)) rfl N (fun n hx => by
      have hn := hN.one n hx
      have hn' : 0 ≤ n ∧ n < T.length := by rw [hT.len]; exact hn
      refine ⟨_, rfl, ?_⟩
      have e2 := atI_nth hn
      have e3 := atI_nthT hn'
      have e4 := q_cut_to (row := r) (kept := nth S n) (m := m) (vars_len hS N)
      have e6 := hT.nth n
      unfold L1_first_rejecting C1_first_rejecting
      simp only [q_tidy, q_seq, q_set, q_if, r_bnot, r_btru, r_call, r_acons, r_anil, r_un, unK_kt, r_op2, r_var, r_c, List.set_cons_succ, List.set_cons_zero, List.getElem?_cons_succ, List.getElem?_cons_zero, bind_ok, o_ixT, atI_1, e2, List.length_cons, List.length_nil, decide_true, if_true, e4, st_ok, r_cb]
      rw [lc_map (nthT T n) (fun p => .p (rowD p)) (fun p => .bool (decide (p.1 = part S N r n))) (gs := []) (by
        simp only [r_iseq, r_op2, r_var, r_c, List.getElem?_cons_succ, List.getElem?_cons_zero, bind_ok, o_ixT, e3, src_tb]) rfl (by omega) fun p hp => ⟨_, by simp [Tg.put, Tg.puts, seqT]; rfl, by simp [wipeE, part]; exact decide_eq_decide.mpr Iff.rfl⟩]
      have e5 := o_any (m := m) ((nthT T n).map fun p => decide (p.1 = part S N r n))
      rw [List.map_map, any_id] at e5
      simp only [Function.comp_def] at e5
      simp only [bind_ok, e5, r_tru, st_ok]
      have e7 : ((nthT T n).any fun p => decide (p.1 = part S N r n)) = has S T N r n := rfl
      rw [e7]
      cases has S T N r n with
      | true =>
        simp only [Bool.not_true, Bool.false_eq_true, if_false, q_skip]
        rw [tidy_len rfl]
        simp [wipeE]
      | false =>
        simp only [Bool.not_false, if_true, q_ret, r_var, List.getElem?_cons_succ, List.getElem?_cons_zero, st_ok])
  unfold F_first_rejecting mkFn m_first_rejecting
  simp only [startE, List.length_cons, List.length_nil, List.map_cons, List.map_nil, decide_true, if_true, q_seq, q_set, r_call, r_acons, r_anil, r_var, bind_ok, e1, st_ok, List.cons_append, List.nil_append, List.replicate, List.set_cons_succ, List.set_cons_zero, List.getElem?_cons_succ, List.getElem?_cons_zero]
  simp only [q_for, r_iseq, r_var, List.getElem?_cons_succ, List.getElem?_cons_zero, bind_ok, hn.src, st_ok]
  change retE true m.length (match forGo [] (.n 5) L1_first_rejecting (N.map fun n => W.p (.int n)) [some (.p (gD q S E)), some (.p (tsD T)), some wn, some (.p (sd r)), some (.kt ((vars S N).map .int)), none, none, none, none] m with | some (.nx s1, m1) => _ | r => r) = _
  rw [key]
  cases N.find? fun n => !has S T N r n with
  | none => simp [endFn_p]
  | some n => simp [endFn_p]
theorem q_price (hw : okM m.length m = true) (hS : Sc S) (hN : Nd S N) (hn : NW wn N) (hT : Ts S T) (hh : ∀ n ∈ N, has S T N r n = true) : F_price_of [.p (gD q S E), .p (tsD T), wn, .p (sd r)] m = .ok (.p (.int (N.foldl (fun t n => t + cost S T N r n) 0))) m := by
  have e1 := q_scope_of (q := q) (E := E) hw hS hN hn
  have key := for_fold (gs := []) (t := .n 6) (body := L1_price_of) (e := fun v : Int => W.p (.int v)) (s := [some (.p (gD q S E)), some (.p (tsD T)), some wn, some (.p (sd r)), some (.kt ((vars S N).map .int)), some (.p (.int 0)), none, none, none, none]) (m := m)
    (fun t n => t + cost S T N r n) (fun t : Int => [some (.p (gD q S E)), some (.p (tsD T)), some wn, some (.p (sd r)), some (.kt ((vars S N).map .int)), some (.p (.int t)), none, none, none, none]) (fun _ => m) (fun _ _ => True) N 0 rfl rfl (fun _ _ _ => rfl) (fun pre n post t hx _ => by
      have hmem : n ∈ N := by rw [hx]; simp
      have hn := hN.one n hmem
      have hn' : 0 ≤ n ∧ n < T.length := by rw [hT.len]; exact hn
      refine ⟨_, rfl, ?_, trivial⟩
      have e2 := atI_nth hn
      have e3 := atI_nthT hn'
      have e4 := q_cut_to (row := r) (kept := nth S n) (m := m) (vars_len hS N)
      have e6 := hT.nth n
      unfold L1_price_of C1_price_of
      simp only [q_tidy, q_seq, q_set, r_call, r_acons, r_anil, r_un, unK_kt, r_op2, r_var, r_c, List.set_cons_succ, List.set_cons_zero, List.getElem?_cons_succ, List.getElem?_cons_zero, bind_ok, o_ixT, atI_1, e2, List.length_cons, List.length_nil, decide_true, if_true, e4, st_ok]
      rw [lc_data (nthT T n) (fun p => .p (rowD p)) (fun p => decide (p.1 = part S N r n)) (fun p => .int p.2) (gs := []) (by
        simp only [r_iseq, r_op2, r_var, r_c, List.getElem?_cons_succ, List.getElem?_cons_zero, bind_ok, o_ixT, e3, src_tb]) rfl (by omega) fun p hp => ⟨_, by simp [Tg.put, Tg.puts, seqT]; rfl, by simp [wipeE, part]; exact decide_eq_decide.mpr Iff.rfl, by simp [wipeE]⟩]
      have e7 : ((nthT T n).filter fun p => decide (p.1 = part S N r n)) = hits S T N r n := rfl
      rw [e7]
      have e8 : ((hits S T N r n).map fun p => PyData.int p.2)[0]? = some (.int (cost S T N r n)) := by
        have := has_hits.mp (hh n hmem)
        cases e : hits S T N r n with
        | nil => exact absurd e this
        | cons p l => simp [cost, e]
      simp only [bind_ok, o_ixL, atI_0, e8, o_add, st_ok]
      rw [tidy_len rfl]
      simp [wipeE]) trivial
  unfold F_price_of mkFn m_price_of
  simp only [startE, List.length_cons, List.length_nil, List.map_cons, List.map_nil, decide_true, if_true, q_seq, q_set, r_call, r_acons, r_anil, r_var, r_c, bind_ok, e1, st_ok, List.cons_append, List.nil_append, List.replicate, List.set_cons_succ, List.set_cons_zero, List.getElem?_cons_succ, List.getElem?_cons_zero]
  simp only [q_for, r_iseq, r_var, List.getElem?_cons_succ, List.getElem?_cons_zero, bind_ok, hn.src, st_ok]
  change retE true m.length (match forGo [] (.n 6) L1_price_of (N.map fun n => W.p (.int n)) [some (.p (gD q S E)), some (.p (tsD T)), some wn, some (.p (sd r)), some (.kt ((vars S N).map .int)), some (.p (.int 0)), none, none, none, none] m with | some (.nx s1, m1) => _ | r => r) = _
  rw [key.1]
  simp [endFn_p]
end
end Mir.K60

namespace Mir.K60
open PySem PySem.Spec PyProof.Rows L2
/-! ### solutions -/
theorem tidy_cut {k : Nat} {mask : List Nat} {s : Ev} {m e : Hm} (hk : m.length = k) (hm : okM k m = true) (he : okE k (wipeE s mask) = true) : tidy k mask s (m ++ e) = (wipeE s mask, m) := by
  unfold tidy
  rw [okM_app hk, he, hm, take_app hk]
  simp
def pr (S : List (List Int)) (T : List (List Row)) (N r : List Int) : Int := N.foldl (fun t n => t + cost S T N r n) 0
def sols (q : Nat) (S : List (List Int)) (T : List (List Row)) (N : List Int) : List Row := ((rows q (vars S N).length).filter fun r => N.all (has S T N r)).map fun r => (r, pr S T N r)
theorem foldl_fm {α β : Type} (p : α → Bool) (f : α → β) : ∀ (xs : List α) (acc : List β), xs.foldl (fun acc x => if p x = true then acc ++ [f x] else acc) acc = acc ++ (xs.filter p).map f
  | [], acc => by simp
  | x :: xs, acc => by
    rw [List.foldl_cons, foldl_fm p f xs]
    cases h : p x <;> simp [h]
theorem sols_len {q : Nat} {S : List (List Int)} {T : List (List Row)} {N : List Int} (hq : q ≤ 3) (hS : Sc S) : (sols q S T N).length ≤ 729 := by
  unfold sols
  rw [List.length_map]
  exact Nat.le_trans (List.length_filter_le _ _) (rows_small hq (vars_len hS N))
theorem find_all {S : List (List Int)} {T : List (List Row)} {N r : List Int} : (∃ n, (N.find? fun n => !has S T N r n) = some n ∧ N.all (has S T N r) = false) ∨ ((N.find? fun n => !has S T N r n) = none ∧ N.all (has S T N r) = true) := by
  cases e : N.find? fun n => !has S T N r n with
  | none =>
    refine .inr ⟨rfl, ?_⟩
    rw [List.find?_eq_none] at e
    rw [List.all_eq_true]
    intro n hn
    simpa using e n hn
  | some n =>
    refine .inl ⟨n, rfl, ?_⟩
    have h1 := List.find?_some e
    have h2 := List.mem_of_find?_eq_some e
    cases q : N.all (has S T N r) with
    | false => rfl
    | true =>
      rw [List.all_eq_true] at q
      rw [q n h2] at h1
      cases h1
section
variable {q : Nat} {S : List (List Int)} {E : List (Int × Int)} {T : List (List Row)} {N : List Int} {wn : W} {m : Hm}
theorem NW.ok {k : Nat} (h : NW wn N) : okW k wn = true := by rcases h with rfl | rfl <;> rfl
theorem NW.isL (h : NW wn N) : ∃ d, wn = .p d := by rcases h with rfl | rfl <;> exact ⟨_, rfl⟩
theorem fin_rows {ps : List Row} (hw : okM m.length m = true) : endFn true m.length (.loc m.length) (m ++ [Cell.lst ((ps.map rowD).map .p)]) = .ok (.p (.list (ps.map rowD))) m :=
  end_RD rfl hw (.inr ⟨_, rfl, Nat.le_refl _, by simp⟩)
theorem q_solutions_by (hw : okM m.length m = true) (hq : q ≤ 3) (hS : Sc S) (hN : Nd S N) (hn : NW wn N) (hT : Ts S T) : F_solutions_by [.p (gD q S E), .p (tsD T), wn] m = .ok (.p (.list ((sols q S T N).map rowD))) m := by
  have hv := vars_len hS N
  have hw1 := okM_data (ds := []) hw
  have key := for_fold (gs := []) (t := .n 4) (body := L1_solutions_by) (e := fun r : List Int => W.p (sd r)) (s := [some (.p (gD q S E)), some (.p (tsD T)), some wn, some (.loc m.length), none]) (m := m ++ [.lst []])
    (fun acc r => if N.all (has S T N r) = true then acc ++ [(r, pr S T N r)] else acc) (fun _ => [some (.p (gD q S E)), some (.p (tsD T)), some wn, some (.loc m.length), none]) (fun acc : List Row => m ++ [.lst ((acc.map rowD).map .p)]) (fun pre acc => acc.length ≤ pre.length) (rows q (vars S N).length) [] rfl rfl (fun _ _ _ => rfl) (fun pre r post acc hx hi => by
      have hl := rows_small (q := q) hq hv
      rw [hx] at hl
      simp at hl
      have hw2 := okM_data (ds := acc.map rowD) hw
      have f1 := q_first (q := q) (E := E) (r := r) hw2 hS hN hn hT
      have h0 : (m ++ [Cell.lst ((acc.map rowD).map .p)])[m.length]? = some (.lst ((acc.map rowD).map .p)) := by simp
      refine ⟨_, rfl, ?_, by split <;> simp <;> omega⟩
      generalize hM : m ++ [Cell.lst ((acc.map rowD).map .p)] = M at hw2 f1 h0 ⊢
      have hMl : M.length = m.length + 1 := by rw [← hM]; simp
      unfold L1_solutions_by
      simp only [q_tidy, q_if, r_bval, r_op2, r_call, r_acons, r_anil, r_var, r_c, List.set_cons_succ, List.set_cons_zero, List.getElem?_cons_succ, List.getElem?_cons_zero, bind_ok, List.length_cons, List.length_nil, decide_true, if_true, f1]
      rcases find_all (S := S) (T := T) (N := N) (r := r) with ⟨n, h1, h2⟩ | ⟨h1, h2⟩
      · rw [h1, h2]
        simp only [o_isNone, isNone, Bool.false_eq_true, if_false, bind_ok, r_boolOf, st_ok, q_skip]
        rw [tidy_len rfl, ← hM]
        simp [wipeE]
      · have f2 := q_price (q := q) (E := E) (r := r) hw2 hS hN hn hT (List.all_eq_true.mp h2)
        rw [h1, h2]
        simp only [o_isNone, isNone_n, Bool.false_eq_true, if_false, if_true, bind_ok, r_boolOf, st_ok, q_expr, r_lm, r_var, List.getElem?_cons_succ, List.getElem?_cons_zero, lstAt_loc h0, r_acons, r_anil, r_tup, r_call, f2, List.length_cons, List.length_nil, decide_true]
        have hz : (0 + 1 + 1 ≤ sizeLine) = True := by simp [sizeLine_eq]
        simp only [hz, if_true, bind_ok, mkTup, allP_cons, allP_nil, Option.map_some]
        rw [o_append h0 (by simp; omega)]
        simp only [st_ok]
        rw [tidy_len (by simp), ← hM, set_last]
        simp [wipeE, pr]) (by simp)
  have k1 := key.1
  rw [foldl_fm] at k1
  have e5 : [] ++ ((rows q (vars S N).length).filter fun r => N.all (has S T N r)).map (fun r => (r, pr S T N r)) = sols q S T N := by rw [List.nil_append]; rfl
  rw [e5] at k1
  have s1 := q_scope_of (q := q) (E := E) (m := m ++ [Cell.lst []]) hw1 hS hN hn
  have s2 := q_rows_of (q := q) (n := (vars S N).length) (m := m ++ [Cell.lst []]) hw1 hq hv
  unfold F_solutions_by mkFn m_solutions_by
  simp only [startE, List.length_cons, List.length_nil, List.map_cons, List.map_nil, decide_true, if_true, q_seq, q_set, r_lstL, r_anil, bind_ok, Nat.zero_le, st_ok, List.cons_append, List.nil_append, List.replicate, List.set_cons_succ, List.set_cons_zero]
  simp only [q_for, r_iseq, r_call, r_cb, r_acons, r_anil, r_un, r_op2, r_c, r_var, List.getElem?_cons_succ, List.getElem?_cons_zero, bind_ok, o_ixT, atI_0, List.length_cons, List.length_nil, decide_true, if_true, s1, unK_kt, o_lenT, List.length_map, s2, srcOf_l, st_ok]
  have e2 : ((rows q (vars S N).length).map sd).map W.p = (rows q (vars S N).length).map fun r => W.p (sd r) := by simp [Function.comp_def]
  rw [e2]
  change retE true m.length (match forGo [] (.n 4) L1_solutions_by ((rows q (vars S N).length).map fun r => W.p (sd r)) [some (.p (gD q S E)), some (.p (tsD T)), some wn, some (.loc m.length), none] (m ++ [.lst []]) with | some (.nx s1, m1) => _ | r => r) = _
  rw [k1]
  simp only [q_ret, r_var, List.getElem?_cons_succ, List.getElem?_cons_zero, st_ok, ret_rt]
  exact fin_rows hw
/-! the law's -/
structure Uq (T : List (List Row)) : Prop where
  uq : ∀ t ∈ T, (t.map (·.1)).Nodup
theorem hits_one {t : List Row} {k : List Int} (h : (t.map (·.1)).Nodup) : (t.filter fun p => decide (p.1 = k)).length ≤ 1 := by
  induction t with
  | nil => simp
  | cons p t ih =>
    rw [List.map_cons, List.nodup_cons] at h
    by_cases e : p.1 = k
    · have : (t.filter fun p => decide (p.1 = k)) = [] := by
        rw [List.filter_eq_nil_iff]
        intro x hx q
        exact h.1 (List.mem_map.mpr ⟨x, hx, by simp at q; rw [q, e]⟩)
      simp [e, this]
    · simpa [e] using ih h.2
theorem Uq.one {T : List (List Row)} (h : Uq T) (S : List (List Int)) (N r : List Int) (n : Int) : (hits S T N r n).length ≤ 1 := by
  unfold hits
  by_cases hk : n.toNat < T.length
  · have : nthT T n = T[n.toNat] := by simp [nthT, hk]
    rw [this]
    exact hits_one (h.uq _ (List.getElem_mem _))
  · have : nthT T n = [] := by simp [nthT, List.getElem?_eq_none (Nat.le_of_not_lt hk)]
    rw [this]
    simp
def csts (S : List (List Int)) (T : List (List Row)) (N r M : List Int) : List Int := M.flatMap fun n => (hits S T N r n).map (·.2)
theorem csts_spec {T : List (List Row)} (h : Uq T) (S : List (List Int)) (N r : List Int) : ∀ M : List Int, (csts S T N r M).length ≤ M.length ∧ ((csts S T N r M).length = M.length ↔ M.all (has S T N r) = true) ∧ (M.all (has S T N r) = true → ∀ a, a + (csts S T N r M).sum = M.foldl (fun t n => t + cost S T N r n) a)
  | [] => by simp [csts]
  | n :: M => by
    obtain ⟨i1, i2, i3⟩ := csts_spec h S N r M
    have h1 := h.one S N r n
    have e : csts S T N r (n :: M) = (hits S T N r n).map (·.2) ++ csts S T N r M := by simp [csts]
    rw [e]
    have hh := has_hits (S := S) (T := T) (N := N) (r := r) (n := n)
    simp only [List.length_append, List.length_map, List.length_cons, List.all_cons, Bool.and_eq_true, List.sum_append, List.foldl_cons]
    cases c : hits S T N r n with
    | nil =>
      have hf : has S T N r n = false := by
        cases q : has S T N r n with
        | false => rfl
        | true => exact absurd c (hh.mp q)
      rw [hf]
      simp only [List.length_nil, Bool.false_eq_true, false_and, iff_false, false_implies, and_true]
      omega
    | cons p l =>
      have hl : l = [] := by rw [c] at h1; cases l with | nil => rfl | cons _ _ => simp at h1
      subst hl
      have ht : has S T N r n = true := hh.mpr (by rw [c]; simp)
      have hc : cost S T N r n = p.2 := by simp [cost, c]
      rw [ht, hc]
      simp only [List.length_singleton, List.map_cons, List.map_nil, List.sum_cons, List.sum_nil, true_and]
      refine ⟨by omega, by rw [← i2]; omega, fun q a => ?_⟩
      rw [← i3 q]
      omega
theorem q_law_solutions (hw : okM m.length m = true) (hq : q ≤ 3) (hS : Sc S) (hN : Nd S N) (hn : NW wn N) (hT : Ts S T) (hU : Uq T) : F__law_solutions [.p (gD q S E), .p (tsD T), wn] m = .ok (.p (.list ((sols q S T N).map rowD))) m := by
  have hv := vars_len hS N
  have hw1 := okM_data (ds := []) hw
  have inner : ∀ (M : Hm) (r : List Int) (a : Option W), r.length = (vars S N).length → forGo [] (.n 7) L1__law_solutions (N.map fun n => W.p (.int n)) [some (.p (gD q S E)), some (.p (tsD T)), some wn, some (.kt ((vars S N).map .int)), a, some (.p (sd r)), some (.loc M.length), none, none, none, none] (M ++ [.lst []]) =
      some (.nx [some (.p (gD q S E)), some (.p (tsD T)), some wn, some (.kt ((vars S N).map .int)), a, some (.p (sd r)), some (.loc M.length), none, none, none, none], M ++ [.lst (((csts S T N r N).map .int).map .p)]) := by
    intro M r a hr
    have key := for_fold (gs := []) (t := .n 7) (body := L1__law_solutions) (e := fun n : Int => W.p (.int n)) (s := [some (.p (gD q S E)), some (.p (tsD T)), some wn, some (.kt ((vars S N).map .int)), a, some (.p (sd r)), some (.loc M.length), none, none, none, none]) (m := M ++ [.lst []])
      (fun acc n => acc ++ (hits S T N r n).map (·.2)) (fun _ => [some (.p (gD q S E)), some (.p (tsD T)), some wn, some (.kt ((vars S N).map .int)), a, some (.p (sd r)), some (.loc M.length), none, none, none, none]) (fun acc : List Int => M ++ [.lst ((acc.map .int).map .p)]) (fun pre acc => acc.length ≤ pre.length) N [] rfl rfl (fun _ _ _ => rfl) (fun pre n post acc hx hi => by
        have hmem : n ∈ N := by rw [hx]; simp
        have hn := hN.one n hmem
        have hn' : 0 ≤ n ∧ n < T.length := by rw [hT.len]; exact hn
        have hl := hN.len
        rw [hx] at hl
        simp at hl
        have h1 := hU.one S N r n
        refine ⟨_, rfl, ?_, by simp; omega⟩
        have e2 := atI_nth hn
        have e3 := atI_nthT hn'
        have e6 := hT.nth n
        have e4 := q_part (row := r) (so := vars S N) (kept := nth S n) (m := M ++ [Cell.lst ((acc.map .int).map .p)]) hr.symm hv
        have h0 : (M ++ [Cell.lst ((acc.map PyData.int).map .p)])[M.length]? = some (.lst ((acc.map PyData.int).map .p)) := by simp
        generalize hMM : M ++ [Cell.lst ((acc.map PyData.int).map .p)] = MM at e4 h0 ⊢
        unfold L1__law_solutions C1__law_solutions
        simp only [q_tidy, q_seq, q_set, q_expr, r_lm, r_call, r_acons, r_anil, r_un, unK_kt, r_op2, r_var, r_c, List.set_cons_succ, List.set_cons_zero, List.getElem?_cons_succ, List.getElem?_cons_zero, bind_ok, o_ixT, atI_1, e2, List.length_cons, List.length_nil, decide_true, if_true, e4, st_ok, lstAt_loc h0]
        rw [lc_data (nthT T n) (fun p => .p (rowD p)) (fun p => decide (p.1 = part S N r n)) (fun p => .int p.2) (gs := []) (by
          simp only [r_iseq, r_op2, r_var, r_c, List.getElem?_cons_succ, List.getElem?_cons_zero, bind_ok, o_ixT, e3, src_tb]) rfl (by omega) fun p hp => ⟨_, by simp [Tg.put, Tg.puts, seqT]; rfl, by simp [wipeE, part]; exact decide_eq_decide.mpr Iff.rfl, by simp [wipeE]⟩]
        have e7 : ((nthT T n).filter fun p => decide (p.1 = part S N r n)) = hits S T N r n := rfl
        rw [e7]
        simp only [bind_ok]
        rw [o_extend h0 (by simp only [List.length_map]; omega)]
        simp only [st_ok]
        rw [tidy_len (by simp), ← hMM, set_last]
        simp [wipeE, Function.comp_def]) (by simp)
    have k1 := key.1
    have e5 : ∀ (L acc : List Int), L.foldl (fun acc n => acc ++ (hits S T N r n).map (·.2)) acc = acc ++ csts S T N r L := by
      intro L
      induction L with
      | nil => intro acc; simp [csts]
      | cons n L ih => intro acc; rw [List.foldl_cons, ih]; simp [csts]
    rw [e5] at k1
    exact k1
  have key := for_fold (gs := []) (t := .n 5) (body := L2__law_solutions) (e := fun r : List Int => W.p (sd r)) (s := [some (.p (gD q S E)), some (.p (tsD T)), some wn, some (.kt ((vars S N).map .int)), some (.loc m.length), none, none, none, none, none, none]) (m := m ++ [.lst []])
    (fun acc r => if N.all (has S T N r) = true then acc ++ [(r, pr S T N r)] else acc) (fun _ => [some (.p (gD q S E)), some (.p (tsD T)), some wn, some (.kt ((vars S N).map .int)), some (.loc m.length), none, none, none, none, none, none]) (fun acc : List Row => m ++ [.lst ((acc.map rowD).map .p)]) (fun pre acc => acc.length ≤ pre.length) (rows q (vars S N).length) [] rfl rfl (fun _ _ _ => rfl) (fun pre r post acc hx hi => by
      have hl := rows_small (q := q) hq hv
      have hr : r.length = (vars S N).length := row_len (q := q) (by rw [hx]; simp)
      rw [hx] at hl
      simp at hl
      have hw2 := okM_data (ds := acc.map rowD) hw
      have h0 : (m ++ [Cell.lst ((acc.map rowD).map .p)])[m.length]? = some (.lst ((acc.map rowD).map .p)) := by simp
      refine ⟨_, rfl, ?_, by split <;> simp <;> omega⟩
      have hMl : (m ++ [Cell.lst ((acc.map rowD).map .p)]).length = m.length + 1 := by simp
      generalize hM : m ++ [Cell.lst ((acc.map rowD).map .p)] = M at hw2 h0 hMl ⊢
      have i1 := inner M r (some (.loc m.length)) hr
      obtain ⟨c1, c2, c3⟩ := csts_spec hU S N r N
      unfold L2__law_solutions
      simp only [q_tidy, q_seq, q_set, r_lstL, r_anil, bind_ok, Nat.zero_le, if_true, List.length_nil, st_ok, List.set_cons_succ, List.set_cons_zero]
      simp only [q_for, r_iseq, r_var, List.getElem?_cons_succ, List.getElem?_cons_zero, bind_ok, hn.src, st_ok, i1]
      have h5 : (M ++ [Cell.lst (((csts S T N r N).map PyData.int).map .p)])[M.length]? = some (.lst (((csts S T N r N).map PyData.int).map .p)) := by simp
      have h6 : (M ++ [Cell.lst (((csts S T N r N).map PyData.int).map .p)])[m.length]? = some (.lst ((acc.map rowD).map .p)) := by rw [List.getElem?_append_left (by omega)]; exact h0
      have n1 : lenM [.loc M.length] (M ++ [Cell.lst (((csts S T N r N).map PyData.int).map .p)]) = .ok (.p (.int (csts S T N r N).length)) (M ++ [Cell.lst (((csts S T N r N).map PyData.int).map .p)]) := by
        simp only [lenM, seqW, h5, List.length_map]
      have n2 : sumM [.loc M.length] (M ++ [Cell.lst (((csts S T N r N).map PyData.int).map .p)]) = .ok (.p (.int (csts S T N r N).sum)) (M ++ [Cell.lst (((csts S T N r N).map PyData.int).map .p)]) := by
        simp only [sumM, isL, seqW, h5, if_true, Option.bind_some, allP_map, intsOf_map]
      simp only [q_if, r_bval, r_op2, r_cb, r_acons, r_anil, r_var, List.getElem?_cons_succ, List.getElem?_cons_zero, bind_ok, n1, hn.len, o_eqI, r_boolOf, st_ok]
      have e8 : ((((csts S T N r N).length : Nat) : Int) == ((N.length : Nat) : Int)) = N.all (has S T N r) := by
        rw [Bool.eq_iff_iff, ← c2]
        simp
        omega
      rw [e8]
      have okE1 : okE M.length (wipeE [some (.p (gD q S E)), some (.p (tsD T)), some wn, some (.kt ((vars S N).map .int)), some (.loc m.length), some (.p (sd r)), some (.loc M.length), none, none, none, none] [5, 6, 7, 8, 9, 10]) = true := by
        simp [wipeE, okE, okW, hn.ok]; omega
      cases h2 : N.all (has S T N r) with
      | false =>
        simp only [Bool.false_eq_true, if_false, q_skip]
        rw [tidy_cut rfl hw2 okE1, ← hM]
        simp [wipeE]
      | true =>
        have hs := c3 h2 0
        rw [Int.zero_add] at hs
        simp only [if_true, q_expr, r_lm, r_var, List.getElem?_cons_succ, List.getElem?_cons_zero, bind_ok, lstAt_loc h6, r_acons, r_anil, r_tup, r_cb, n2, List.length_cons, List.length_nil]
        have hz : (0 + 1 + 1 ≤ sizeLine) = True := by simp [sizeLine_eq]
        simp only [hz, if_true, bind_ok, mkTup, allP_cons, allP_nil, Option.map_some]
        rw [o_append h6 (by simp; omega)]
        simp only [st_ok]
        have e9 : (M ++ [Cell.lst (((csts S T N r N).map PyData.int).map .p)]).set m.length (.lst ((acc.map rowD).map .p ++ [.p (.tuple [sd r, .int (csts S T N r N).sum])])) = (m ++ [Cell.lst (((acc ++ [(r, pr S T N r)]).map rowD).map .p)]) ++ [Cell.lst (((csts S T N r N).map PyData.int).map .p)] := by
          rw [← hM, hs]
          simp [pr]
        rw [e9, tidy_cut (by simp [hMl]) (by
          have := okM_data (ds := (acc ++ [(r, pr S T N r)]).map rowD) hw
          simp only [List.length_append, List.length_singleton] at this
          rw [hMl]; exact this) okE1]
        simp [wipeE]) (by simp)
  have k1 := key.1
  rw [foldl_fm] at k1
  have e5 : [] ++ ((rows q (vars S N).length).filter fun r => N.all (has S T N r)).map (fun r => (r, pr S T N r)) = sols q S T N := by rw [List.nil_append]; rfl
  rw [e5] at k1
  have s1 := q_law_variables (q := q) (E := E) hw hS hN hn
  have s2 := q_law_rows (q := q) (n := (vars S N).length) (m := m ++ [Cell.lst []]) hw1 hq hv
  unfold F__law_solutions mkFn m__law_solutions
  simp only [startE, List.length_cons, List.length_nil, List.map_cons, List.map_nil, decide_true, if_true, q_seq, q_set, r_call, r_acons, r_anil, r_var, List.getElem?_cons_succ, List.getElem?_cons_zero, bind_ok, s1, st_ok, List.cons_append, List.nil_append, List.replicate, List.set_cons_succ, List.set_cons_zero, r_lstL, Nat.zero_le]
  simp only [q_for, r_iseq, r_call, r_cb, r_acons, r_anil, r_un, r_op2, r_c, r_var, List.getElem?_cons_succ, List.getElem?_cons_zero, bind_ok, o_ixT, atI_0, List.length_cons, List.length_nil, decide_true, if_true, unK_kt, o_lenT, List.length_map, s2, srcOf_l, st_ok]
  have e2 : ((rows q (vars S N).length).map sd).map W.p = (rows q (vars S N).length).map fun r => W.p (sd r) := by simp [Function.comp_def]
  rw [e2]
  change retE true m.length (match forGo [] (.n 5) L2__law_solutions ((rows q (vars S N).length).map fun r => W.p (sd r)) [some (.p (gD q S E)), some (.p (tsD T)), some wn, some (.kt ((vars S N).map .int)), some (.loc m.length), none, none, none, none, none, none] (m ++ [.lst []]) with | some (.nx s1, m1) => _ | r => r) = _
  rw [k1]
  simp only [q_ret, r_var, List.getElem?_cons_succ, List.getElem?_cons_zero, st_ok, ret_rt]
  exact fin_rows hw
end
end Mir.K60

namespace Mir.K60
open PySem PySem.Spec PyProof.Rows L2
/-! ### the checks pass -/
@[simp] theorem o_ltT {a b : List Int} {m : Hm} : ltM (.p (.tuple (a.map .int))) (.p (.tuple (b.map .int))) m = .ok (.p (.bool (HT.lexLt a b))) m := by simp [ltM]
/-- each one less than the next one -/
def Clb (ds : List PyData) : Prop := ∀ (i : Nat) (x y : PyData) (m : Hm), ds[i]? = some x → ds[i + 1]? = some y → ltM (.p x) (.p y) m = .ok (.p (.bool true)) m
theorem clb_rows {L : List (List Int)} (h : L.Pairwise fun a b => HT.lexLt a b = true) : Clb (L.map sd) := by
  intro i x y m hx hy
  rw [List.getElem?_map] at hx hy
  obtain ⟨a, ha, rfl⟩ := Option.map_eq_some_iff.mp hx
  obtain ⟨b, hb, rfl⟩ := Option.map_eq_some_iff.mp hy
  obtain ⟨h1, rfl⟩ := List.getElem?_eq_some_iff.mp ha
  obtain ⟨h2, rfl⟩ := List.getElem?_eq_some_iff.mp hb
  have := List.pairwise_iff_getElem.mp h i (i + 1) h1 h2 (by omega)
  simp [this]
theorem clb_ints {L : List Int} (h : L.Pairwise (· < ·)) : Clb (L.map .int) := by
  intro i x y m hx hy
  rw [List.getElem?_map] at hx hy
  obtain ⟨a, ha, rfl⟩ := Option.map_eq_some_iff.mp hx
  obtain ⟨b, hb, rfl⟩ := Option.map_eq_some_iff.mp hy
  obtain ⟨h1, rfl⟩ := List.getElem?_eq_some_iff.mp ha
  obtain ⟨h2, rfl⟩ := List.getElem?_eq_some_iff.mp hb
  have := List.pairwise_iff_getElem.mp h i (i + 1) h1 h2 (by omega)
  simp [this]
/-- a tuple or a list of data -/
def TL1 (w : W) (ds : List PyData) : Prop := w = .p (.tuple ds) ∨ w = .p (.list ds)
theorem lc_clb {w : W} {ds : List PyData} {m : Hm} {src : IX} {f g : EX W} {s : Ev} {j : Nat} {vs : List Nat} (hw : TL1 w ds) (h : Clb ds) (hl : ds.length ≤ 1000) (hs : src s m = .ok ⟨(rgI (ds.length - 1)).map fun i => .p (.int i), []⟩ m)
    (hf : ∀ i : Nat, ∃ s1, (Tg.n j).put (.p (.int i)) (wipeE s vs) = some s1 ∧ f s1 m = idxM w (.p (.int i)) m ∧ g s1 m = idxM w (.p (.int (i + 1 : Nat))) m) :
    eLc lcFin src (.n j) bYes (eOp2 ltM f g) vs s m = .ok (.p (.list ((rgI (ds.length - 1)).map fun _ => .bool true))) m := by
  rw [lc_map (rgI (ds.length - 1)) (fun i => .p (.int i)) (fun _ => .bool true) (gs := []) hs rfl (by simp [rgI]; omega) fun z hz => ?_]
  obtain ⟨i, hi, rfl⟩ := List.mem_map.mp hz
  have hi := List.mem_range.mp hi
  obtain ⟨s1, h1, h2, h3⟩ := hf i
  refine ⟨s1, h1, ?_⟩
  have q1 : ds[i]? = some ds[i] := List.getElem?_eq_getElem (by omega)
  have q2 : ds[i + 1]? = some ds[i + 1] := List.getElem?_eq_getElem (by omega)
  have e1 : idxM w (.p (.int i)) m = .ok (.p ds[i]) m := by
    rcases hw with rfl | rfl
    · rw [o_ixT, atI_lit, q1]
    · rw [o_ixL, atI_lit, q1]
  have e2 : idxM w (.p (.int (i + 1 : Nat))) m = .ok (.p ds[i + 1]) m := by
    rcases hw with rfl | rfl
    · rw [o_ixT, atI_lit, q2]
    · rw [o_ixL, atI_lit, q2]
  rw [r_op2, h2, e1, bind_ok, h3, e2, bind_ok, h i _ _ m q1 q2]
theorem rg_pred {n : Nat} {m : Hm} (h : n ≤ 1000) {f : EX W} {s : Ev} (hf : f s m = .ok (.p (.int ((n : Int) - 1))) m) : iRg1 f s m = .ok ⟨(rgI (n - 1)).map fun i => .p (.int i), []⟩ m := by
  rw [r_irg1, hf, bind_ok]
  cases n with
  | zero => simp [rgP, rgI]
  | succ n =>
    have e : (((n + 1 : Nat) : Int) - 1) = (n : Nat) := by omega
    have := rg_it (n := n) (m := m) (by omega)
    rw [e]
    simpa using this
theorem TL1.len {w : W} {ds : List PyData} {m : Hm} (h : TL1 w ds) : lenM [w] m = .ok (.p (.int ds.length)) m := by
  rcases h with rfl | rfl <;> simp
theorem q_climbD {w : W} {ds : List PyData} {m : Hm} (hw : TL1 w ds) (h : Clb ds) (hl : ds.length ≤ 1000) : F_is_climbing [w] m = .ok (.p (.bool true)) m := by
  unfold F_is_climbing mkFn m_is_climbing C1_is_climbing
  simp only [startE, List.length_cons, List.length_nil, List.map_cons, List.map_nil, decide_true, if_true, q_ret, r_cb, r_acons, r_anil]
  rw [lc_clb hw h hl (rg_pred hl (by simp [hw.len])) fun i => ⟨_, rfl, by simp [wipeE], by simp [wipeE]⟩]
  simp [all_true, endFn_p]
theorem q_isnum (d : PyData) (lo hi : Int) (m : Hm) (h : nd d = true) : F_is_number [.p d, .p (.int lo), .p (.int hi)] m = .ok (.p (.bool (isW d lo hi))) m := by
  unfold F_is_number mkFn m_is_number
  cases d with
  | int i =>
    by_cases h1 : lo ≤ i <;> by_cases h2 : i ≤ hi <;> simp [startE, isiM, tyN, isiA, isW, h1, h2, endFn_p]
  | dict => cases h
  | _ => simp [startE, isiM, tyN, isiA, isW, endFn_p]
structure RowOk (q : Nat) (s r : List Int) : Prop where
  len : r.length = s.length
  rng : ∀ v ∈ r, 0 ≤ v ∧ v < q
theorem q_is_row {q : Nat} {s r : List Int} {m : Hm} (hr : RowOk q s r) (hl : s.length ≤ 6) : F_is_row [.p (.int q), .p (sd s), .p (sd r)] m = .ok (.p (.bool true)) m := by
  have h1 := hr.len
  unfold F_is_row mkFn m_is_row C1_is_row
  simp [startE, isiM, tyN, isiA, h1]
  rw [lc_map r (fun v => .p (.int v)) (fun _ => .bool true) (gs := []) (by simp [Function.comp_def]) rfl (by omega) fun v hv => ⟨_, rfl, by
    have h2 := hr.rng v hv
    have h3 : v ≤ (q : Int) - 1 := by omega
    simp [wipeE, q_is_whole (.int v) 0 ((q : Int) - 1) m rfl, isW, h2.1, h3]⟩]
  simp [all_true, endFn_p]
structure TbOk (q : Nat) (s : List Int) (t : List Row) : Prop where
  row : ∀ p ∈ t, RowOk q s p.1 ∧ 0 ≤ p.2 ∧ p.2 ≤ 100
  asc : (t.map (·.1)).Pairwise fun a b => HT.lexLt a b = true
  len : t.length ≤ 729
theorem q_is_table {q : Nat} {s : List Int} {t : List Row} {m : Hm} (ht : TbOk q s t) (hl : s.length ≤ 6) : F_is_table [.p (.int q), .p (sd s), .p (tbD t)] m = .ok (.p (.bool true)) m := by
  have key := for_fold (gs := []) (t := .n 3) (body := L1_is_table) (e := fun p : Row => W.p (rowD p)) (s := [some (.p (.int q)), some (.p (sd s)), some (.p (tbD t)), none]) (m := m)
    (fun (b : Option Row) p => some p) (fun b => [some (.p (.int q)), some (.p (sd s)), some (.p (tbD t)), b.map fun p => .p (rowD p)]) (fun _ => m) (fun _ _ => True) t none rfl rfl (fun _ _ _ => rfl) (fun pre p post b hx _ => by
      refine ⟨_, rfl, ?_, trivial⟩
      obtain ⟨h1, h2, h3⟩ := ht.row p (by rw [hx]; simp)
      have e1 := q_is_row (m := m) h1 hl
      have e2 := q_is_whole (.int p.2) 0 100 m rfl
      unfold L1_is_table
      simp [isiM, tyN, isiA, e1, e2, isW, h2, h3, tidy_same, wipeE]) trivial
  unfold F_is_table mkFn m_is_table C1_is_table
  have e2 : (t.map rowD).map W.p = t.map fun p => W.p (rowD p) := by simp [Function.comp_def]
  simp only [startE, List.length_cons, List.length_nil, List.map_cons, List.map_nil, decide_true, if_true, q_seq, q_if, r_bnot, r_btru, r_op1, r_var, List.cons_append, List.nil_append, List.replicate, List.getElem?_cons_succ, List.getElem?_cons_zero, bind_ok, isiM, tyN, isiA, beq_self_eq_true, Bool.true_or, r_tru, Bool.not_true, Bool.false_eq_true, if_false, st_ok, q_skip, q_for, r_iseq, srcOf_t, e2]
  change retE true m.length (match forGo [] (.n 3) L1_is_table (t.map fun p => W.p (rowD p)) [some (.p (.int q)), some (.p (sd s)), some (.p (tbD t)), none] m with | some (.nx s1, m1) => _ | r => r) = _
  rw [key.1]
  simp only [q_ret, r_call, r_acons, r_anil]
  rw [lc_map t (fun p => .p (rowD p)) (fun p => sd p.1) (gs := []) (by simp [Function.comp_def]) rfl (by have := ht.len; omega) fun p hp => ⟨_, rfl, by simp [wipeE]⟩]
  have e5 := q_climbD (w := .p (.list (t.map fun p => sd p.1))) (ds := t.map fun p => sd p.1) (m := m) (.inr rfl) (by
    have := clb_rows ht.asc
    rw [List.map_map] at this
    exact this) (by have := ht.len; simp; omega)
  simp [e5, endFn_p]
structure GrOk (q : Nat) (S : List (List Int)) (E : List (Int × Int)) : Prop where
  q : q = 2 ∨ q = 3
  sc : Sc S
  pos : 1 ≤ S.length
  ed : ∀ p ∈ E, 0 ≤ p.1 ∧ p.1 < p.2 ∧ p.2 < S.length
  asc : E.Pairwise fun a b => HT.lexLt [a.1, a.2] [b.1, b.2] = true
  len : E.length ≤ 100
theorem q_is_edge {p : Int × Int} {n : Nat} {m : Hm} (h : 0 ≤ p.1 ∧ p.1 < p.2 ∧ p.2 < n) : F_is_edge [.p (prD p), .p (.int n)] m = .ok (.p (.bool true)) m := by
  unfold F_is_edge mkFn m_is_edge C1_is_edge
  simp [startE, isiM, tyN, isiA]
  rw [lc_map [p.1, p.2] (fun v => .p (.int v)) (fun _ => .bool true) (gs := []) (by simp) rfl (by simp) fun v hv => ⟨_, rfl, by
    have h2 : 0 ≤ v ∧ v ≤ (n : Int) - 1 := by simp at hv; rcases hv with rfl | rfl <;> omega
    simp [wipeE, q_isnum (.int v) 0 ((n : Int) - 1) m rfl, isW, h2]⟩]
  have at2 : allM true [.p (.list [.bool true, .bool true])] m = .ok (.p (.bool true)) m := all_true (m := m) [0, 0]
  simp [at2, endFn_p, h.2.1]
theorem q_is_graph {q : Nat} {S : List (List Int)} {E : List (Int × Int)} {m : Hm} (g : GrOk q S E) : F_is_graph [.p (gD q S E)] m = .ok (.p (.bool true)) m := by
  have hq : (2 : Int) ≤ q ∧ (q : Int) ≤ 3 := by rcases g.q with h | h <;> omega
  have hs : (1 : Int) ≤ S.length ∧ (S.length : Int) ≤ 5 := by have := g.pos; have := g.sc.len; omega
  unfold F_is_graph mkFn m_is_graph C1_is_graph C2_is_graph C3_is_graph
  have hz : (0 + 1 + 1 + 1 ≤ sizeLine) = True := by simp [sizeLine_eq]
  simp [startE, isiM, tyN, isiA, q_isnum (.int q) 2 3 m rfl, isW, hq, Tg.put, Tg.puts, seqT, hs]
  rw [lc_map S (fun s => .p (sd s)) (fun _ => .bool true) (gs := []) (by simp [Function.comp_def]) rfl (by have := g.sc.len; omega) fun s hs => ⟨_, rfl, by
    obtain ⟨h1, h2, h3⟩ := g.sc.one s hs
    simp [wipeE, q_scope h1 h2 h3]⟩]
  simp [all_true, isiM, tyN, isiA]
  rw [lc_map E (fun p => .p (prD p)) (fun _ => .bool true) (gs := []) (by simp [Function.comp_def]) rfl (by have := g.len; omega) fun p hp => ⟨_, rfl, by
    simp [wipeE, q_is_edge (g.ed p hp)]⟩]
  simp [all_true]
  rw [lc_clb (w := .p (.tuple (E.map prD))) (ds := E.map prD) (.inl rfl) (by
    have h1 : (E.map fun p => [p.1, p.2]).Pairwise fun a b => HT.lexLt a b = true := by rw [List.pairwise_map]; exact g.asc
    have := clb_rows h1
    rw [List.map_map] at this
    exact this) (by have := g.len; simp; omega) (rg_pred (by have := g.len; simp; omega) (by simp)) fun i => ⟨_, rfl, by simp [wipeE], by simp [wipeE]⟩]
  simp [all_true, endFn_p]
theorem q_check_graph {q : Nat} {S : List (List Int)} {E : List (Int × Int)} {m : Hm} (g : GrOk q S E) : F_check_graph [.p (gD q S E)] m = .ok (.p .none) m := by
  unfold F_check_graph mkFn m_check_graph
  simp [startE, q_is_graph g, endFn_p]
structure TsOk (q : Nat) (S : List (List Int)) (T : List (List Row)) : Prop where
  len : T.length = S.length
  tb : ∀ p ∈ S.zip T, TbOk q p.1 p.2
theorem TsOk.mem {q : Nat} {S : List (List Int)} {T : List (List Row)} (h : TsOk q S T) {t : List Row} (ht : t ∈ T) : ∃ s ∈ S, TbOk q s t := by
  obtain ⟨i, hi, rfl⟩ := List.mem_iff_getElem.mp ht
  have hl := h.len
  have hm : (S[i]'(by omega), T[i]) ∈ S.zip T := List.mem_iff_getElem.mpr ⟨i, by simp; omega, by simp⟩
  exact ⟨_, List.getElem_mem _, h.tb _ hm⟩
theorem TsOk.ts {q : Nat} {S : List (List Int)} {T : List (List Row)} (h : TsOk q S T) : Ts S T := ⟨h.len, fun t ht => let ⟨_, _, q⟩ := h.mem ht; q.len⟩
theorem lexLt_irrefl : ∀ a : List Int, HT.lexLt a a = false
  | [] => rfl
  | x :: a => by rw [HT.lexLt_cons, if_pos rfl]; exact lexLt_irrefl a
theorem TsOk.uq {q : Nat} {S : List (List Int)} {T : List (List Row)} (h : TsOk q S T) : Uq T := ⟨fun t ht => by
  obtain ⟨s, _, q⟩ := h.mem ht
  exact q.asc.imp fun {a b} h e => by rw [e, lexLt_irrefl] at h; cases h⟩
theorem zipped_map {α β : Type} (f : α → PyData) (g : β → PyData) : ∀ (xs : List α) (ys : List β), zipped ((xs.map f).map .p) ((ys.map g).map .p) = (xs.zip ys).map fun p => .p (.tuple [f p.1, g p.2])
  | [], _ => by simp [zipped]
  | _ :: _, [] => by simp [zipped]
  | x :: xs, y :: ys => by
    have := zipped_map f g xs ys
    simp only [List.map_cons, zipped, this, List.zip_cons_cons, mkTup, allP_cons, allP_nil, Option.map_some]
theorem q_are_tables {q : Nat} {S : List (List Int)} {E : List (Int × Int)} {T : List (List Row)} {m : Hm} (g : GrOk q S E) (h : TsOk q S T) : F_are_tables [.p (gD q S E), .p (tsD T)] m = .ok (.p (.bool true)) m := by
  have hl := h.len
  unfold F_are_tables mkFn m_are_tables C1_are_tables
  simp [startE, isiM, tyN, isiA, hl]
  rw [lc_map (S.zip T) (fun p => .p (.tuple [sd p.1, tbD p.2])) (fun _ => .bool true) (gs := []) (by
    have := zipped_map sd tbD S T
    simp only [iZp, r_op2, r_var, r_c, List.getElem?_cons_succ, List.getElem?_cons_zero, bind_ok, o_ixT, atI_1, zipR, isL, beq_self_eq_true, if_true, srcOf_t, this, List.append_nil]) rfl (by have := g.sc.len; simp; omega) fun p hp => ⟨_, by simp [Tg.put, Tg.puts, seqT]; rfl, by
      have h1 := (g.sc.one p.1 (List.of_mem_zip hp).1).2.1
      have := q_is_table (m := m) (h.tb p hp) (by omega)
      simp [wipeE, this]⟩]
  simp [all_true, endFn_p]
section
variable {q : Nat} {S : List (List Int)} {E : List (Int × Int)} {T : List (List Row)} {N : List Int} {m : Hm} {v val : Int}
theorem q_check_tables (g : GrOk q S E) (h : TsOk q S T) : F_check_tables [.p (gD q S E), .p (tsD T)] m = .ok (.p .none) m := by
  unfold F_check_tables mkFn m_check_tables
  simp [startE, q_check_graph g, q_are_tables g h, endFn_p]
theorem nd_all (h : Sc S) : Nd S (rgI S.length) := ⟨fun n hn => by
  obtain ⟨i, hi, rfl⟩ := List.mem_map.mp hn
  have := List.mem_range.mp hi
  omega, by simp [rgI]; exact h.len⟩
theorem q_variables_of (hw : okM m.length m = true) (g : Sc S) : F_variables_of [.p (gD q S E)] m = .ok (.kt ((vars S (rgI S.length)).map .int)) m := by
  have e1 := q_scope_of (q := q) (E := E) hw g (nd_all g) (wn := .p (.list ((rgI S.length).map .int))) (.inr rfl)
  have := g.len
  unfold F_variables_of mkFn m_variables_of
  simp [startE]
  rw [rg_l (by omega)]
  simp [e1]
  exact (by have := end_kt (e := []) (fz := true) (ds := (vars S (rgI S.length)).map .int) rfl hw; simpa using this)
/-- the question: a variable of the graph with one of its values -/
structure Qn (q : Nat) (S : List (List Int)) (v val : Int) : Prop where
  v : v ∈ vars S (rgI S.length)
  lo : 0 ≤ val
  hi : val < q
theorem Qn.rng (h : Qn q S v val) (g : Sc S) : 0 ≤ v ∧ v ≤ 5 := by
  obtain ⟨n, _, hn⟩ := mem_vars.mp h.v
  exact (g.nth n).2.2 v hn
theorem q_check_question (hw : okM m.length m = true) (g : GrOk q S E) (h : TsOk q S T) (hq : Qn q S v val) : F_check_question [.p (gD q S E), .p (tsD T), .p (.int v), .p (.int val)] m = .ok (.p .none) m := by
  have h1 := hq.rng g.sc
  have h2 := hq.lo
  have h3 : val ≤ (q : Int) - 1 := by have := hq.hi; omega
  have e1 : F_check_variable [.p (gD q S E), .p (tsD T), .p (.int v)] m = .ok (.p .none) m := by
    have e2 := q_variables_of (q := q) (E := E) hw g.sc
    have e3 := o_inTI (v := v) (ns := vars S (rgI S.length)) (m := m)
    unfold F_check_variable mkFn m_check_variable
    simp [startE, q_check_tables g h, q_is_whole (.int v) 0 5 m rfl, isW, h1, e2, unK_kt, e3, hq.v, endFn_p]
  unfold F_check_question mkFn m_check_question
  simp [startE, e1, q_is_whole (.int val) 0 ((q : Int) - 1) m rfl, isW, h2, h3, endFn_p]

end
end Mir.K60

namespace Mir.K60
open PySem PySem.Spec PyProof.Rows L2
/-! ### enough -/
def ix (l : List Int) (v : Int) : Nat := l.findIdx fun z => z == v
def gt0 (r : List Int) (i : Nat) : Int := (r[i]?).getD 0
theorem idxOf_ints (v : Int) : ∀ l : List Int, idxOf (.int v) (l.map .int) = ix l v
  | [] => rfl
  | a :: l => by
    have ih := idxOf_ints v l
    unfold idxOf ix at ih ⊢
    have e : PyData.eqv (.int a) (.int v) = (a == v) := rfl
    rw [List.map_cons, List.findIdx_cons, List.findIdx_cons, ih, e]
theorem ix_lt {l : List Int} {v : Int} (h : v ∈ l) : ix l v < l.length := by
  unfold ix
  exact List.findIdx_lt_length_of_exists ⟨v, h, by simp⟩
theorem o_tix {l : List Int} {v : Int} {m : Hm} (h : v ∈ l) : tixM (.kt (l.map .int)) [.p (.int v)] m = .ok (.p (.int (ix l v : Nat))) m := by
  have h1 := any_eqv v l
  have h2 : ((l.map PyData.int).any fun z => PyData.eqv z (.int v)) = true := by
    rw [List.any_map]
    rw [h1]
    simpa using h
  simp only [tixM, rd_p, sh_ints, sh_int, h2, Bool.and_self, if_true, idxOf_ints]
theorem at_gt {r : List Int} {i : Nat} (h : i < r.length) : atI (r.map PyData.int) (i : Int) = some (.int (gt0 r i)) := by
  rw [atI_lit]
  simp [gt0, h]
theorem sols_row {q : Nat} {S : List (List Int)} {T : List (List Row)} {N : List Int} {p : Row} (h : p ∈ sols q S T N) : p.1 ∈ rows q (vars S N).length ∧ N.all (has S T N p.1) = true := by
  unfold sols at h
  obtain ⟨r, hr, rfl⟩ := List.mem_map.mp h
  exact ⟨(List.mem_filter.mp hr).1, (List.mem_filter.mp hr).2⟩
theorem sh_row (n : Nat) (p : Row) : Sh (n + 2) (rowD p) := Sh.tup fun x hx => by
  simp at hx
  rcases hx with rfl | rfl
  · exact sh_sd _ _
  · exact Sh.int _
theorem eq_nil {ds : List PyData} {m : Hm} (h : ∀ x ∈ ds, Sh 60 x) : eqM false (.p (.list ds)) (.p (.list [])) m = .ok (.p (.bool ds.isEmpty)) m ∧ eqM true (.p (.list ds)) (.p (.list [])) m = .ok (.p (.bool (!ds.isEmpty))) m := by
  have h1 := (Sh.lst (n := 60) h).ok (by omega)
  have h2 : SeqAt.shaped (.list []) = true := by decide +kernel
  have h3 : PyData.eqv (.list ds) (.list []) = ds.isEmpty := by cases ds <;> rfl
  simp [eqM, h1, h2, h3]
end Mir.K60

namespace Mir.K60
open PySem PySem.Spec PyProof.Rows L2
/-! ### the plain law -/
theorem asc_ext : ∀ {l l' : List Int}, l.Pairwise (· < ·) → l'.Pairwise (· < ·) → (∀ x, x ∈ l ↔ x ∈ l') → l = l'
  | [], [], _, _, _ => rfl
  | [], b :: l', _, _, h => by have := (h b).mpr (by simp); simp at this
  | a :: l, [], _, _, h => by have := (h a).mp (by simp); simp at this
  | a :: l, b :: l', h1, h2, h => by
    rw [List.pairwise_cons] at h1 h2
    have e : a = b := by
      have p1 := (h a).mp (by simp)
      have p2 := (h b).mpr (by simp)
      rw [List.mem_cons] at p1 p2
      rcases p1 with p1 | p1
      · exact p1
      · rcases p2 with p2 | p2
        · exact p2.symm
        · have := h1.1 b p2
          have := h2.1 a p1
          omega
    subst e
    rw [asc_ext (l := l) (l' := l') h1.2 h2.2]
    intro x
    have hx := h x
    rw [List.mem_cons, List.mem_cons] at hx
    constructor
    · intro hm
      rcases hx.mp (.inr hm) with e | e
      · subst e; have := h1.1 x hm; omega
      · exact e
    · intro hm
      rcases hx.mpr (.inr hm) with e | e
      · subst e; have := h2.1 x hm; omega
      · exact e
def vl (so r : List Int) (x : Int) : Int := gt0 r (ix so x)
theorem ix_get {l : List Int} (h : l.Nodup) {i : Nat} (hi : i < l.length) : ix l l[i] = i := by
  have h1 : l[i] ∈ l := List.getElem_mem hi
  have h2 := ix_lt h1
  have h3 : (l[ix l l[i]] == l[i]) = true := List.findIdx_getElem (w := h2)
  have h4 : l[ix l l[i]] = l[i] := by simpa using h3
  exact (List.getElem_inj h).mp h4
theorem zip_vl {so r : List Int} (h : so.Nodup) (hl : r.length = so.length) : so.zip r = so.map fun x => (x, vl so r x) := by
  apply List.ext_getElem
  · simp [hl]
  · intro i h1 h2
    have hi : i < so.length := by simpa using h2
    simp [vl, ix_get h hi, gt0, show i < r.length by omega]
theorem cut_vl {so r kept : List Int} (h : so.Pairwise (· < ·)) (hk : kept.Pairwise (· < ·)) (hs : ∀ x ∈ kept, x ∈ so) (hl : r.length = so.length) : cutR so r kept = kept.map (vl so r) := by
  unfold cutR
  rw [zip_vl (lt_nodup h) hl, List.filter_map, List.map_map]
  have e : so.filter ((fun p : Int × Int => decide (p.1 ∈ kept)) ∘ fun x => (x, vl so r x)) = kept := by
    apply asc_ext (h.sublist List.filter_sublist) hk
    intro x
    rw [List.mem_filter]
    simp only [Function.comp_apply, decide_eq_true_eq]
    exact ⟨fun q => q.2, fun q => ⟨hs x q, q⟩⟩
  rw [e]
  rfl
theorem mem_rgI {n : Nat} {x : Int} : x ∈ rgI n ↔ 0 ≤ x ∧ x < n := by
  unfold rgI
  rw [List.mem_map]
  constructor
  · rintro ⟨i, hi, rfl⟩
    have := List.mem_range.mp hi
    omega
  · intro h
    exact ⟨x.toNat, List.mem_range.mpr (by omega), by omega⟩
theorem mem_rows {q : Nat} : ∀ {n : Nat} {r : List Int}, r ∈ rows q n ↔ r.length = n ∧ ∀ v ∈ r, 0 ≤ v ∧ v < q
  | 0, r => by
    simp only [rows, List.mem_singleton]
    constructor
    · rintro rfl; simp
    · rintro ⟨h, _⟩; exact List.length_eq_zero_iff.mp h
  | n + 1, r => by
    simp only [rows, List.mem_flatMap, List.mem_map]
    constructor
    · rintro ⟨r', h', v, hv, rfl⟩
      obtain ⟨h1, h2⟩ := mem_rows.mp h'
      refine ⟨by simp [h1], fun x hx => ?_⟩
      rw [List.mem_append, List.mem_singleton] at hx
      rcases hx with hx | rfl
      · exact h2 x hx
      · exact mem_rgI.mp hv
    · rintro ⟨h1, h2⟩
      have hne : r ≠ [] := by intro e; subst e; simp at h1
      have e := List.dropLast_concat_getLast hne
      refine ⟨r.dropLast, mem_rows.mpr ⟨by simp [h1], fun v hv => h2 v ((List.dropLast_subset r) hv)⟩, r.getLast hne, mem_rgI.mpr (h2 _ (List.getLast_mem hne)), e⟩
theorem vl_map {so : List Int} {f : Int → Int} {x : Int} (h : x ∈ so) : vl so (so.map f) x = f x := by
  unfold vl gt0
  have h2 := ix_lt h
  have h3 : (so[ix so x] == x) = true := List.findIdx_getElem (w := h2)
  have h4 : so[ix so x] = x := by simpa using h3
  simp [h2, h4]
theorem vl_rng {q : Nat} {so r : List Int} (hr : r ∈ rows q so.length) {x : Int} (h : x ∈ so) : 0 ≤ vl so r x ∧ vl so r x < q := by
  obtain ⟨h1, h2⟩ := mem_rows.mp hr
  have h3 := ix_lt h
  have h4 : ix so x < r.length := by omega
  have e : vl so r x = r[ix so x] := by simp [vl, gt0, h4]
  rw [e]
  exact h2 _ (List.getElem_mem _)
section
variable {q : Nat} {S : List (List Int)} {T T' : List (List Row)} {N N' : List Int} {v val : Int}
theorem vars_sub (h : ∀ n ∈ N, n ∈ N') : ∀ x ∈ vars S N, x ∈ vars S N' := fun x hx => by
  obtain ⟨n, hn, q⟩ := mem_vars.mp hx
  exact mem_vars.mpr ⟨n, h n hn, q⟩
theorem part_vl (hS : Sc S) {r : List Int} (hr : r ∈ rows q (vars S N).length) {n : Int} (hn : n ∈ N) : part S N r n = (nth S n).map (vl (vars S N) r) :=
  cut_vl (vars_lt S N) (hS.nth n).1 (fun x hx => mem_vars.mpr ⟨n, hn, hx⟩) (mem_rows.mp hr).1
end
theorem lex_app : ∀ {a b x y : List Int}, a.length = b.length → HT.lexLt a b = true → HT.lexLt (a ++ x) (b ++ y) = true
  | [], [], x, y, _, h => by cases h
  | [], _ :: _, _, _, h, _ => by simp at h
  | _ :: _, [], _, _, h, _ => by simp at h
  | u :: a, w :: b, x, y, hl, h => by
    rw [HT.lexLt_cons] at h
    rw [List.cons_append, List.cons_append, HT.lexLt_cons]
    by_cases e : u = w
    · rw [if_pos e] at h ⊢
      exact lex_app (by simpa using hl) h
    · rw [if_neg e] at h ⊢
      exact h
theorem lex_last : ∀ (a : List Int) {u w : Int}, u < w → HT.lexLt (a ++ [u]) (a ++ [w]) = true
  | [], u, w, h => by
    rw [List.nil_append, List.nil_append, HT.lexLt_cons, if_neg (by omega)]
    simpa using h
  | x :: a, u, w, h => by
    rw [List.cons_append, List.cons_append, HT.lexLt_cons, if_pos rfl]
    exact lex_last a h
theorem rgI_asc (n : Nat) : (rgI n).Pairwise (· < ·) := by
  unfold rgI
  rw [List.pairwise_map]
  exact List.pairwise_lt_range.imp fun {a b} h => by omega
theorem rows_asc (q : Nat) : ∀ n, (rows q n).Pairwise fun a b => HT.lexLt a b = true
  | 0 => by simp [rows]
  | n + 1 => by
    have ih := rows_asc q n
    rw [rows, List.pairwise_flatMap]
    refine ⟨fun r hr => ?_, ?_⟩
    · rw [List.pairwise_map]
      exact (rgI_asc q).imp fun {a b} h => lex_last r h
    · have ih2 : (rows q n).Pairwise fun a b => HT.lexLt a b = true ∧ a.length = b.length := by
        rw [List.pairwise_iff_getElem] at ih ⊢
        intro i j hi hj hij
        exact ⟨ih i j hi hj hij, by rw [row_len (List.getElem_mem hi), row_len (List.getElem_mem hj)]⟩
      refine ih2.imp fun {a b} h x hx y hy => ?_
      obtain ⟨u, _, rfl⟩ := List.mem_map.mp hx
      obtain ⟨w, _, rfl⟩ := List.mem_map.mp hy
      exact lex_app h.2 h.1
end Mir.K60

namespace Mir.K60
open PySem PySem.Spec PyProof.Rows L2
/-! ### what is drawn -/
theorem q_pick {w : W} {ds : List PyData} {ns : List Int} {c : Int} {k : Nat} {r : Hm} (hw : TL1 w ds) (h0 : 0 < ds.length) (h1 : ds.length < 1000) : ∃ x ∈ ds, ∃ (c' : Int) (k' : Nat), F__law_pick [.loc 0, w] (strm ns c k :: r) = .ok (.p x) (strm ns c' k' :: r) := by
  obtain ⟨d, c', k', e1, h2, h3⟩ := q_next (ns := ns) (c := c) (k := k) (r := r) (many := ds.length) (by omega) (by omega)
  obtain ⟨x, hx, e2⟩ := atI_mem (xs := ds) h2 h3
  refine ⟨x, hx, c', k', ?_⟩
  have e3 : ∀ m, idxM w (.p (.int d)) m = .ok (.p x) m := fun m => by
    rcases hw with rfl | rfl
    · rw [o_ixT, e2]
    · rw [o_ixL, e2]
  unfold F__law_pick mkFn m__law_pick
  simp only [startE, List.length_cons, List.length_nil, List.map_cons, List.map_nil, decide_true, if_true, q_ret, r_op2, r_call, r_cb, r_acons, r_anil, r_var, List.cons_append, List.nil_append, List.getElem?_cons_succ, List.getElem?_cons_zero, bind_ok, hw.len, e1, e3, st_ok, ret_rt]
  exact endFn_len rfl
theorem q_law_table {q : Nat} {s : List Int} {ns : List Int} {c : Int} {k : Nat} (hq : q ≤ 3) (hl : s.length ≤ 6) : ∃ (t : List Row) (c' : Int) (k' : Nat), F__law_table [.loc 0, .p (.int q), .p (sd s)] [strm ns c k] = .ok (.p (tbD t)) [strm ns c' k'] ∧ TbOk q s t := by
  obtain ⟨x, hx, c1, k1, e1⟩ := q_pick (w := .p (.list [.int 1, .int 2, .int 2, .int 3])) (ds := [.int 1, .int 2, .int 2, .int 3]) (ns := ns) (c := c) (k := k) (r := []) (.inr rfl) (by simp) (by simp)
  obtain ⟨sh, rfl⟩ : ∃ sh : Int, x = .int sh := by
    simp at hx
    rcases hx with rfl | rfl | rfl <;> exact ⟨_, rfl⟩
  have e2 : F__law_rows [.p (.int q), .p (.int (s.length : Nat))] [strm ns c1 k1] = .ok (.p (.list ((rows q s.length).map sd))) [strm ns c1 k1] := q_law_rows (by rfl) hq hl
  obtain ⟨ds, m', e3, c2, k2, t, rfl, rfl, h1, h2⟩ := lc_ex (src := (iSeq (eCall 2 F__law_rows (aCons (eVar 1) (aCons (eCB lenM (aCons (eVar 2) aNil)) aNil))))) (gs := []) (t := .n 4) (g := (bVal (eOp2 ltM (eCall 2 F__law_next (aCons (eVar 0) (aCons (eC (.int 3)) aNil))) (eVar 3)))) (f := (eTup (aCons (eVar 4) (aCons (eCall 2 F__law_next (aCons (eVar 0) (aCons (eCall 2 F__law_pick (aCons (eVar 0) (aCons (eLst (aCons (eC (.int 3)) (aCons (eC (.int 101)) aNil))) aNil))) aNil))) aNil)))) (vs := [4]) (s := [some (.loc 0), some (.p (.int q)), some (.p (sd s)), some (.p (.int sh)), none]) (m := [strm ns c1 k1]) (m0 := [strm ns c1 k1])
    (rows q s.length) (fun r => .p (sd r)) (fun pre ds m => ∃ (c : Int) (k : Nat) (t : List Row), m = [strm ns c k] ∧ ds = t.map rowD ∧ (t.map (·.1)).Sublist pre ∧ ∀ p ∈ t, 0 ≤ p.2 ∧ p.2 ≤ 100)
    (by simp [e2, Function.comp_def]) (by have := rows_small hq hl; omega) (fun _ _ _ _ => rfl) (by
      rintro pre r post _ _ hx ⟨c, k, t, rfl, rfl, h1, h2⟩
      obtain ⟨d, c3, k3, e4, _, _⟩ := q_next (ns := ns) (c := c) (k := k) (r := []) (many := 3) (by omega) (by omega)
      obtain ⟨y, hy, c4, k4, e5⟩ := q_pick (w := .p (.list [.int 3, .int 101])) (ds := [.int 3, .int 101]) (ns := ns) (c := c3) (k := k3) (r := []) (.inr rfl) (by simp) (by simp)
      obtain ⟨mx, rfl, hm⟩ : ∃ mx : Int, y = .int mx ∧ 0 < mx ∧ mx ≤ 101 := by
        simp at hy
        rcases hy with rfl | rfl
        · exact ⟨_, rfl, by omega, by omega⟩
        · exact ⟨_, rfl, by omega, by omega⟩
      obtain ⟨co, c5, k5, e6, h3, h4⟩ := q_next (ns := ns) (c := c4) (k := k4) (r := []) (many := mx) (by omega) (by omega)
      refine ⟨_, rfl, decide (d < sh), [strm ns c3 k3], by simp [wipeE, e4], fun _ => ⟨rowD (r, co), [strm ns c5 k5], by simp [wipeE, sizeLine_eq, e5, e6, mkTup], c5, k5, t ++ [(r, co)], rfl, by simp, ?_, ?_⟩, fun _ => ⟨c3, k3, t, rfl, rfl, ?_, h2⟩⟩
      · rw [List.map_append]
        exact h1.append (List.Sublist.refl _)
      · intro p hp
        rw [List.mem_append, List.mem_singleton] at hp
        rcases hp with hp | rfl
        · exact h2 p hp
        · exact ⟨h3, by simp; omega⟩
      · exact h1.trans (List.sublist_append_left _ _)) ⟨c1, k1, [], rfl, rfl, by simp, by simp⟩
  refine ⟨t, c2, k2, ?_, ⟨fun p hp => ?_, (rows_asc q s.length).sublist h1, ?_⟩⟩
  · unfold F__law_table mkFn m__law_table C1__law_table
    have hz : (0 + 1 + 1 + 1 + 1 ≤ sizeLine) = True := by simp [sizeLine_eq]
    have hz' : (4 ≤ sizeLine) = True := by simp [sizeLine_eq]
    simp only [startE, List.length_cons, List.length_nil, List.map_cons, List.map_nil, decide_true, if_true, q_seq, q_set, q_ret, r_call, r_cb, r_lst, r_acons, r_anil, r_var, r_c, bind_ok, hz, hz', allP_cons, allP_nil, Option.map_some, e1, st_ok, List.cons_append, List.nil_append, List.replicate, List.getElem?_cons_succ, List.getElem?_cons_zero, List.set_cons_succ, List.set_cons_zero]
    rw [e3]
    simp only [bind_ok, o_tupL, st_ok, ret_rt]
    exact endFn_len rfl
  · have hm := mem_rows.mp (h1.subset (List.mem_map.mpr ⟨p, hp, rfl⟩))
    exact ⟨⟨hm.1, hm.2⟩, h2 p hp⟩
  · have := h1.length_le
    rw [List.length_map] at this
    have := rows_small hq hl
    omega
end Mir.K60
namespace Mir.K60
open PySem PySem.Spec PyProof.Rows L2
theorem q_law_tables {q : Nat} {S : List (List Int)} {E : List (Int × Int)} {ns : List Int} {c : Int} {k : Nat} (hq : q ≤ 3) (hS : Sc S) : ∃ (T : List (List Row)) (c' : Int) (k' : Nat), F__law_tables [.loc 0, .p (gD q S E)] [strm ns c k] = .ok (.p (tsD T)) [strm ns c' k'] ∧ TsOk q S T := by
  obtain ⟨ds, m', e3, c2, k2, T, rfl, rfl, h1, h2⟩ := lc_ex (src := (iSeq (eOp2 idxM (eVar 1) (eC (.int 1))))) (gs := []) (t := .n 2) (g := bYes) (f := (eCall 3 F__law_table (aCons (eVar 0) (aCons (eOp2 idxM (eVar 1) (eC (.int 0))) (aCons (eVar 2) aNil))))) (vs := [2]) (s := [some (.loc 0), some (.p (gD q S E)), none]) (m := [strm ns c k]) (m0 := [strm ns c k])
    S (fun s => .p (sd s)) (fun pre ds m => ∃ (c : Int) (k : Nat) (T : List (List Row)), m = [strm ns c k] ∧ ds = T.map tbD ∧ T.length = pre.length ∧ ∀ p ∈ pre.zip T, TbOk q p.1 p.2)
    (by simp [Function.comp_def]) (by have := hS.len; omega) (fun _ _ _ _ => rfl) (by
      rintro pre s post _ _ hx ⟨c, k, T, rfl, rfl, h1, h2⟩
      have hl := (hS.one s (by rw [hx]; simp)).2.1
      obtain ⟨t, c3, k3, e4, h3⟩ := q_law_table (q := q) (s := s) (ns := ns) (c := c) (k := k) hq (by omega)
      refine ⟨_, rfl, true, _, rfl, fun _ => ⟨tbD t, _, by simp [wipeE, e4], c3, k3, T ++ [t], rfl, by simp, by simp [h1], ?_⟩, fun h => by cases h⟩
      intro p hp
      rw [List.zip_append h1.symm, List.mem_append] at hp
      rcases hp with hp | hp
      · exact h2 p hp
      · simp at hp
        subst hp
        exact h3) ⟨c, k, [], rfl, rfl, rfl, by simp⟩
  refine ⟨T, c2, k2, ?_, h1, h2⟩
  unfold F__law_tables mkFn m__law_tables C1__law_tables
  simp only [startE, List.length_cons, List.length_nil, List.map_cons, List.map_nil, decide_true, if_true, q_ret, r_cb, r_acons, r_anil, List.cons_append, List.nil_append, List.replicate]
  rw [e3]
  simp only [bind_ok, o_tupL, st_ok, ret_rt]
  exact endFn_len rfl
theorem o_tupC {n : Nat} {ds : List PyData} {m : Hm} (h : m[n]? = some (.lst (ds.map .p))) : tupleM [.loc n] m = .ok (.p (.tuple ds)) m := by
  simp only [tupleM, seqW, h, isL, if_true, mkTup_map]
/-! the graph -/
structure Pool (P : List Int) : Prop where
  asc : P.Pairwise (· < ·)
  rng : ∀ v ∈ P, 0 ≤ v ∧ v ≤ 5
  len : P.length ≤ 4
theorem scope_turn {ns : List Int} {c : Int} {k : Nat} {nm q : Int} {P : List Int} {S : List (List Int)} {x : W} (hP : Pool P) (hl : S.length ≤ 100) : ∃ (s : List Int) (c' : Int) (k' : Nat), L1__law_graph [some (.loc 0), some (.p (.int nm)), some (.p (.int 2)), some (.p (.int q)), some (.p (sd P)), some (.loc 1), some x, none, none, none, none] [strm ns c k, .lst ((S.map sd).map .p)] =
    some (.nx [some (.loc 0), some (.p (.int nm)), some (.p (.int 2)), some (.p (.int q)), some (.p (sd P)), some (.loc 1), none, none, none, none, none], [strm ns c' k', .lst (((S ++ [s]).map sd).map .p)]) ∧ s.Pairwise (· < ·) ∧ s.length ≤ 2 ∧ ∀ v ∈ s, 0 ≤ v ∧ v ≤ 5 := by
  obtain ⟨ds, m', e3, c2, k2, sub, rfl, rfl, h1⟩ := lc_ex (src := (iSeq (eVar 4))) (gs := []) (t := .n 9) (g := (bVal (eOp2 (eqM false) (eCall 2 F__law_next (aCons (eVar 0) (aCons (eC (.int 2)) aNil))) (eC (.int 1))))) (f := eVar 9) (vs := [9]) (s := [some (.loc 0), some (.p (.int nm)), some (.p (.int 2)), some (.p (.int q)), some (.p (sd P)), some (.loc 1), some x, none, none, none, none]) (m := [strm ns c k, .lst ((S.map sd).map .p)]) (m0 := [strm ns c k, .lst ((S.map sd).map .p)])
    P (fun v => .p (.int v)) (fun pre ds m => ∃ (c : Int) (k : Nat) (sub : List Int), m = [strm ns c k, .lst ((S.map sd).map .p)] ∧ ds = sub.map .int ∧ sub.Sublist pre)
    (by simp [Function.comp_def]) (by have := hP.len; omega) (fun _ _ _ _ => rfl) (by
      rintro pre v post _ _ hx ⟨c, k, sub, rfl, rfl, h1⟩
      obtain ⟨d, c3, k3, e4, _, _⟩ := q_next (ns := ns) (c := c) (k := k) (r := [.lst ((S.map sd).map .p)]) (many := 2) (by omega) (by omega)
      refine ⟨_, rfl, (d == 1), [strm ns c3 k3, .lst ((S.map sd).map .p)], by simp only [r_bval, r_op2, r_call, r_acons, r_anil, r_var, r_c, wipeE, List.set_cons_succ, List.set_cons_zero, List.getElem?_cons_succ, List.getElem?_cons_zero, bind_ok, List.length_cons, List.length_nil, decide_true, if_true, e4, o_eqI, r_boolOf], fun _ => ⟨.int v, _, by simp [wipeE], c3, k3, sub ++ [v], rfl, by simp, h1.append (List.Sublist.refl _)⟩, fun _ => ⟨c3, k3, sub, rfl, rfl, h1.trans (List.sublist_append_left _ _)⟩⟩) ⟨c, k, [], rfl, rfl, by simp⟩
  have ht : (sub.take 2).Sublist P := (List.take_sublist 2 sub).trans h1
  refine ⟨sub.take 2, c2, k2, ?_, hP.asc.sublist ht, by simp; omega, fun v hv => hP.rng v (ht.subset hv)⟩
  have cc : cutA (sub.map PyData.int) none (some 2) = (sub.take 2).map .int := by
    rw [show (2 : Int) = ((2 : Nat) : Int) from rfl, cutA_to, List.map_take]
  unfold L1__law_graph C1__law_graph
  simp only [q_tidy, q_seq, q_set]
  rw [e3]
  have h0 : ([strm ns c2 k2, .lst ((S.map sd).map .p)] : Hm)[1]? = some (.lst ((S.map sd).map .p)) := rfl
  simp only [st_ok, q_expr, r_lm, r_cb, r_acons, r_anil, r_var, r_cut, r_none, r_some, cutM, List.set_cons_succ, List.set_cons_zero, List.getElem?_cons_succ, List.getElem?_cons_zero, bind_ok, lstAt_loc h0, if_true, cc, o_tupL]
  rw [o_append h0 (by simp; omega)]
  simp only [st_ok, List.set_cons_succ, List.set_cons_zero]
  rw [tidy_len (by rfl)]
  simp [wipeE]
theorem rg2_it {a b : Int} {m : Hm} {f g : EX W} {s : Ev} (hf : f s m = .ok (.p (.int a)) m) (hg : g s m = .ok (.p (.int b)) m) (ha : -1000000 ≤ a ∧ a ≤ 1000000) (hb : -1000000 ≤ b ∧ b ≤ 1000000) : iRg2 f g s m = .ok ⟨(List.range (b - a).toNat).map fun i : Nat => .p (.int (a + i)), []⟩ m := by
  unfold iRg2
  rw [hf, bind_ok, hg, bind_ok]
  simp only
  rw [if_pos (by simp [ha, hb])]
  simp [rgP, Function.comp_def]
/-- pairs made so far, all with a first node below b -/
structure Prs (n b : Nat) (E : List (Int × Int)) : Prop where
  ed : ∀ p ∈ E, 0 ≤ p.1 ∧ p.1 < p.2 ∧ p.2 < n ∧ p.1 < b
  asc : E.Pairwise fun a b => HT.lexLt [a.1, a.2] [b.1, b.2] = true
theorem pairs_turn {ns : List Int} {c : Int} {k : Nat} {nm q : Int} {P : List Int} {S : List (List Int)} {o : Option W} {E : List (Int × Int)} {b : Nat} (hS : S.length ≤ 5) (hb : b < S.length) (hE : Prs S.length b E) (hl : E.length ≤ 5 * b) : ∃ (E' : List (Int × Int)) (c' : Int) (k' : Nat), L2__law_graph [some (.loc 0), some (.p (.int nm)), some (.p (.int 2)), some (.p (.int q)), some (.p (sd P)), some (.loc 1), none, none, some (.loc 2), some (.p (.int b)), none] [strm ns c k, .lst ((S.map sd).map .p), .lst ((E.map prD).map .p)] =
    some (.nx [some (.loc 0), some (.p (.int nm)), some (.p (.int 2)), some (.p (.int q)), some (.p (sd P)), some (.loc 1), none, none, some (.loc 2), some (.p (.int b)), none], [strm ns c' k', .lst ((S.map sd).map .p), .lst ((E'.map prD).map .p)]) ∧ Prs S.length (b + 1) E' ∧ E'.length ≤ 5 * (b + 1) := by
  obtain ⟨b1, hb1⟩ : ∃ b1 : Int, (b : Int) + 1 = b1 := ⟨_, rfl⟩
  have hn : ((S.length : Int) - b1).toNat = S.length - (b + 1) := by omega
  obtain ⟨ds, m', e3, c2, k2, F, rfl, rfl, h1⟩ := lc_ex (src := (iRg2 (eOp2 addM (eVar 9) (eC (.int 1))) (eCB lenM (aCons (eVar 5) aNil)))) (gs := []) (t := .n 10) (g := (bVal (eOp2 (eqM false) (eCall 2 F__law_next (aCons (eVar 0) (aCons (eC (.int 2)) aNil))) (eC (.int 1))))) (f := (eTup (aCons (eVar 9) (aCons (eVar 10) aNil)))) (vs := [10]) (s := [some (.loc 0), some (.p (.int nm)), some (.p (.int 2)), some (.p (.int q)), some (.p (sd P)), some (.loc 1), none, none, some (.loc 2), some (.p (.int b)), none]) (m := [strm ns c k, .lst ((S.map sd).map .p), .lst ((E.map prD).map .p)]) (m0 := [strm ns c k, .lst ((S.map sd).map .p), .lst ((E.map prD).map .p)])
    (List.range (S.length - (b + 1))) (fun i : Nat => .p (.int (b1 + i))) (fun pre ds m => ∃ (c : Int) (k : Nat) (F : List Nat), m = [strm ns c k, .lst ((S.map sd).map .p), .lst ((E.map prD).map .p)] ∧ ds = F.map (fun i : Nat => prD ((b : Int), b1 + (i : Int))) ∧ F.Sublist pre)
    (by
      rw [rg2_it (a := b1) (b := (S.length : Nat)) (by simp [hb1]) (by simp [lenM, seqW]) (by omega) (by omega), hn]) (by rw [List.length_range]; exact Nat.le_trans (Nat.sub_le _ _) (by omega)) (fun _ _ _ _ => rfl) (by
      rintro pre v post _ _ hx ⟨c, k, F, rfl, rfl, h1⟩
      obtain ⟨d, c3, k3, e4, _, _⟩ := q_next (ns := ns) (c := c) (k := k) (r := [.lst ((S.map sd).map .p), .lst ((E.map prD).map .p)]) (many := 2) (by omega) (by omega)
      refine ⟨_, rfl, (d == 1), [strm ns c3 k3, .lst ((S.map sd).map .p), .lst ((E.map prD).map .p)], by simp only [r_bval, r_op2, r_call, r_acons, r_anil, r_var, r_c, wipeE, List.set_cons_succ, List.set_cons_zero, List.getElem?_cons_succ, List.getElem?_cons_zero, bind_ok, List.length_cons, List.length_nil, decide_true, if_true, e4, o_eqI, r_boolOf], fun _ => ⟨prD ((b : Int), b1 + (v : Int)), _, by simp [wipeE, sizeLine_eq, mkTup], c3, k3, F ++ [v], rfl, by simp, h1.append (List.Sublist.refl _)⟩, fun _ => ⟨c3, k3, F, rfl, rfl, h1.trans (List.sublist_append_left _ _)⟩⟩) ⟨c, k, [], rfl, rfl, by simp⟩
  have hF : ∀ i ∈ F, i < S.length - (b + 1) := fun i hi => List.mem_range.mp (h1.subset hi)
  have hFl : F.length ≤ 5 := by
    have := h1.length_le
    simp at this
    omega
  refine ⟨E ++ F.map fun i : Nat => ((b : Int), b1 + (i : Int)), c2, k2, ?_, ⟨?_, ?_⟩, by simp; omega⟩
  · unfold L2__law_graph C2__law_graph
    obtain ⟨Z, hZ⟩ : ∃ Z : EX W, eLc lcFin (iRg2 (eOp2 addM (eVar 9) (eC (.int 1))) (eCB lenM (aCons (eVar 5) aNil))) (.n 10) (bVal (eOp2 (eqM false) (eCall 2 F__law_next (aCons (eVar 0) (aCons (eC (.int 2)) aNil))) (eC (.int 1)))) (eTup (aCons (eVar 9) (aCons (eVar 10) aNil))) [10] = Z := ⟨_, rfl⟩
    rw [hZ] at e3 ⊢
    clear hZ
    have h0 : ([strm ns c2 k2, .lst ((S.map sd).map .p), .lst ((E.map prD).map .p)] : Hm)[2]? = some (.lst ((E.map prD).map .p)) := rfl
    have h0' : ([strm ns c k, .lst ((S.map sd).map .p), .lst ((E.map prD).map .p)] : Hm)[2]? = some (.lst ((E.map prD).map .p)) := rfl
    simp only [q_tidy, q_expr, r_lm, r_acons, r_anil, r_var, List.getElem?_cons_succ, List.getElem?_cons_zero, bind_ok, lstAt_loc h0', if_true]
    rw [e3]
    simp only [bind_ok]
    have hz : E.length + F.length ≤ 30 := by omega
    rw [o_extend h0 (by rw [List.length_map, List.length_map, List.length_map]; exact Nat.le_trans hz (by decide))]
    simp only [st_ok, List.set_cons_succ, List.set_cons_zero]
    rw [tidy_len (by rfl)]
    simp [wipeE, Function.comp_def]
  · intro p hp
    rw [List.mem_append] at hp
    rcases hp with hp | hp
    · have := hE.ed p hp
      omega
    · obtain ⟨i, hi, rfl⟩ := List.mem_map.mp hp
      have := hF i hi
      refine ⟨?_, ?_, ?_, ?_⟩ <;> simp <;> omega
  · rw [List.pairwise_append]
    refine ⟨hE.asc, ?_, ?_⟩
    · rw [List.pairwise_map]
      refine (List.pairwise_lt_range.sublist h1).imp fun {a b'} h => ?_
      rw [HT.lexLt_cons, if_pos rfl, HT.lexLt_cons, if_neg (by omega)]
      simp; omega
    · intro x hx y hy
      obtain ⟨i, hi, rfl⟩ := List.mem_map.mp hy
      have := (hE.ed x hx).2.2.2
      rw [HT.lexLt_cons, if_neg (by simp; omega)]
      simpa using this
theorem q_law_graph {ns : List Int} {c : Int} {k nm : Nat} (hn : 1 ≤ nm ∧ nm ≤ 4) : ∃ (q : Nat) (S : List (List Int)) (E : List (Int × Int)) (c' : Int) (k' : Nat), F__law_graph [.loc 0, .p (.int nm), .p (.int 2)] [strm ns c k] = .ok (.p (gD q S E)) [strm ns c' k'] ∧ GrOk q S E ∧ S.length ≤ nm ∧ ∀ s ∈ S, s.length ≤ 2 := by
  obtain ⟨d1, c1, k1, e1, _, _⟩ := q_next (ns := ns) (c := c) (k := k) (r := []) (many := 4) (by omega) (by omega)
  obtain ⟨x, hx, c2, k2, e2⟩ := q_pick (w := .p (.list [sd [0, 1], sd [0, 1, 2], sd [0, 2, 5], sd [0, 1, 3, 4]])) (ds := [sd [0, 1], sd [0, 1, 2], sd [0, 2, 5], sd [0, 1, 3, 4]]) (ns := ns) (c := c1) (k := k1) (r := []) (.inr rfl) (by simp) (by simp)
  obtain ⟨P, rfl, hP⟩ : ∃ P, x = sd P ∧ Pool P := by
    simp only [List.mem_cons, List.not_mem_nil, or_false] at hx
    rcases hx with rfl | rfl | rfl | rfl <;> exact ⟨_, rfl, by decide, by decide, by decide⟩
  obtain ⟨d2, c3, k3, e3, h3, h4⟩ := q_next (ns := ns) (c := c2) (k := k2) (r := [.lst []]) (many := nm) (by omega) (by omega)
  obtain ⟨q, hq, hqq⟩ : ∃ q : Nat, (2 : Int) + (if (d1 == 0) = true then 1 else 0) = q ∧ (q = 2 ∨ q = 3) := by
    by_cases h : (d1 == 0) = true
    · exact ⟨3, by rw [if_pos h]; rfl, .inr rfl⟩
    · exact ⟨2, by rw [if_neg h]; rfl, .inl rfl⟩
  obtain ⟨n, hn1, hn2⟩ : ∃ n : Nat, (1 : Int) + d2 = n ∧ 1 ≤ n ∧ n ≤ nm := ⟨(1 + d2).toNat, by omega, by omega⟩
  obtain ⟨s1, m1, l1, S, c4, k4, rfl, rfl, hSl, hSo⟩ := for_ex (gs := []) (t := .n 6) (body := L1__law_graph) (e := fun i => W.p (.int i)) (xs := rgI n) (s := [some (.loc 0), some (.p (.int nm)), some (.p (.int 2)), some (.p (.int q)), some (.p (sd P)), some (.loc 1), none, none, none, none, none]) (m := [strm ns c3 k3, .lst []])
    (fun pre s m => ∃ (S : List (List Int)) (c : Int) (k : Nat), s = [some (.loc 0), some (.p (.int nm)), some (.p (.int 2)), some (.p (.int q)), some (.p (sd P)), some (.loc 1), none, none, none, none, none] ∧ m = [strm ns c k, .lst ((S.map sd).map .p)] ∧ S.length = pre.length ∧ ∀ s ∈ S, s.Pairwise (· < ·) ∧ s.length ≤ 2 ∧ ∀ v ∈ s, 0 ≤ v ∧ v ≤ 5) (fun _ _ _ _ => rfl) (by
      rintro pre x post _ _ hx ⟨S, c, k, rfl, rfl, hl, ho⟩
      have hlen := congrArg List.length hx
      simp [rgI] at hlen
      obtain ⟨s, c', k', e, h⟩ := scope_turn (ns := ns) (c := c) (k := k) (nm := nm) (q := q) (S := S) (x := .p (.int x)) hP (by omega)
      refine ⟨_, rfl, _, _, e, S ++ [s], c', k', rfl, rfl, by simp [hl], fun y hy => ?_⟩
      rw [List.mem_append, List.mem_singleton] at hy
      rcases hy with hy | rfl
      · exact ho y hy
      · exact h) ⟨[], c3, k3, rfl, rfl, rfl, by simp⟩
  have hSl : S.length = n := by rw [hSl]; simp [rgI]
  obtain ⟨s2, m2, l2, o, E, c5, k5, rfl, rfl, hE, hEl⟩ := for_ex (gs := []) (t := .n 9) (body := L2__law_graph) (e := fun i : Nat => W.p (.int i)) (xs := List.range S.length) (s := [some (.loc 0), some (.p (.int nm)), some (.p (.int 2)), some (.p (.int q)), some (.p (sd P)), some (.loc 1), none, none, some (.loc 2), none, none]) (m := [strm ns c4 k4, .lst ((S.map sd).map .p), .lst []])
    (fun pre s m => ∃ (o : Option W) (E : List (Int × Int)) (c : Int) (k : Nat), s = [some (.loc 0), some (.p (.int nm)), some (.p (.int 2)), some (.p (.int q)), some (.p (sd P)), some (.loc 1), none, none, some (.loc 2), o, none] ∧ m = [strm ns c k, .lst ((S.map sd).map .p), .lst ((E.map prD).map .p)] ∧ Prs S.length pre.length E ∧ E.length ≤ 5 * pre.length) (fun _ _ _ _ => rfl) (by
      rintro pre x post _ _ hx ⟨o, E, c, k, rfl, rfl, hE, hEl⟩
      have hlen := congrArg List.length hx
      simp at hlen
      have hxx : x = pre.length := by
        have h1 := congrArg (fun l => l[pre.length]?) hx
        simp only [List.getElem?_append_right (Nat.le_refl _), Nat.sub_self, List.getElem?_cons_zero] at h1
        rw [List.getElem?_range (by omega)] at h1
        cases h1; rfl
      subst hxx
      obtain ⟨E', c', k', e, h1, h2⟩ := pairs_turn (ns := ns) (c := c) (k := k) (nm := nm) (q := q) (P := P) (S := S) (o := o) (E := E) (b := pre.length) (by omega) (by omega) hE hEl
      exact ⟨_, rfl, _, _, e, _, E', c', k', rfl, rfl, by simpa using h1, by simpa using h2⟩) ⟨none, [], c4, k4, rfl, rfl, ⟨by simp, by simp⟩, by simp⟩
  rw [List.length_range] at hE hEl
  refine ⟨q, S, E, c5, k5, ?_, ⟨hqq, ⟨fun s hs => ⟨(hSo s hs).1, by have := (hSo s hs).2.1; omega, (hSo s hs).2.2⟩, by omega⟩, by omega, fun p hp => ⟨(hE.ed p hp).1, (hE.ed p hp).2.1, (hE.ed p hp).2.2.1⟩, hE.asc, by omega⟩, by omega, fun s hs => (hSo s hs).2.1⟩
  have l2' : (List.range S.length).map (fun i : Nat => W.p (.int i)) = ((rgP 0 (S.length : Nat)).map W.p) := by rw [rgP_eq]; simp [rgI, Function.comp_def]
  have l1' : (rgI n).map (fun i => W.p (.int i)) = ((rgP 0 (n : Nat)).map W.p) := by rw [rgP_eq]; simp
  rw [l2'] at l2
  rw [l1'] at l1
  have b1 : (-1000000 : Int) ≤ (n : Int) := by omega
  have b2 : (n : Int) ≤ 1000000 := by omega
  have b3 : (-1000000 : Int) ≤ (S.length : Int) := by omega
  have b4 : (S.length : Int) ≤ 1000000 := by omega
  have e2' : F__law_pick [.loc 0, .p (.list [.tuple [.int 0, .int 1], .tuple [.int 0, .int 1, .int 2], .tuple [.int 0, .int 2, .int 5], .tuple [.int 0, .int 1, .int 3, .int 4]])] [strm ns c1 k1] = .ok (.p (sd P)) [strm ns c2 k2] := e2
  have e3' : F__law_next [.loc 0, .p (.int nm)] [strm ns c2 k2, .lst []] = .ok (.p (.int d2)) [strm ns c3 k3, .lst []] := e3
  have hq' : (2 : Int) + (if d1 = 0 then 1 else 0) = q := by rw [← hq]; simp
  unfold F__law_graph mkFn m__law_graph
  simp [startE, e1, mkTup, sizeLine_eq, e2', e3', hn1, hq', b1, b2, l1]
  simp only [List.map_map] at l2
  simp [lenM, seqW, b3, b4, l2]
  have t1 : tupleM [.loc 1] [strm ns c5 k5, .lst (S.map (W.p ∘ sd)), .lst (E.map (W.p ∘ prD))] = .ok (.p (.tuple (S.map sd))) [strm ns c5 k5, .lst (S.map (W.p ∘ sd)), .lst (E.map (W.p ∘ prD))] := o_tupC (ds := S.map sd) (by simp)
  have t2 : tupleM [.loc 2] [strm ns c5 k5, .lst (S.map (W.p ∘ sd)), .lst (E.map (W.p ∘ prD))] = .ok (.p (.tuple (E.map prD))) [strm ns c5 k5, .lst (S.map (W.p ∘ sd)), .lst (E.map (W.p ∘ prD))] := o_tupC (ds := E.map prD) (by simp)
  simp [t1, t2]
  exact end_p (e := [.lst (S.map (W.p ∘ sd)), .lst (E.map (W.p ∘ prD))]) (d := gD q S E) (fz := true) (m := [strm ns c5 k5]) (k := 1) rfl rfl
end Mir.K60

namespace Mir.K60
open PySem PySem.Spec PyProof.Rows L2
/-! ### equal to itself -/
inductive Deq : Nat → PyData → Prop
  | non {n : Nat} : Deq n .none
  | bl {n : Nat} (b : Bool) : Deq n (.bool b)
  | int {n : Nat} (i : Int) : Deq n (.int i)
  | tup {n : Nat} {ds : List PyData} : ds.length ≤ 1000 → (∀ d ∈ ds, Deq n d) → Deq (n + 1) (.tuple ds)
  | lst {n : Nat} {ds : List PyData} : ds.length ≤ 1000 → (∀ d ∈ ds, Deq n d) → Deq (n + 1) (.list ds)
theorem eq_bb {a b : Bool} {m : Hm} : eqM false (.p (.bool a)) (.p (.bool b)) m = .ok (.p (.bool (a == b))) m ∧ eqM true (.p (.bool a)) (.p (.bool b)) m = .ok (.p (.bool (!(a == b)))) m := by
  cases a <;> cases b <;> exact ⟨rfl, rfl⟩
theorem atI_rg {ds : List PyData} {z : Int} (hz : z ∈ rgI ds.length) : ∃ d ∈ ds, atI ds z = some d := by
  obtain ⟨i, hi, rfl⟩ := List.mem_map.mp hz
  have hi := List.mem_range.mp hi
  exact ⟨ds[i], List.getElem_mem _, by rw [atI_lit]; exact List.getElem?_eq_getElem hi⟩
theorem q_equal {d : PyData} {n : Nat} {m : Hm} (h : Deq n d) : F__law_equal (n + 1) [.p d, .p d] m = .ok (.p (.bool true)) m := by
  induction h with
  | non => unfold F__law_equal mkFn m__law_equal C1__law_equal; simp [startE, isNone, endFn_p]
  | bl b => unfold F__law_equal mkFn m__law_equal C1__law_equal; simp [startE, isNone, isiM, tyN, isiA, eq_bb, endFn_p]
  | int i => unfold F__law_equal mkFn m__law_equal C1__law_equal; simp [startE, isNone, isiM, tyN, isiA, q_isint (d := .int i) (m := m) rfl, isInt, endFn_p]
  | @tup n ds hl hd ih =>
    unfold F__law_equal mkFn m__law_equal C1__law_equal
    simp [startE, isNone, isiM, tyN, isiA]
    rw [lc_map (rgI ds.length) (fun i => .p (.int i)) (fun _ => .bool true) (gs := []) (by
      have := rg_it (n := ds.length) (m := m) (by omega)
      simp at this ⊢
      exact this) rfl (by simp [rgI]; omega) fun z hz => ⟨_, rfl, by
        obtain ⟨d, hd, e⟩ := atI_rg hz
        simp [wipeE, e, ih d hd]⟩]
    simp [all_true, endFn_p]
  | @lst n ds hl hd ih =>
    unfold F__law_equal mkFn m__law_equal C1__law_equal
    simp [startE, isNone, isiM, tyN, isiA]
    rw [lc_map (rgI ds.length) (fun i => .p (.int i)) (fun _ => .bool true) (gs := []) (by
      have := rg_it (n := ds.length) (m := m) (by omega)
      simp at this ⊢
      exact this) rfl (by simp [rgI]; omega) fun z hz => ⟨_, rfl, by
        obtain ⟨d, hd, e⟩ := atI_rg hz
        simp [wipeE, e, ih d hd]⟩]
    simp [all_true, endFn_p]
theorem Deq.sd {n : Nat} {s : List Int} (h : s.length ≤ 1000) : Deq (n + 1) (sd s) := .tup (by simpa using h) fun d hd => by
  obtain ⟨i, _, rfl⟩ := List.mem_map.mp hd
  exact .int i
/-! ### the law -/
theorem q_every {q : Nat} {S : List (List Int)} {E : List (Int × Int)} {m : Hm} (h : S.length ≤ 5) : F__law_every [.p (gD q S E)] m = .ok (.p (.list ((rgI S.length).map .int))) m := by
  unfold F__law_every mkFn m__law_every
  simp [startE]
  rw [rg_l (by omega)]
  simp [endFn_p]
theorem find_filter {α : Type} (p : α → Bool) : ∀ xs : List α, xs.find? p = (xs.filter p)[0]?
  | [] => rfl
  | x :: xs => by
    cases h : p x with
    | true => simp [h]
    | false => simp [h, find_filter p xs]
end Mir.K60

namespace Mir.K60
open PySem PySem.Spec PyProof.Rows L2
/-! ### what is known -/
def kd (kn : List (Int × Int)) : List (Key × W) := kn.map fun p => (Sum.inl p.1, W.p (.int p.2))
def look (kn : List (Int × Int)) (v : Int) : Option Int := (kn.find? fun p => decide (p.1 = v)).map (·.2)
theorem getW_kd (v : Int) : ∀ kn : List (Int × Int), getW (kd kn) (.inl v) = (look kn v).map fun i => W.p (.int i)
  | [] => rfl
  | p :: kn => by
    have ih := getW_kd v kn
    unfold getW look kd at ih ⊢
    simp only [List.map_cons, List.find?_cons]
    have e : decide ((Sum.inl p.1 : Key) = Sum.inl v) = decide (p.1 = v) := decide_eq_decide.mpr ⟨fun h => Sum.inl.inj h, fun h => by rw [h]⟩
    rw [e]
    cases decide (p.1 = v) with
    | true => rfl
    | false => exact ih
abbrev Fn := Int → Option Int
structure KN (n : Nat) (m : Hm) (a : Nat) (f : Fn) : Prop where
  ex : ∃ kn, m[a]? = some (.dct (kd kn)) ∧ (kn.map (·.1)).Nodup ∧ kn.length ≤ n ∧ ∀ v, look kn v = f v
def upd1 (f : Fn) (v x : Int) : Fn := fun y => if y = v then some x else f y
def only (v x : Int) : Fn := fun y => if y = v then some x else none
theorem KN.app {n : Nat} {m e : Hm} {a : Nat} {f : Fn} (h : KN n m a f) : KN n (m ++ e) a f := by
  obtain ⟨kn, h1, h2⟩ := h.ex
  refine ⟨kn, ?_, h2⟩
  rw [List.getElem?_append_left (List.getElem?_eq_some_iff.mp h1).1]
  exact h1
theorem KN.lt {n : Nat} {m : Hm} {a : Nat} {f : Fn} (h : KN n m a f) : a < m.length := by
  obtain ⟨kn, h1, h2⟩ := h.ex
  exact (List.getElem?_eq_some_iff.mp h1).1
theorem ok_kd {m : Hm} {kn : List (Int × Int)} (hw : okM m.length m = true) : okM (m ++ [Cell.dct (kd kn)]).length (m ++ [Cell.dct (kd kn)]) = true := by
  refine okM_ext hw ?_
  have := okWs_data (k := m.length + 1) (kn.map fun p => PyData.int p.2)
  simpa [okC, kd, Function.comp_def] using this
theorem o_dget {n : Nat} {m : Hm} {a : Nat} {f : Fn} (h : KN n m a f) (v x : Int) {s : Ev} {e1 e2 e3 : EX W} (h1 : e1 s m = .ok (.loc a) m) (h2 : e2 s m = .ok (.p (.int v)) m) (h3 : e3 s m = .ok (.p (.int x)) m) : eDGet2 e1 e2 e3 s m = .ok (.p (.int ((f v).getD x))) m := by
  obtain ⟨kn, k1, k2, k3, k4⟩ := h.ex
  unfold eDGet2
  simp only [h1, h2, h3, bind_ok, dctAt, k1, Option.isSome_some, if_true, keyW, keyP, getW_kd, k4]
  cases f v <;> rfl
theorem o_din {n : Nat} {m : Hm} {a : Nat} {f : Fn} (h : KN n m a f) (v : Int) {s : Ev} {e1 e2 : EX W} {b : Bool} (h1 : e1 s m = .ok (.p (.int v)) m) (h2 : e2 s m = .ok (.loc a) m) : eDIn b e1 e2 s m = .ok (.p (.bool (if b = true then !(f v).isSome else (f v).isSome))) m := by
  obtain ⟨kn, k1, k2, k3, k4⟩ := h.ex
  unfold eDIn
  simp only [h1, h2, bind_ok, dctAt, k1, keyW, keyP, getW_kd, k4]
  cases f v <;> rfl
/-- a node rejects what is known -/
def hit (f : Fn) (so r : List Int) : Bool := (so.zip r).all fun p => (f p.1).getD p.2 == p.2
def rej (S : List (List Int)) (T : List (List Row)) (n : Int) (f : Fn) : Bool := !(nthT T n).any fun p => hit f (nth S n) p.1
structure TL' (S : List (List Int)) (T : List (List Row)) : Prop where
  ts : Ts S T
  len : ∀ n : Int, ∀ p ∈ nthT T n, p.1.length = (nth S n).length
theorem TsOk.tl {q : Nat} {S : List (List Int)} {T : List (List Row)} (h : TsOk q S T) : TL' S T := ⟨h.ts, fun n p hp => by
  have hl := h.len
  unfold nthT at hp
  by_cases hn : n.toNat < T.length
  · have := h.tb (S[n.toNat]'(by omega), T[n.toNat]) (List.mem_iff_getElem.mpr ⟨n.toNat, by simp; omega, by simp⟩)
    rw [List.getElem?_eq_getElem hn] at hp
    unfold nth
    rw [List.getElem?_eq_getElem (by omega)]
    exact (this.row p hp).1.len
  · rw [List.getElem?_eq_none (Nat.le_of_not_lt hn)] at hp
    cases hp⟩
section
variable {q : Nat} {S : List (List Int)} {E : List (Int × Int)} {T : List (List Row)} {m : Hm} {n : Int} {a j : Nat} {f : Fn}
theorem q_rejects (hS : Sc S) (hT : TL' S T) (hn : 0 ≤ n ∧ n < S.length) (hk : KN j m a f) (hw : okM m.length m = true) : F_rejects [.p (gD q S E), .p (tsD T), .p (.int n), .loc a] m = .ok (.p (.bool (rej S T n f))) m := by
  have hn' : 0 ≤ n ∧ n < T.length := by rw [hT.ts.len]; exact hn
  have e2 := atI_nth hn
  have e3 := atI_nthT hn'
  have hs := (hS.nth n).2.1
  have key := for_find (gs := []) (t := .t [.n 5, .n 6]) (body := L1_rejects) (e := fun p : Row => W.p (rowD p)) (s := [some (.p (gD q S E)), some (.p (tsD T)), some (.p (.int n)), some (.loc a), some (.p (sd (nth S n))), none, none, none, none]) (m := m)
    (fun p => hit f (nth S n) p.1) (fun _ => .p (.bool false)) rfl (nthT T n) (fun p hp => by
      refine ⟨_, by simp [Tg.put, Tg.puts, seqT]; rfl, ?_⟩
      unfold L1_rejects C1_rejects
      simp only [q_tidy, q_if, r_btru, r_cb, r_acons, r_anil]
      rw [lc_map ((nth S n).zip p.1) (fun z => .p (.tuple [.int z.1, .int z.2])) (fun z => .bool ((f z.1).getD z.2 == z.2)) (gs := []) (by
        have := zipped_ints (nth S n) p.1
        simp only [List.map_map] at this
        simp [iZp, zipR, this, isL]) rfl (by rw [List.length_zip]; omega) fun z hz => ⟨_, by simp [Tg.put, Tg.puts, seqT]; rfl, by
          simp only [wipeE, r_op2]
          rw [o_dget hk z.1 z.2 (by simp) (by simp) (by simp)]
          simp⟩]
      have e5 := o_all (m := m) (((nth S n).zip p.1).map fun z => (f z.1).getD z.2 == z.2)
      rw [List.map_map] at e5
      simp only [Function.comp_def] at e5
      have e7 : (((nth S n).zip p.1).map fun z => (f z.1).getD z.2 == z.2).all id = hit f (nth S n) p.1 := by simp [hit, List.all_map, Function.comp_def]
      simp only [bind_ok, e5, e7, r_tru, st_ok]
      cases hit f (nth S n) p.1 with
      | true => simp
      | false =>
        simp only [Bool.false_eq_true, if_false, q_skip]
        have : okE m.length (wipeE [some (W.p (gD q S E)), some (.p (tsD T)), some (.p (.int n)), some (.loc a), some (.p (sd (nth S n))), some (.p (sd p.1)), some (.p (.int p.2)), none, none] [5, 6, 7, 8]) = true := by
          have := hk.lt
          simp [okE, okW, wipeE, this]
        rw [tidy_len (by rfl)]
        simp [wipeE])
  unfold F_rejects mkFn m_rejects
  simp only [startE, List.length_cons, List.length_nil, List.map_cons, List.map_nil, decide_true, if_true, q_seq, q_set, r_op2, r_c, r_var, bind_ok, o_ixT, atI_1, e2, st_ok, List.cons_append, List.nil_append, List.replicate, List.set_cons_succ, List.set_cons_zero, List.getElem?_cons_succ, List.getElem?_cons_zero]
  simp only [q_for, r_iseq, r_var, r_op2, List.getElem?_cons_succ, List.getElem?_cons_zero, bind_ok, o_ixT, e3, src_tb, st_ok]
  change retE true m.length (match forGo [] (.t [.n 5, .n 6]) L1_rejects ((nthT T n).map fun p => W.p (rowD p)) [some (.p (gD q S E)), some (.p (tsD T)), some (.p (.int n)), some (.loc a), some (.p (sd (nth S n))), none, none, none, none] m with | some (.nx s1, m1) => _ | r => r) = _
  rw [key]
  have e8 : rej S T n f = !((nthT T n).find? fun p => hit f (nth S n) p.1).isSome := by
    unfold rej
    congr 1
    rw [Bool.eq_iff_iff, List.find?_isSome, List.any_eq_true]
  rw [e8]
  have fin : ∀ b : Bool, endFn true m.length (.p (.bool b)) m = .ok (.p (.bool b)) m := fun b => endFn_p
  cases (nthT T n).find? fun p => hit f (nth S n) p.1 with
  | none => simp [fin]
  | some n => simp [fin]
end
end Mir.K60

namespace Mir.K60
open PySem PySem.Spec PyProof.Rows L2
theorem zip_vals {l r : List Int} (hl : l.length = r.length) (g : Int × Int → Bool) : (rgI l.length).all (fun k => g (at0 l k, at0 r k)) = (l.zip r).all g := by
  rw [zip_rg hl, List.all_map]
  rfl
theorem kd_nodup {kn : List (Int × Int)} (h : (kn.map (·.1)).Nodup) : ((kd kn).map (·.1)).Nodup := by
  have : (kd kn).map (·.1) = (kn.map (·.1)).map (Sum.inl : Int → Key) := by simp [kd, Function.comp_def]
  rw [this]
  exact List.Pairwise.map _ (fun a b hab e => hab (Sum.inl.inj e)) h
theorem look_none {kn : List (Int × Int)} {v : Int} : look kn v = none ↔ v ∉ kn.map (·.1) := by
  unfold look
  rw [Option.map_eq_none_iff, List.find?_eq_none]
  constructor
  · intro h hm
    obtain ⟨p, hp, rfl⟩ := List.mem_map.mp hm
    exact h p hp (by simp)
  · intro h p hp he
    exact h (List.mem_map.mpr ⟨p, hp, of_decide_eq_true he⟩)
theorem put_kd {kn : List (Int × Int)} {v x : Int} (h : v ∉ kn.map (·.1)) : putW (kd kn) (.inl v) (.p (.int x)) = kd (kn ++ [(v, x)]) := by
  unfold putW
  have : ((kd kn).any fun kv => decide (kv.1 = (.inl v : Key))) = false := by
    rw [List.any_eq_false]
    intro y hy
    obtain ⟨p, hp, rfl⟩ := List.mem_map.mp hy
    simp
    rintro rfl
    exact h (List.mem_map.mpr ⟨p, hp, rfl⟩)
  rw [this]
  simp [kd]
theorem look_app {kn : List (Int × Int)} {v x : Int} (h : v ∉ kn.map (·.1)) (y : Int) : look (kn ++ [(v, x)]) y = if y = v then some x else look kn y := by
  by_cases hy : y = v
  · subst hy
    have := look_none.mpr h
    unfold look at this ⊢
    rw [List.find?_append, Option.map_eq_none_iff.mp this]
    simp
  · unfold look
    rw [List.find?_append]
    have : (List.find? (fun p => decide (p.1 = y)) [(v, x)]) = none := by simp; exact fun h => hy h.symm
    rw [this, if_neg hy]
    simp
theorem look_cons {kn : List (Int × Int)} {v x : Int} (y : Int) : look ((v, x) :: kn) y = if y = v then some x else look kn y := by
  unfold look
  rw [List.find?_cons]
  by_cases hy : y = v
  · subst hy; simp
  · have : decide (v = y) = false := by simp; exact fun h => hy h.symm
    simp [this, hy]
theorem merge_kd : ∀ {kk kf : List (Int × Int)}, (kf.map (·.1) ++ kk.map (·.1)).Nodup → mergeW (kd kf) (kd kk) = kd (kf ++ kk)
  | [], kf, _ => by simp [mergeW, kd]
  | p :: kk, kf, h => by
    have h1 : p.1 ∉ kf.map (·.1) := fun hm => by
      rw [List.nodup_append] at h
      exact h.2.2 _ hm _ (by simp) rfl
    have e : mergeW (kd kf) (kd (p :: kk)) = mergeW (putW (kd kf) (.inl p.1) (.p (.int p.2))) (kd kk) := rfl
    rw [e, put_kd h1, merge_kd (by simpa using h)]
    simp
section
variable {q : Nat} {S : List (List Int)} {E : List (Int × Int)} {T : List (List Row)} {m : Hm} {n v x : Int} {a j : Nat} {f : Fn}
theorem q_law_rejects (hS : Sc S) (hT : TL' S T) (hn : 0 ≤ n ∧ n < S.length) (hk : KN j m a f) (hw : okM m.length m = true) : F__law_rejects [.p (gD q S E), .p (tsD T), .p (.int n), .loc a] m = .ok (.p (.bool (rej S T n f))) m := by
  have hn' : 0 ≤ n ∧ n < T.length := by rw [hT.ts.len]; exact hn
  have e2 := atI_nth hn
  have e3 := atI_nthT hn'
  have hs := (hS.nth n).2.1
  have h6 := hT.ts.nth n
  unfold F__law_rejects mkFn m__law_rejects
  simp only [startE, List.length_cons, List.length_nil, List.map_cons, List.map_nil, decide_true, if_true, q_seq, q_set, r_op2, r_c, r_var, bind_ok, o_ixT, atI_1, e2, st_ok, List.cons_append, List.nil_append, List.replicate, List.set_cons_succ, List.set_cons_zero, List.getElem?_cons_succ, List.getElem?_cons_zero, q_ret, r_not, r_cb, r_acons, r_anil]
  unfold C2__law_rejects
  rw [lc_map (nthT T n) (fun p => .p (rowD p)) (fun p => .bool (hit f (nth S n) p.1)) (gs := []) (by
    simp only [r_iseq, r_op2, r_var, r_c, List.getElem?_cons_succ, List.getElem?_cons_zero, bind_ok, o_ixT, e3, src_tb]) rfl (by omega) fun p hp => ⟨_, by simp [Tg.put, Tg.puts, seqT]; rfl, by
      have hl := hT.len n p hp
      simp only [r_cb, r_acons, r_anil]
      unfold C1__law_rejects
      rw [lc_map (rgI (nth S n).length) (fun z => .p (.int z)) (fun z => .bool ((f (at0 (nth S n) z)).getD (at0 p.1 z) == at0 p.1 z)) (gs := []) (by
        have := rg_it (n := (nth S n).length) (m := m) (by omega)
        simp [wipeE] at this ⊢
        exact this) rfl (by simp [rgI]; omega) fun z hz => ⟨_, rfl, by
          have e4 := at0_ok (l := nth S n) hz
          have e5 := at0_ok (l := p.1) (by rw [hl]; exact hz)
          simp only [wipeE, r_op2]
          rw [o_dget hk (at0 (nth S n) z) (at0 p.1 z) (by simp) (by simp [e4]) (by simp [e5])]
          simp [e5]⟩]
      have e5 := o_all (m := m) ((rgI (nth S n).length).map fun z => (f (at0 (nth S n) z)).getD (at0 p.1 z) == at0 p.1 z)
      rw [List.map_map] at e5
      simp only [Function.comp_def] at e5
      have e7 : ((rgI (nth S n).length).map fun z => (f (at0 (nth S n) z)).getD (at0 p.1 z) == at0 p.1 z).all id = hit f (nth S n) p.1 := by
        rw [hit, ← zip_vals hl.symm (fun z => (f z.1).getD z.2 == z.2), List.all_map]
        rfl
      rw [e7] at e5
      simp only [bind_ok, e5]⟩]
  have e5 := o_any (m := m) ((nthT T n).map fun p => hit f (nth S n) p.1)
  rw [List.map_map, any_id] at e5
  simp only [Function.comp_def] at e5
  simp only [bind_ok, e5, st_ok]
  exact endFn_p
theorem q_with_value (hk : KN j m a f) (hj : j ≤ 100) (hv : f v = none) (hw : okM m.length m = true) : ∃ kn, F_with_value [.loc a, .p (.int v), .p (.int x)] m = .ok (.loc m.length) (m ++ [.dct (kd kn)]) ∧ KN (j + 1) (m ++ [.dct (kd kn)]) m.length (upd1 f v x) := by
  obtain ⟨kn, k1, k2, k3, k4⟩ := hk.ex
  have hv' : v ∉ kn.map (·.1) := look_none.mp (by rw [k4, hv])
  refine ⟨kn ++ [(v, x)], ?_, ⟨kn ++ [(v, x)], by simp, ?_, by simp; omega, fun y => by rw [look_app hv', upd1, k4]⟩⟩
  · unfold F_with_value mkFn m_with_value
    have e1 : eDCopy 0 4 [some (.loc a), some (.p (.int v)), some (.p (.int x)), none, none] m = .ok (.loc m.length) (m ++ [.dct (kd kn)]) := by
      unfold eDCopy
      have : nodupB ((kd kn).map (·.1)) = true := decide_eq_true (kd_nodup k2)
      simp [dctAt, k1, this]
    simp only [startE, List.length_cons, List.length_nil, List.map_cons, List.map_nil, decide_true, if_true, q_seq, q_set, r_var, bind_ok, e1, st_ok, List.cons_append, List.nil_append, List.replicate, List.set_cons_succ, List.set_cons_zero, List.getElem?_cons_succ, List.getElem?_cons_zero, sSetKy]
    have e2 : setKy (.loc m.length) (.p (.int v)) (.p (.int x)) (m ++ [.dct (kd kn)]) = some (m ++ [.dct (kd (kn ++ [(v, x)]))]) := by
      unfold setKy
      have : (kd kn).length < sizeLine := by rw [sizeLine_eq]; simp [kd]; omega
      simp [keyW, keyP, put_kd hv', this]
    simp only [e2, q_ret, r_var, List.getElem?_cons_succ, List.getElem?_cons_zero, st_ok, retE]
    unfold endFn
    have : okM m.length (m ++ [Cell.dct (kd (kn ++ [(v, x)]))]) = true := by rw [okM_app rfl]; exact hw
    simp [this, okW]
  · rw [List.map_append, List.nodup_append]
    exact ⟨k2, by simp, fun y hy z hz => by simp at hz; subst hz; rintro rfl; exact hv' hy⟩
theorem o_disp {s : Ev} {e1 e2 : EX W} (h1 : e1 s (m ++ [.dct []]) = .ok (.p (.int v)) (m ++ [.dct []])) (h2 : e2 s (m ++ [.dct []]) = .ok (.p (.int x)) (m ++ [.dct []])) : eDisp [(e1, e2)] s m = .ok (.loc m.length) (m ++ [.dct (kd [(v, x)])]) := by
  unfold eDisp
  simp [dpGo, h1, h2, keyW, keyP, mergeW, putW, kd]
theorem kn_only : KN 1 (m ++ [.dct (kd [(v, x)])]) m.length (only v x) := ⟨[(v, x)], by simp, by simp, by simp, fun y => by
  rw [look_cons, only]
  rfl⟩
theorem q_law_with (hk : KN j m a f) (hj : j ≤ 100) (hv : f v = none) (hw : okM m.length m = true) : ∃ kn, F__law_with [.loc a, .p (.int v), .p (.int x)] m = .ok (.loc m.length) (m ++ [.dct (kd kn)]) ∧ KN (j + 1) (m ++ [.dct (kd kn)]) m.length (upd1 f v x) := by
  obtain ⟨kn, k1, k2, k3, k4⟩ := hk.ex
  have hv' : v ∉ kn.map (·.1) := look_none.mp (by rw [k4, hv])
  have nd : (([(v, x)] : List (Int × Int)).map (·.1) ++ kn.map (·.1)).Nodup := List.nodup_cons.mpr ⟨hv', k2⟩
  have hlt := hk.lt
  refine ⟨[(v, x)] ++ kn, ?_, ⟨[(v, x)] ++ kn, by simp, ?_, by simp; omega, fun y => by rw [List.singleton_append, look_cons, upd1, k4]⟩⟩
  · unfold F__law_with mkFn m__law_with
    have e1 : eDisp [(eVar 1, eVar 2)] [some (.loc a), some (.p (.int v)), some (.p (.int x)), none, none] m = .ok (.loc m.length) (m ++ [.dct (kd [(v, x)])]) := o_disp (by simp) (by simp)
    simp only [startE, List.length_cons, List.length_nil, List.map_cons, List.map_nil, decide_true, if_true, q_seq, q_set, r_var, bind_ok, e1, st_ok, List.cons_append, List.nil_append, List.replicate, List.set_cons_succ, List.set_cons_zero, List.getElem?_cons_succ, List.getElem?_cons_zero]
    have e2 : sDInto 3 0 4 [some (.loc a), some (.p (.int v)), some (.p (.int x)), some (.loc m.length), none] (m ++ [.dct (kd [(v, x)])]) = some (.nx [some (.loc a), some (.p (.int v)), some (.p (.int x)), some (.loc m.length), none], m ++ [.dct (kd ([(v, x)] ++ kn))]) := by
      unfold sDInto
      have h1 : nodupB ((kd kn).map (·.1)) = true := decide_eq_true (kd_nodup k2)
      have h2 : (kd [(v, x)]).length + (kd kn).length < sizeLine := by rw [sizeLine_eq]; simp [kd]; omega
      have h3 : (m ++ [Cell.dct (kd [(v, x)])])[a]? = some (.dct (kd kn)) := by rw [List.getElem?_append_left hlt]; exact k1
      have h4 : m.length ≠ a := by omega
      simp only [List.getElem?_cons_succ, List.getElem?_cons_zero, h3, List.getElem?_concat_length, h1, decide_eq_true h2, decide_eq_true h4, merge_kd nd, set_last]
      rfl
    simp only [e2, q_ret, r_var, List.getElem?_cons_succ, List.getElem?_cons_zero, st_ok, retE]
    unfold endFn
    have : okM m.length (m ++ [Cell.dct (kd ([(v, x)] ++ kn))]) = true := by rw [okM_app rfl]; exact hw
    simp only [this, if_true]
    simp [okW]
  · simpa using nd
end
end Mir.K60

namespace Mir.K60
open PySem PySem.Spec PyProof.Rows L2
/-! ### plain: what rejects, what a tree shows -/
abbrev vs (S : List (List Int)) : List Int := vars S (rgI S.length)
def left (S : List (List Int)) (f : Fn) : List Int := (vs S).filter fun v => (f v).isNone
def ag (S : List (List Int)) (f : Fn) (r : List Int) : Prop := ∀ v ∈ vs S, ∀ x, f v = some x → vl (vs S) r v = x
def NoSol (q : Nat) (S : List (List Int)) (T : List (List Row)) (f : Fn) : Prop := ∀ p ∈ sols q S T (rgI S.length), ¬ ag S f p.1
def Rng (q : Nat) (f : Fn) : Prop := ∀ v x, f v = some x → 0 ≤ x ∧ x < q
section
variable {q : Nat} {S : List (List Int)} {T : List (List Row)} {f : Fn}
theorem sol_mem {p : Row} (h : p ∈ sols q S T (rgI S.length)) : p.1 ∈ rows q (vs S).length ∧ ∀ n ∈ rgI S.length, has S T (rgI S.length) p.1 n = true := ⟨(sols_row h).1, List.all_eq_true.mp (sols_row h).2⟩
theorem mem_vs {n x : Int} (hn : n ∈ rgI S.length) (hx : x ∈ nth S n) : x ∈ vs S := mem_vars.mpr ⟨n, hn, hx⟩
/-- what a node rejects, no solution has -/
theorem rej_sol (hS : Sc S) {n : Int} (hn : n ∈ rgI S.length) (h : rej S T n f = true) : NoSol q S T f := by
  intro p hp ha
  obtain ⟨hr, hh⟩ := sol_mem hp
  have h1 := hh n hn
  unfold has at h1
  obtain ⟨t, ht, e⟩ := List.any_eq_true.mp h1
  have e := of_decide_eq_true e
  have e2 := part_vl (q := q) (N := rgI S.length) hS hr hn
  unfold rej at h
  rw [Bool.not_eq_true'] at h
  have h3 := List.any_eq_false.mp h t ht
  apply h3
  unfold hit
  rw [e, e2, List.all_eq_true]
  intro z hz
  have hz' : z ∈ (nth S n).map fun x => (x, vl (vars S (rgI S.length)) p.1 x) := by
    have : ∀ l : List Int, l.zip (l.map (vl (vars S (rgI S.length)) p.1)) = l.map fun x => (x, vl (vars S (rgI S.length)) p.1 x) := fun l => by
      induction l with
      | nil => rfl
      | cons a l ih => simp [ih]
    rw [this] at hz
    exact hz
  obtain ⟨x, hx, rfl⟩ := List.mem_map.mp hz'
  cases q1 : f x with
  | none => simp
  | some y =>
    have := ha x (mem_vs hn hx) y q1
    simp [this]
/-- where all is known and no node rejects, a solution stands -/
theorem full_sol (hS : Sc S) (hT : TL' S T) (hR : Rng q f) (hl : left S f = []) (h : ∀ n ∈ rgI S.length, rej S T n f = false) : ¬ NoSol q S T f := by
  have tot : ∀ v ∈ vs S, ∃ x, f v = some x := fun v hv => by
    have := List.filter_eq_nil_iff.mp hl v hv
    cases e : f v with
    | none => rw [e] at this; exact absurd rfl this
    | some x => exact ⟨x, rfl⟩
  intro hns
  have hr : (vs S).map (fun v => (f v).getD 0) ∈ rows q (vs S).length := mem_rows.mpr ⟨by simp, fun y hy => by
    obtain ⟨v, hv, rfl⟩ := List.mem_map.mp hy
    obtain ⟨x, hx⟩ := tot v hv
    rw [hx]
    exact hR v x hx⟩
  refine hns (_, pr S T (rgI S.length) ((vs S).map (fun v => (f v).getD 0))) (List.mem_map.mpr ⟨_, List.mem_filter.mpr ⟨hr, List.all_eq_true.mpr fun n hn => ?_⟩, rfl⟩) fun v hv x hx => by
    show vl (vs S) ((vs S).map fun v => (f v).getD 0) v = x
    rw [vl_map hv, hx]
    rfl
  have h1 := h n hn
  unfold rej at h1
  rw [Bool.not_eq_false'] at h1
  obtain ⟨p, hp, hh⟩ := List.any_eq_true.mp h1
  unfold has
  refine List.any_eq_true.mpr ⟨p, hp, decide_eq_true ?_⟩
  rw [part_vl (q := q) (N := rgI S.length) hS hr hn]
  have hlen := hT.len n p hp
  refine List.ext_getElem (by simp [hlen]) fun i hi1 hi2 => ?_
  have hi : i < (nth S n).length := by omega
  have hz : ((nth S n)[i], p.1[i]) ∈ (nth S n).zip p.1 := List.mem_iff_getElem.mpr ⟨i, by simp; omega, by simp⟩
  have h2 := List.all_eq_true.mp hh _ hz
  have hv := mem_vs hn (List.getElem_mem hi)
  obtain ⟨x, hx⟩ := tot _ hv
  rw [List.getElem_map, vl_map hv, hx]
  simp [hx] at h2
  simp [h2]
theorem left_upd {v x : Int} (hv : v ∈ left S f) : (left S (upd1 f v x)).length < (left S f).length := by
  have e : left S (upd1 f v x) = (left S f).filter fun y => decide (y ≠ v) := by
    unfold left upd1
    rw [List.filter_filter]
    congr 1
    funext y
    by_cases h : y = v <;> simp [h]
  rw [e]
  exact List.length_filter_lt_length_iff_exists.mpr ⟨v, hv, by simp⟩
theorem ns_upd {v x : Int} (hv : f v = none) (h : NoSol q S T f) : NoSol q S T (upd1 f v x) := fun p hp ha => h p hp fun y hy z hz => ha y hy z (by
  unfold upd1
  rw [if_neg]
  · exact hz
  · rintro rfl
    rw [hv] at hz
    cases hz)
theorem rng_upd {v x : Int} (h : Rng q f) (hx : 0 ≤ x ∧ x < q) : Rng q (upd1 f v x) := fun y z hz => by
  unfold upd1 at hz
  split at hz
  · cases hz; exact hx
  · exact h y z hz
def treeF (q : Nat) (S : List (List Int)) (T : List (List Row)) : Nat → Fn → PyData
  | 0, _ => .none
  | n + 1, f => match (rgI S.length).find? fun k => rej S T k f with
    | some k => .tuple [.str "no", .int k]
    | none => match left S f with
      | [] => .none
      | v :: _ => .tuple [.str "by", .int v, .tuple ((rgI q).map fun x => treeF q S T n (upd1 f v x))]
end
section
variable {q : Nat} {S : List (List Int)} {E : List (Int × Int)} {T : List (List Row)} {m : Hm} {n v x : Int} {a j : Nat} {f : Fn}
theorem q_tree_for (hq : q ≤ 3) (hS : Sc S) (hT : TL' S T) : ∀ (n : Nat) {j a : Nat} {m : Hm} {f : Fn}, KN j m a f → j + n ≤ 50 → okM m.length m = true → (left S f).length < n → NoSol q S T f → Rng q f → F_tree_for n [.p (gD q S E), .p (tsD T), .loc a] m = .ok (.p (treeF q S T n f)) m
  | 0, _, _, _, _, _, _, _, hl, _, _ => by omega
  | n + 1, j, a, m, f, hk, hj, hw, hl, hns, hr => by
    have hla := hS.len
    have s3 : (0 + 1 + 1 + 1 ≤ sizeLine) = True := by simp [sizeLine_eq]
    have s2 : (2 ≤ sizeLine) = True := by simp [sizeLine_eq]
    have key := for_find (gs := []) (t := .n 3) (body := L1_tree_for (F_tree_for n)) (e := fun i : Int => W.p (.int i)) (s := [some (.p (gD q S E)), some (.p (tsD T)), some (.loc a), none, none, none, none, none]) (m := m)
      (fun k => rej S T k f) (fun k => .p (.tuple [.str "no", .int k])) rfl (rgI S.length) (fun k hk' => by
        refine ⟨_, rfl, ?_⟩
        have hk2 := mem_rgI.mp hk'
        have e1 := q_rejects (q := q) (E := E) hS hT hk2 hk hw
        unfold L1_tree_for
        simp only [q_tidy, q_if, r_btru, r_call, r_acons, r_anil, r_var, List.set_cons_succ, List.set_cons_zero, List.getElem?_cons_succ, List.getElem?_cons_zero, bind_ok, List.length_cons, List.length_nil, decide_true, if_true, e1, st_ok, r_tru]
        cases rej S T k f with
        | true => simp [mkTup, s2]
        | false =>
          simp only [Bool.false_eq_true, if_false, q_skip]
          have : okE m.length [some (W.p (gD q S E)), some (.p (tsD T)), some (.loc a), none, none, none, none, none] = true := by
            have := hk.lt
            simp [okE, okW, this]
          rw [tidy_len (by rfl)]
          simp [wipeE])
    have rg := rg_it (n := S.length) (m := m) (by omega)
    show mkFn true 3 8 (m_tree_for (F_tree_for n)) _ m = _
    unfold mkFn m_tree_for
    simp only [startE, List.length_cons, List.length_nil, List.map_cons, List.map_nil, decide_true, if_true, q_seq, List.cons_append, List.nil_append, List.replicate]
    simp only [q_for, r_irg1, r_cb, r_acons, r_anil, r_op2, r_var, r_c, List.getElem?_cons_succ, List.getElem?_cons_zero, bind_ok, o_ixT, atI_1, o_lenT, List.length_map, rg, st_ok]
    rw [key]
    unfold treeF
    cases hf : (rgI S.length).find? fun k => rej S T k f with
    | some k => simp only [retE]; exact endFn_p
    | none =>
      have hno : ∀ k ∈ rgI S.length, rej S T k f = false := fun k hk => by
        have := List.find?_eq_none.mp hf k hk
        simpa using this
      have e2 := q_variables_of (q := q) (E := E) hw hS
      have vl6 : (vs S).length ≤ 6 := vars_len hS (rgI S.length)
      have c1 : C1_tree_for (F_tree_for n) [some (.p (gD q S E)), some (.p (tsD T)), some (.loc a), none, none, none, none, none] m = .ok (.p (.list ((left S f).map .int))) m := by
        unfold C1_tree_for
        rw [lc_data (vs S) (fun v => .p (.int v)) (fun v => (f v).isNone) .int (gs := []) (by simp [e2, unK_kt, Function.comp_def]) rfl (by omega) fun v hv => ⟨_, rfl, by
          simp only [r_bval]
          rw [o_din hk v (by simp [wipeE]) (by simp [wipeE])]
          cases f v <;> rfl, fun _ => by simp [wipeE]⟩]
        rfl
      cases hlf : left S f with
      | nil => exact absurd hns (full_sol hS hT hr hlf hno)
      | cons v rest =>
        have hv : v ∈ left S f := by rw [hlf]; exact List.mem_cons_self
        have hfv : f v = none := by
          have := (List.mem_filter.mp hv).2
          simpa using this
        have lu := fun x => left_upd (x := x) hv
        have key2 := for_fold (gs := []) (t := .n 6) (body := L2_tree_for (F_tree_for n)) (e := fun i : Int => W.p (.int i)) (s := [some (.p (gD q S E)), some (.p (tsD T)), some (.loc a), none, some (.p (.int v)), some (.loc m.length), none, none]) (m := m ++ [.lst []])
          (fun ds x => ds ++ [treeF q S T n (upd1 f v x)]) (fun _ => [some (.p (gD q S E)), some (.p (tsD T)), some (.loc a), none, some (.p (.int v)), some (.loc m.length), none, none]) (fun ds => m ++ [.lst (ds.map .p)]) (fun pre ds => ds.length = pre.length) (rgI q) [] rfl rfl (fun _ _ _ => rfl) (fun pre x post ds hx hds => by
            refine ⟨_, rfl, ?_, by simp [hds]⟩
            have hxm : x ∈ rgI q := by rw [hx]; simp
            have hx2 := mem_rgI.mp hxm
            have hdl : ds.length ≤ 3 := by
              have := congrArg List.length hx
              simp [rgI] at this
              omega
            have hw2 := okM_data (ds := ds) hw
            obtain ⟨kn, w1, w2⟩ := q_with_value (x := x) (hk.app (e := [Cell.lst (ds.map .p)])) (by omega) hfv hw2
            have w3 := ok_kd (kn := kn) hw2
            have ih := q_tree_for hq hS hT n w2 (by omega) w3 (by have := lu x; omega) (ns_upd hfv hns) (rng_upd hr hx2)
            have ap := o_append (m := m ++ [Cell.lst (ds.map .p)] ++ [Cell.dct (kd kn)]) (n := m.length) (ws := ds.map .p) (y := .p (treeF q S T n (upd1 f v x))) (by simp) (by simp; omega)
            unfold L2_tree_for
            have la : lstAt (.loc m.length) (m ++ [Cell.lst (ds.map .p)]) = true := by simp [lstAt, isL, seqW]
            simp only [q_tidy, q_expr, r_lm, r_call, r_acons, r_anil, r_var, List.set_cons_succ, List.set_cons_zero, List.getElem?_cons_succ, List.getElem?_cons_zero, bind_ok, List.length_cons, List.length_nil, decide_true, if_true, la, w1, ih, ap, st_ok]
            have st : (m ++ [Cell.lst (ds.map .p)] ++ [Cell.dct (kd kn)]).set m.length (.lst (ds.map .p ++ [.p (treeF q S T n (upd1 f v x))])) = (m ++ [Cell.lst ((ds ++ [treeF q S T n (upd1 f v x)]).map .p)]) ++ [Cell.dct (kd kn)] := by simp
            rw [st]
            have hw3 := okM_data (ds := ds ++ [treeF q S T n (upd1 f v x)]) hw
            have kl := hk.lt
            rw [tidy_cut (by simp) (by simpa using hw3) (by simp [okE, okW, wipeE]; omega)]
            simp [wipeE]) rfl
        have rg2 := rg_it (n := q) (m := m ++ [.lst []]) (by omega)
        have fl : (rgI q).foldl (fun ds x => ds ++ [treeF q S T n (upd1 f v x)]) [] = (rgI q).map fun x => treeF q S T n (upd1 f v x) := by
          have : ∀ (l : List Int) (a : List PyData), l.foldl (fun ds x => ds ++ [treeF q S T n (upd1 f v x)]) a = a ++ l.map fun x => treeF q S T n (upd1 f v x) := fun l => by
            induction l with
            | nil => intro a; simp
            | cons y l ih => intro a; simp [ih]
          simpa using this (rgI q) []
        rw [fl] at key2
        have s0 : (0 ≤ sizeLine) = True := by simp [sizeLine_eq]
        simp only [q_seq, q_set, r_op2, c1, hlf, List.map_cons, bind_ok, r_c, o_ixL, atI_0, st_ok, List.set_cons_succ, List.set_cons_zero, r_lstL, r_anil, List.length_nil, s0, if_true]
        simp only [q_for, r_irg1, r_op2, r_var, r_c, List.set_cons_succ, List.set_cons_zero, List.getElem?_cons_succ, List.getElem?_cons_zero, bind_ok, o_ixT, atI_0, rg2, st_ok]
        rw [key2.1]
        have ot := o_tupC (n := m.length) (ds := (rgI q).map fun x => treeF q S T n (upd1 f v x)) (m := m ++ [Cell.lst (((rgI q).map fun x => treeF q S T n (upd1 f v x)).map .p)]) (by simp)
        simp only [q_ret, r_tup, r_acons, r_anil, r_c, r_var, r_cb, List.getElem?_cons_succ, List.getElem?_cons_zero, bind_ok, ot, List.length_cons, List.length_nil, s3, if_true, st_ok, retE]
        exact end_p rfl hw
end
end Mir.K60

namespace Mir.K60
open PySem PySem.Spec PyProof.Rows L2
/-! ### heads, trees -/
inductive Hd : PyData → Prop
  | non : Hd .none
  | int (i : Int) : Hd (.int i)
  | no : Hd (.str "no")
  | by_ : Hd (.str "by")
  | No : Hd (.str "No")
  | never : Hd (.str "never")
  | always : Hd (.str "always")
  | some_ : Hd (.str "sometimes")
inductive Wd : Str → Prop
  | no : Wd "no"
  | by_ : Wd "by"
  | never : Wd "never"
  | always : Wd "always"
  | some_ : Wd "sometimes"
def isS (h : PyData) (t : Str) : Bool := PyData.eqv h (.str t)
theorem eq_hd {h : PyData} {t : Str} {m : Hm} (a : Hd h) (b : Wd t) (k : Bool) : eqM k (.p h) (.p (.str t)) m = .ok (.p (.bool (if k = true then !isS h t else isS h t))) m := by
  have s1 : SeqAt.shaped h = true := by
    cases a <;> (unfold SeqAt.shaped PyData.canLay0 PyData.depth; first | rfl | decide +kernel)
  have s2 : SeqAt.shaped (.str t) = true := by
    cases b <;> (unfold SeqAt.shaped PyData.canLay0 PyData.depth; first | rfl | decide +kernel)
  unfold eqM
  simp only [rd, s1, s2, Bool.and_self, if_true]
  rfl
def isStr : PyData → Bool
  | .str _ => true
  | _ => false
theorem str_hd {h : PyData} {t : Str} (a : Hd h) (b : isS h t = true) : isStr h = true := by
  cases a with
  | non => exact absurd b (by unfold isS PyData.eqv; simp)
  | int => exact absurd b (by unfold isS PyData.eqv; simp)
  | _ => rfl
inductive Tr : PyData → Prop
  | oth (d : PyData) (h : nd d = true) (h2 : ∀ ds, d ≠ .tuple ds) : Tr d
  | nil : Tr (.tuple [])
  | tup (h : PyData) (rest : List PyData) (a : Hd h) (b : ∀ x ∈ rest, nd x = true) (c : ∀ ys, rest[1]? = some (.tuple ys) → ∀ t ∈ ys, Tr t) : Tr (.tuple (h :: rest))
/-- an item that stands for a node -/
def nodeR (S : List (List Int)) (T : List (List Row)) (f : Fn) : PyData → Bool
  | .int k => decide (0 ≤ k) && (decide (k < S.length) && rej S T k f)
  | _ => false
def isTree (q : Nat) (S : List (List Int)) (T : List (List Row)) : Nat → Fn → PyData → Bool
  | 0, _, _ => false
  | n + 1, f, .tuple [h, x] => isS h "no" && nodeR S T f x
  | n + 1, f, .tuple [h, .int v, .tuple ys] => isS h "by" && (decide (v ∈ left S f) && (decide (ys.length = q) && ((rgI q).zip ys).all fun p => isTree q S T n (upd1 f v p.1) p.2))
  | _, _, _ => false
theorem lc_grow {α : Type} {src : IX} {t : Tg} {f : EX W} {vs : List Nat} {s : Ev} {m : Hm} (xs : List α) (e : α → W) (h : α → PyData) (hs : src s m = .ok ⟨xs.map e, []⟩ m) (hz : xs.length ≤ 16777216) (hw : okM m.length m = true)
    (hb : ∀ x ∈ xs, ∀ e', okM (m ++ e').length (m ++ e') = true → ∃ s1, t.put (e x) (wipeE s vs) = some s1 ∧ ∃ e'', f s1 (m ++ e') = .ok (.p (h x)) (m ++ e' ++ e'') ∧ okM (m ++ e' ++ e'').length (m ++ e' ++ e'') = true) :
    ∃ e', eLc lcFin src t bYes f vs s m = .ok (.p (.list (xs.map h))) (m ++ e') ∧ okM (m ++ e').length (m ++ e') = true := by
  obtain ⟨ds, m', e1, e', rfl, rfl, hw'⟩ := lc_ex (src := src) (gs := []) (t := t) (g := bYes) (f := f) (vs := vs) (s := s) (m := m) (m0 := m) xs e (fun pre ds m' => ∃ e', m' = m ++ e' ∧ ds = pre.map h ∧ okM m'.length m' = true) hs hz (fun _ _ _ _ => rfl) (by
    rintro pre x post ds m' hx ⟨e', rfl, rfl, hw'⟩
    obtain ⟨s1, h1, e'', h2, h3⟩ := hb x (by rw [hx]; simp) e' hw'
    exact ⟨s1, h1, true, _, rfl, fun _ => ⟨h x, _, h2, e' ++ e'', by simp, by simp, h3⟩, fun h => by cases h⟩) ⟨[], by simp, rfl, hw⟩
  exact ⟨e', e1, hw'⟩
theorem ret_c {b : EX Bool} {d : PyData} {R : SX} {s : Ev} {m : Hm} (k : Bool) (hb : b s m = .ok k m) : sSeq (sIf b (sRet (eC d)) sSkip) R s m = if k = true then some (.rt (.p d), m) else R s m := by
  simp only [q_seq, q_if, hb, st_ok]
  cases k <;> simp
theorem seq_rt {b : EX Bool} {G R : SX} {s : Ev} {m : Hm} {w : W} (hb : b s m = .ok true m) (hg : G s m = some (.rt w, m)) : sSeq (sIf b G sSkip) R s m = some (.rt w, m) := by
  simp only [q_seq, q_if, hb, st_ok, if_true, hg]
theorem seq_no {b : EX Bool} {G R : SX} {s : Ev} {m : Hm} (hb : b s m = .ok false m) : sSeq (sIf b G sSkip) R s m = R s m := by
  simp only [q_seq, q_if, hb, st_ok, Bool.false_eq_true, if_false, q_skip]
section
variable {q : Nat} {S : List (List Int)} {E : List (Int × Int)} {T : List (List Row)}
theorem vs_rng (hS : Sc S) {v : Int} (h : v ∈ vs S) : 0 ≤ v ∧ v ≤ 5 := by
  obtain ⟨n, hn, hx⟩ := mem_vars.mp h
  exact (hS.nth n).2.2 v hx
theorem mem_left {f : Fn} {v : Int} : v ∈ left S f ↔ v ∈ vs S ∧ f v = none := by
  unfold left
  rw [List.mem_filter]
  simp
theorem numbered_ds : ∀ (ds : List PyData) (k : Nat), numbered k (ds.map .p) = ((List.range' k ds.length).zip ds).map fun p => .p (.tuple [.int (p.1 : Nat), p.2])
  | [], k => rfl
  | d :: ds, k => by
    have ih := numbered_ds ds (k + 1)
    simp only [List.map_cons, numbered, ih, List.length_cons, List.range'_succ, List.zip_cons_cons]
    simp [mkTup]
theorem numbered_rg (ds : List PyData) : numbered 0 (ds.map .p) = ((rgI ds.length).zip ds).map fun p => .p (.tuple [.int p.1, p.2]) := by
  rw [numbered_ds, rgI, ← List.range_eq_range', List.zip_map_left, List.map_map]
  rfl
def isTup : PyData → Bool
  | .tuple _ => true
  | _ => false
theorem ty_tup {d : PyData} {m : Hm} (h : nd d = true) : isiM "tuple" (.p d) m = .ok (.p (.bool (isTup d))) m := by
  cases d with
  | dict => cases h
  | _ => rfl
theorem ty_str {d : PyData} {m : Hm} (h : nd d = true) : isiM "str" (.p d) m = .ok (.p (.bool (isStr d))) m := by
  cases d with
  | dict => cases h
  | _ => rfl
theorem hd_nd {h : PyData} (a : Hd h) : nd h = true := by cases a <;> rfl
theorem all_bools {m : Hm} {α : Type} (xs : List α) (p : α → Bool) : allM true [.p (.list (xs.map fun x => .bool (p x)))] m = .ok (.p (.bool (xs.all p))) m := by
  have := o_all (m := m) (xs.map p)
  rw [List.map_map] at this
  rw [show (xs.map fun x => PyData.bool (p x)) = xs.map (PyData.bool ∘ p) from rfl, this]
  simp [List.all_map, Function.comp_def]
theorem any_bools {m : Hm} {α : Type} (xs : List α) (p : α → Bool) : allM false [.p (.list (xs.map fun x => .bool (p x)))] m = .ok (.p (.bool (xs.any p))) m := by
  have := o_any (m := m) (xs.map p)
  rw [List.map_map] at this
  rw [show (xs.map fun x => PyData.bool (p x)) = xs.map (PyData.bool ∘ p) from rfl, this]
  simp [List.any_map, Function.comp_def]
theorem q_is_tree (hq : q ≤ 3) (hS : Sc S) (hp : 1 ≤ S.length) (hT : TL' S T) : ∀ (n : Nat) {j a : Nat} {m : Hm} {f : Fn} {d : PyData}, Tr d → KN j m a f → j + n ≤ 50 → okM m.length m = true → (left S f).length < n → F_is_tree n [.p (gD q S E), .p (tsD T), .loc a, .p d] m = .ok (.p (.bool (isTree q S T n f d))) m
  | 0, _, _, _, _, _, _, _, _, _, hl => by omega
  | n + 1, j, a, m, f, d, ht, hk, hj, hw, hl => by
    have hla := hS.len
    have fin : ∀ b : Bool, endFn true m.length (.p (.bool b)) m = .ok (.p (.bool b)) m := fun b => endFn_p
    show mkFn true 4 6 (m_is_tree (F_is_tree n)) _ m = _
    unfold mkFn m_is_tree
    simp only [startE, List.length_cons, List.length_nil, List.map_cons, List.map_nil, decide_true, if_true, List.cons_append, List.nil_append, List.replicate]
    cases ht with
    | oth _ h h2 =>
      have e0 := ty_tup (m := m) h
      have e1 : isTup d = false := by
        cases d with
        | tuple ds => exact absurd rfl (h2 ds)
        | _ => rfl
      have e2 : isTree q S T (n + 1) f d = false := by
        cases d with
        | tuple ds => exact absurd rfl (h2 ds)
        | _ => rfl
      rw [e1] at e0
      simp [e0, e2, fin]
    | nil => simp [isiM, tyN, isiA, fin, isTree]
    | tup h rest ha hb hc =>
      have e0 : isiM "tuple" (.p (.tuple (h :: rest))) m = .ok (.p (.bool true)) m := rfl
      have e1 := ty_str (m := m) (hd_nd ha)
      match rest, hb, hc with
      | [], _, _ => simp [e0, fin, isTree]
      | [x], hb, hc =>
        have ex := hb x (by simp)
        have w1 := q_is_whole x 0 ((S.length : Int) - 1) m ex
        have h1 := eq_hd (m := m) ha .no true
        rw [ret_c (!isStr h) (by simp [e0, e1])]
        cases hs : isStr h with
        | false =>
          have : isS h "no" = false := by
            cases q1 : isS h "no" with
            | false => rfl
            | true => rw [str_hd ha q1] at hs; cases hs
          simp [this, fin, isTree]
        | true =>
          simp only [Bool.not_true, Bool.false_eq_true, if_false]
          rw [seq_rt (w := .p (.bool (isS h "no" && nodeR S T f x))) (by simp) (by
            rw [ret_c (!(isS h "no" && isW x 0 ((S.length : Int) - 1))) (by simp [h1, w1]; cases isS h "no" <;> simp)]
            cases hn : isS h "no" with
            | false => simp
            | true =>
              simp only [Bool.true_and]
              cases x with
              | int k =>
                by_cases h1 : 0 ≤ k ∧ k ≤ (S.length : Int) - 1
                · have h2 : 0 ≤ k ∧ k < S.length := by omega
                  have r := q_rejects (q := q) (E := E) hS hT h2 hk hw
                  simp [isW, h1.1, h1.2, r, nodeR, h2.2]
                · have h2 : ¬ (0 ≤ k ∧ k < S.length) := by omega
                  have h3 : isW (.int k) 0 ((S.length : Int) - 1) = false := by
                    unfold isW
                    simp
                    omega
                  have h4 : nodeR S T f (.int k) = false := by
                    unfold nodeR
                    simp
                    intro a b
                    omega
                  simp [h3, h4]
              | _ => simp [isW, nodeR])]
          simp only [retE, isTree]
          exact fin _
      | [x, y], hb, hc =>
        have ex := hb x (by simp)
        have ey := hb y (by simp)
        have h1 := eq_hd (m := m) ha .by_ true
        have w1 := q_is_whole x 0 5 m ex
        have e2 := q_variables_of (q := q) (E := E) hw hS
        have ey2 := ty_tup (m := m) ey
        have done : ∀ b : Bool, isTree q S T (n + 1) f (.tuple [h, x, y]) = b → retE true m.length (some (.rt (.p (.bool b)), m)) = .ok (.p (.bool (isTree q S T (n + 1) f (.tuple [h, x, y])))) m := fun b hb => by rw [hb]; exact fin b
        rw [ret_c (!isStr h) (by simp [e0, e1])]
        cases hs : isStr h with
        | false =>
          have : isS h "by" = false := by
            cases q1 : isS h "by" with
            | false => rfl
            | true => rw [str_hd ha q1] at hs; cases hs
          refine done false ?_
          cases x <;> cases y <;> simp [isTree, this]
        | true =>
          simp only [Bool.not_true, Bool.false_eq_true, if_false]
          rw [seq_no (by simp)]
          cases hn : isS h "by" with
          | false =>
            rw [ret_c true (by simp [h1, hn])]
            refine done false ?_
            cases x <;> cases y <;> simp [isTree, hn]
          | true =>
            have dn : ∀ b : Bool, isTree q S T (n + 1) f (.tuple [h, x, y]) = b → retE true m.length (some (.rt (.p (.bool b)), m)) = .ok (.p (.bool (isTree q S T (n + 1) f (.tuple [h, x, y])))) m := done
            cases x with
            | int v =>
              rw [ret_c (!decide (v ∈ left S f)) (by
                by_cases h5 : 0 ≤ v ∧ v ≤ 5
                · have hw : isW (.int v) 0 5 = true := by simp [isW, h5]
                  have hd := o_din hk v (s := [some (W.p (gD q S E)), some (.p (tsD T)), some (.loc a), some (.p (.tuple [h, .int v, y])), none, none]) (e1 := eOp2 idxM (eVar 3) (eC (.int 1))) (e2 := eVar 2) (b := false) (by simp) (by simp)
                  simp [h1, hn, w1, hw, hd]
                  cases hf : f v with
                  | some z =>
                    have : ¬ v ∈ left S f := fun hm => by rw [(mem_left.mp hm).2] at hf; cases hf
                    simp [this]
                  | none =>
                    have ee : decide (v ∈ left S f) = decide (v ∈ vs S) := decide_eq_decide.mpr ⟨fun hm => (mem_left.mp hm).1, fun hm => mem_left.mpr ⟨hm, hf⟩⟩
                    have oi := o_inTI (v := v) (ns := vs S) (m := m)
                    simp [e2, unK_kt, oi, ee]
                · have hw : isW (.int v) 0 5 = false := by
                    unfold isW
                    simp
                    omega
                  have : ¬ v ∈ left S f := fun hm => h5 (vs_rng hS (mem_left.mp hm).1)
                  simp [h1, hn, w1, hw, this])]
              by_cases hv : v ∈ left S f
              · have hfv := (mem_left.mp hv).2
                simp only [hv, decide_true, Bool.not_true, Bool.false_eq_true, if_false]
                cases y with
                | tuple ys =>
                  rw [ret_c (!decide (ys.length = q)) (by
                    simp [ey2, isTup]
                    rw [Bool.eq_iff_iff]
                    simp
                    omega)]
                  by_cases hy : ys.length = q
                  · simp only [hy, decide_true, Bool.not_true, Bool.false_eq_true, if_false]
                    have lg := lc_grow (src := iEnT (eOp2 idxM (eVar 3) (eC (.int 2)))) (t := .t [(.n 4), (.n 5)]) (f := eCall 4 (F_is_tree n) (aCons (eVar 0) (aCons (eVar 1) (aCons (eCall 3 F_with_value (aCons (eVar 2) (aCons (eOp2 idxM (eVar 3) (eC (.int 1))) (aCons (eVar 4) aNil)))) (aCons (eVar 5) aNil))))) (vs := [4, 5]) (s := [some (W.p (gD q S E)), some (.p (tsD T)), some (.loc a), some (.p (.tuple [h, .int v, .tuple ys])), none, none]) (m := m)
                      ((rgI q).zip ys) (fun p => .p (.tuple [.int p.1, p.2])) (fun p => .bool (isTree q S T n (upd1 f v p.1) p.2)) (by
                        have := numbered_rg ys
                        rw [hy] at this
                        simp [iEnT, isL, this]) (by rw [List.length_zip]; omega) hw (fun p hpm e' hw' => by
                          refine ⟨_, by simp [Tg.put, Tg.puts, seqT]; rfl, ?_⟩
                          obtain ⟨kn, w1, w2⟩ := q_with_value (x := p.1) (hk.app (e := e')) (by omega) hfv hw'
                          have w3 := ok_kd (kn := kn) hw'
                          have lu := left_upd (x := p.1) hv
                          have hpt : Tr p.2 := hc ys rfl p.2 (List.of_mem_zip hpm).2
                          have ih := q_is_tree hq hS hp hT n hpt w2 (by omega) w3 (by omega)
                          exact ⟨[.dct (kd kn)], by simp only [wipeE, r_call, r_acons, r_anil, r_op2, r_var, r_c, List.foldl_cons, List.foldl_nil, List.set_cons_succ, List.set_cons_zero, List.getElem?_cons_succ, List.getElem?_cons_zero, bind_ok, o_ixT, atI_1, List.length_cons, List.length_nil, decide_true, if_true, w1, ih], w3⟩)
                    obtain ⟨e', l1, l2⟩ := lg
                    have l1 : C1_is_tree (F_is_tree n) [some (W.p (gD q S E)), some (.p (tsD T)), some (.loc a), some (.p (.tuple [h, .int v, .tuple ys])), none, none] m = _ := l1
                    simp only [q_ret, r_cb, r_acons, r_anil, l1, bind_ok, all_bools, st_ok, retE]
                    have : isTree q S T (n + 1) f (.tuple [h, .int v, .tuple ys]) = ((rgI q).zip ys).all fun p => isTree q S T n (upd1 f v p.1) p.2 := by simp [isTree, hn, hv, hy]
                    rw [this]
                    exact end_p rfl hw
                  · simp only [hy, decide_false, Bool.not_false, if_true]
                    refine dn false ?_
                    simp [isTree, hy]
                | _ =>
                  rw [ret_c true (by simp [ey2, isTup])]
                  refine dn false ?_
                  simp [isTree]
              · simp only [hv, decide_false, Bool.not_false, if_true]
                refine dn false ?_
                cases y <;> simp [isTree, hv]
            | _ =>
              rw [ret_c true (by simp [h1, hn, w1, isW])]
              refine dn false ?_
              cases y <;> simp [isTree]
      | x :: y :: z :: rest, hb, hc =>
        have h3 : ¬ ((rest.length : Int) + 1 + 1 + 1 + 1 ≤ 3) := by omega
        rw [ret_c true (by simp [e0, h3])]
        have : isTree q S T (n + 1) f (.tuple (h :: x :: y :: z :: rest)) = false := by simp [isTree]
        rw [if_pos rfl, this]
        exact fin false
end
end Mir.K60

namespace Mir.K60
open PySem PySem.Spec PyProof.Rows L2
section
variable {q : Nat} {S : List (List Int)} {E : List (Int × Int)} {T : List (List Row)}
theorem tru_t {ds : List PyData} {m : Hm} : tru (.p (.tuple ds)) m = .ok (!ds.isEmpty) m := by cases ds <;> rfl
theorem q_law_every_vs {m : Hm} (hw : okM m.length m = true) (hS : Sc S) : F__law_every [.p (gD q S E)] m = .ok (.p (.list ((rgI S.length).map .int))) m ∧ F__law_variables [.p (gD q S E), .p (.list ((rgI S.length).map .int))] m = .ok (.kt ((vs S).map .int)) m :=
  ⟨q_every hS.len, q_law_variables hw hS (nd_all hS) (.inr rfl)⟩
theorem q_law_is_tree (hq : q ≤ 3) (hS : Sc S) (hT : TL' S T) : ∀ (n : Nat) {j a : Nat} {m : Hm} {f : Fn} {d : PyData}, Tr d → KN j m a f → j + n ≤ 50 → okM m.length m = true → (left S f).length < n → F__law_is_tree n [.p (gD q S E), .p (tsD T), .loc a, .p d] m = .ok (.p (.bool (isTree q S T n f d))) m
  | 0, _, _, _, _, _, _, _, _, _, hl => by omega
  | n + 1, j, a, m, f, d, ht, hk, hj, hw, hl => by
    have hla := hS.len
    have fin : ∀ b : Bool, endFn true m.length (.p (.bool b)) m = .ok (.p (.bool b)) m := fun b => endFn_p
    show mkFn true 4 5 (m__law_is_tree (F__law_is_tree n)) _ m = _
    unfold mkFn m__law_is_tree
    simp only [startE, List.length_cons, List.length_nil, List.map_cons, List.map_nil, decide_true, if_true, List.cons_append, List.nil_append, List.replicate]
    cases ht with
    | oth _ h h2 =>
      have e0 := ty_tup (m := m) h
      have e1 : isTup d = false := by
        cases d with
        | tuple ds => exact absurd rfl (h2 ds)
        | _ => rfl
      have e2 : isTree q S T (n + 1) f d = false := by
        cases d with
        | tuple ds => exact absurd rfl (h2 ds)
        | _ => rfl
      rw [e1] at e0
      rw [ret_c true (by simp [e0])]
      rw [if_pos rfl, e2]
      exact fin false
    | nil =>
      rw [ret_c true (by simp [isiM, tyN, isiA, tru_t])]
      exact fin false
    | tup h rest ha hb hc =>
      have e0 : isiM "tuple" (.p (.tuple (h :: rest))) m = .ok (.p (.bool true)) m := rfl
      have done : ∀ b : Bool, isTree q S T (n + 1) f (.tuple (h :: rest)) = b → retE true m.length (some (.rt (.p (.bool b)), m)) = .ok (.p (.bool (isTree q S T (n + 1) f (.tuple (h :: rest))))) m := fun b hb => by rw [hb]; exact fin b
      rw [ret_c false (by simp [e0, tru_t])]
      simp only [Bool.false_eq_true, if_false]
      match rest, hb, hc, done with
      | [], _, _, done =>
        rw [seq_no (by simp), ret_c true (by simp)]
        exact done false rfl
      | [x], hb, hc, done =>
        have ex := hb x (by simp)
        have h1 := eq_hd (m := m) ha .no false
        cases hn : isS h "no" with
        | false =>
          rw [seq_no (by simp [h1, hn]), ret_c true (by simp)]
          exact done false (by simp [isTree, hn])
        | true =>
          have w1 := q_isint (m := m) ex
          rw [seq_rt (w := .p (.bool (nodeR S T f x))) (by simp [h1, hn]) (by
            cases x with
            | int k =>
              by_cases h1 : 0 ≤ k
              · by_cases h2 : k < S.length
                · have r := q_law_rejects (q := q) (E := E) hS hT ⟨h1, h2⟩ hk hw
                  simp [w1, isInt, h1, h2, r, nodeR]
                · simp [w1, isInt, h1, h2, nodeR]
              · simp [w1, isInt, h1, nodeR]
            | _ => simp [w1, isInt, nodeR])]
          exact done _ (by simp [isTree, hn])
      | [x, y], hb, hc, done =>
        have ex := hb x (by simp)
        have ey := hb y (by simp)
        have h1 := eq_hd (m := m) ha .by_ true
        have w1 := q_isint (m := m) ex
        obtain ⟨e2, e3⟩ := q_law_every_vs (q := q) (E := E) hw hS
        have ey2 := ty_tup (m := m) ey
        rw [seq_no (by simp)]
        cases hn : isS h "by" with
        | false =>
          rw [ret_c true (by simp [h1, hn])]
          refine done false ?_
          cases x <;> cases y <;> simp [isTree, hn]
        | true =>
          cases x with
          | int v =>
            have hd := o_din hk v (s := [some (W.p (gD q S E)), some (.p (tsD T)), some (.loc a), some (.p (.tuple [h, .int v, y])), none]) (e1 := eOp2 idxM (eVar 3) (eC (.int 1))) (e2 := eVar 2) (b := false) (by simp) (by simp)
            rw [ret_c (f v).isSome (by simp [h1, hn, w1, isInt, hd])]
            cases hf : f v with
            | some z =>
              have : ¬ v ∈ left S f := fun hm => by rw [(mem_left.mp hm).2] at hf; cases hf
              refine done false ?_
              cases y <;> simp [isTree, this]
            | none =>
              simp only [Option.isSome_none, Bool.false_eq_true, if_false]
              have ee : decide (v ∈ left S f) = decide (v ∈ vs S) := decide_eq_decide.mpr ⟨fun hm => (mem_left.mp hm).1, fun hm => mem_left.mpr ⟨hm, hf⟩⟩
              have oi := o_inTI (v := v) (ns := vs S) (m := m)
              by_cases hv : v ∈ vs S
              · have hvl := mem_left.mpr ⟨hv, hf⟩
                cases y with
                | tuple ys =>
                  rw [ret_c (!decide (ys.length = q)) (by
                    simp [e2, e3, unK_kt, oi, hv, ey2, isTup]
                    rw [Bool.eq_iff_iff]
                    simp
                    omega)]
                  by_cases hy : ys.length = q
                  · simp only [hy, decide_true, Bool.not_true, Bool.false_eq_true, if_false]
                    have lg := lc_grow (src := iRg1 (eOp2 idxM (eVar 0) (eC (.int 0)))) (t := .n 4) (f := eCall 4 (F__law_is_tree n) (aCons (eVar 0) (aCons (eVar 1) (aCons (eCall 3 F__law_with (aCons (eVar 2) (aCons (eOp2 idxM (eVar 3) (eC (.int 1))) (aCons (eVar 4) aNil)))) (aCons (eOp2 idxM (eOp2 idxM (eVar 3) (eC (.int 2))) (eVar 4)) aNil))))) (vs := [4]) (s := [some (W.p (gD q S E)), some (.p (tsD T)), some (.loc a), some (.p (.tuple [h, .int v, .tuple ys])), none]) (m := m)
                      (rgI q) (fun k => .p (.int k)) (fun k => .bool (isTree q S T n (upd1 f v k) ((atI ys k).getD .none))) (by
                        have := rg_it (n := q) (m := m) (by omega)
                        simp at this ⊢
                        exact this) (by simp [rgI]; omega) hw (fun k hk' e' hw' => by
                          refine ⟨_, rfl, ?_⟩
                          obtain ⟨kn, w1, w2⟩ := q_law_with (x := k) (hk.app (e := e')) (by omega) hf hw'
                          have w3 := ok_kd (kn := kn) hw'
                          have lu := left_upd (x := k) hvl
                          rw [← hy] at hk'
                          obtain ⟨t, htm, et⟩ := atI_rg hk'
                          have ih := q_law_is_tree hq hS hT n (hc ys rfl t htm) w2 (by omega) w3 (by omega)
                          exact ⟨[.dct (kd kn)], by simp only [wipeE, r_call, r_acons, r_anil, r_op2, r_var, r_c, List.foldl_cons, List.foldl_nil, List.set_cons_succ, List.set_cons_zero, List.getElem?_cons_succ, List.getElem?_cons_zero, bind_ok, o_ixT, atI_1, atI_2, List.length_cons, List.length_nil, decide_true, if_true, w1, et, ih, Option.getD_some], w3⟩)
                    obtain ⟨e', l1, l2⟩ := lg
                    have l1 : C1__law_is_tree (F__law_is_tree n) [some (.p (gD q S E)), some (.p (tsD T)), some (.loc a), some (.p (.tuple [h, .int v, .tuple ys])), none] m = _ := l1
                    simp only [q_ret, r_cb, r_acons, r_anil, l1, bind_ok, all_bools, st_ok, retE]
                    have : isTree q S T (n + 1) f (.tuple [h, .int v, .tuple ys]) = ((rgI q).all fun k => isTree q S T n (upd1 f v k) ((atI ys k).getD .none)) := by
                      have h0 : isTree q S T (n + 1) f (.tuple [h, .int v, .tuple ys]) = ((rgI q).zip ys).all fun p => isTree q S T n (upd1 f v p.1) p.2 := by simp [isTree, hn, hvl, hy]
                      rw [h0]
                      have hz : (rgI q).zip ys = (rgI q).map fun k => (k, (atI ys k).getD .none) := by
                        refine List.ext_getElem (by simp [rgI, hy]) fun i h1 h2 => ?_
                        have hi : i < ys.length := by
                          rw [List.length_zip] at h1
                          omega
                        have e9 : atI ys (i : Int) = some ys[i] := by rw [atI_lit, List.getElem?_eq_getElem hi]
                        simp [rgI, e9]
                      rw [hz, List.all_map]
                      rfl
                    rw [this]
                    exact end_p rfl hw
                  · simp only [hy, decide_false, Bool.not_false, if_true]
                    refine done false ?_
                    simp [isTree, hy]
                | _ =>
                  rw [ret_c true (by simp [e2, e3, unK_kt, oi, hv, ey2, isTup])]
                  refine done false ?_
                  simp [isTree]
              · rw [ret_c true (by simp [e2, e3, unK_kt, oi, hv])]
                refine done false ?_
                have : ¬ v ∈ left S f := fun hm => hv (mem_left.mp hm).1
                cases y <;> simp [isTree, this]
          | _ =>
            rw [ret_c true (by simp [h1, hn, w1, isInt])]
            refine done false ?_
            cases y <;> simp [isTree]
      | x :: y :: z :: rest, hb, hc, done =>
        have h3 : ¬ ((rest.length : Int) + 1 + 1 + 1 + 1 = 2) := by omega
        have h4 : ¬ ((rest.length : Int) + 1 + 1 + 1 + 1 = 3) := by omega
        rw [seq_no (by simp [h3]), ret_c true (by simp [h4])]
        exact done false (by simp [isTree])
end
end Mir.K60

namespace Mir.K60
open PySem PySem.Spec PyProof.Rows L2
/-! ### rows that are solutions -/
def toI : PyData → Int
  | .int i => i
  | _ => 0
def rowL (ds : List PyData) : Option (List Int) := if ds.all isInt = true then some (ds.map toI) else none
def rowOf : PyData → Option (List Int)
  | .tuple ds => rowL ds
  | _ => none
theorem rowOf_t {ds : List PyData} : rowOf (.tuple ds) = rowL ds := rfl
theorem rowL_yes {ds : List PyData} (h : ds.all isInt = true) : rowL ds = some (ds.map toI) := by
  unfold rowL
  rw [if_pos h]
theorem rowOf_sd (r : List Int) : rowOf (sd r) = some r := by
  show rowL (r.map .int) = some r
  rw [rowL_yes (by simp [isInt])]
  simp [Function.comp_def, toI]
theorem rowOf_eq {d : PyData} {r : List Int} (h : rowOf d = some r) : d = sd r := by
  cases d with
  | tuple ds =>
    rw [rowOf_t] at h
    unfold rowL at h
    split at h
    · rename_i ha
      have h := Option.some.inj h
      subst h
      have : ∀ ds : List PyData, ds.all isInt = true → ds = (ds.map toI).map .int := fun ds h => by
        induction ds with
        | nil => rfl
        | cons d ds ih =>
          rw [List.all_cons, Bool.and_eq_true] at h
          rw [List.map_cons, List.map_cons, ← ih h.2]
          cases d <;> first | rfl | cases h.1
      exact congrArg PyData.tuple (this ds ha)
    · cases h
  | _ => cases h
structure RL (d : PyData) : Prop where
  nd : nd d = true
  it : ∀ ds, d = .tuple ds → ds.length ≤ 1000 ∧ ∀ x ∈ ds, K60.nd x = true
def isSol (q : Nat) (S : List (List Int)) (T : List (List Row)) (d : PyData) : Bool := match rowOf d with
  | some r => decide (r ∈ (sols q S T (rgI S.length)).map (·.1))
  | none => false
def rowFn (so r : List Int) : Fn := fun v => if v ∈ so then some (vl so r v) else none
section
variable {q : Nat} {S : List (List Int)} {E : List (Int × Int)} {T : List (List Row)} {m : Hm} {d : PyData} {r : List Int}
theorem rej_row (hS : Sc S) (hT : TL' S T) (hr : r ∈ rows q (vs S).length) {n : Int} (hn : n ∈ rgI S.length) : rej S T n (rowFn (vs S) r) = !has S T (rgI S.length) r n := by
  unfold rej has
  congr 1
  rw [Bool.eq_iff_iff, List.any_eq_true, List.any_eq_true]
  refine exists_congr fun p => and_congr_right fun hp => ?_
  rw [decide_eq_true_eq, part_vl (q := q) (N := rgI S.length) hS hr hn]
  have hl := hT.len n p hp
  unfold hit
  rw [List.all_eq_true]
  constructor
  · intro h
    refine List.ext_getElem (by simp [hl]) fun i h1 h2 => ?_
    have hi : i < (nth S n).length := by omega
    have hz : ((nth S n)[i], p.1[i]) ∈ (nth S n).zip p.1 := List.mem_iff_getElem.mpr ⟨i, by simp; omega, by simp⟩
    have h3 := h _ hz
    have hv := mem_vs hn (List.getElem_mem hi)
    simp only [rowFn, hv, if_true, Option.getD_some, beq_iff_eq] at h3
    rw [List.getElem_map, ← h3]
  · intro h z hz
    rw [h] at hz
    have : ∀ l : List Int, l.zip (l.map (vl (vars S (rgI S.length)) r)) = l.map fun x => (x, vl (vars S (rgI S.length)) r x) := fun l => by
      induction l with
      | nil => rfl
      | cons a l ih => simp [ih]
    rw [this] at hz
    obtain ⟨x, hx, rfl⟩ := List.mem_map.mp hz
    have hv := mem_vs hn hx
    simp [rowFn, hv]
theorem q_is_row_of (hd : RL d) {k : Nat} (hk : k ≤ 6) (hq : q ≤ 3) : F_is_row_of [.p (.int q), .p d, .p (.int k)] m = .ok (.p (.bool (match rowOf d with | some r => decide (r ∈ rows q k) | none => false))) m := by
  have fin : ∀ b : Bool, endFn true m.length (.p (.bool b)) m = .ok (.p (.bool b)) m := fun b => endFn_p
  unfold F_is_row_of mkFn m_is_row_of
  simp only [startE, List.length_cons, List.length_nil, List.map_cons, List.map_nil, decide_true, if_true, List.cons_append, List.nil_append, List.replicate]
  have e0 := ty_tup (m := m) hd.nd
  cases d with
  | tuple ds =>
    obtain ⟨hl, hx⟩ := hd.it ds rfl
    rw [ret_c (!decide (ds.length = k)) (by
      simp [e0, isTup]
      rw [Bool.eq_iff_iff]
      simp
      omega)]
    by_cases hlk : ds.length = k
    · simp only [hlk, decide_true, Bool.not_true, Bool.false_eq_true, if_false]
      simp only [q_ret, r_cb, r_acons, r_anil]
      unfold C1_is_row_of
      rw [lc_map ds .p (fun x => .bool (isW x 0 ((q : Int) - 1))) (gs := []) (by simp) rfl (by omega) fun x hxm => ⟨_, rfl, by
        have := q_isnum x 0 ((q : Int) - 1) m (hx x hxm)
        simp [wipeE, this]⟩]
      simp only [bind_ok, all_bools, st_ok, retE]
      have : (ds.all fun x => isW x 0 ((q : Int) - 1)) = (match rowOf (.tuple ds) with | some r => decide (r ∈ rows q k) | none => false) := by
        rw [Bool.eq_iff_iff, List.all_eq_true]
        constructor
        · intro h
          have h1 : ds.all isInt = true := List.all_eq_true.mpr fun x hx => by
            have := h x hx
            cases x <;> first | rfl | cases this
          rw [rowOf_t, rowL_yes h1]
          simp only [decide_eq_true_eq]
          refine mem_rows.mpr ⟨by simpa using hlk, fun v hv => ?_⟩
          obtain ⟨x, hx, rfl⟩ := List.mem_map.mp hv
          have := h x hx
          cases x with
          | int i =>
            simp [isW] at this
            show 0 ≤ i ∧ i < (q : Int)
            omega
          | _ => cases this
        · intro h
          cases hr : rowOf (.tuple ds) with
          | none => rw [hr] at h; cases h
          | some r =>
            rw [hr] at h
            have h := (mem_rows.mp (of_decide_eq_true h)).2
            have e := rowOf_eq hr
            cases e
            intro x hx
            obtain ⟨v, hv, rfl⟩ := List.mem_map.mp hx
            have := h v hv
            simp [isW]
            omega
      rw [this]
      exact fin _
    · simp only [hlk, decide_false, Bool.not_false, if_true, retE]
      have : (match rowOf (.tuple ds) with | some r => decide (r ∈ rows q k) | none => false) = false := by
        cases hr : rowOf (.tuple ds) with
        | none => rfl
        | some r =>
          have e := rowOf_eq hr
          cases e
          refine decide_eq_false fun hm => hlk ?_
          simpa using (mem_rows.mp hm).1
      rw [this]
      exact fin false
  | _ =>
    rw [ret_c true (by simp [e0, isTup])]
    exact fin false
/-- {variable: one for variable, one in zip(some, row)} -/
theorem dc_zip {so r : List Int} {s : Ev} {m : Hm} (hl : so.length = r.length) (h6 : so.length ≤ 6) (nd : so.Nodup) {src : IX} (hs : src s m = .ok ⟨(so.zip r).map fun p => .p (.tuple [.int p.1, .int p.2]), []⟩ m) (h5 : 6 < s.length) : eDc src (.t [(.n 5), (.n 6)]) bYes (eVar 5) (eVar 6) [5, 6] s m = .ok (.loc m.length) (m ++ [.dct (kd (so.zip r))]) := by
  have go : ∀ (suf pre : List (Int × Int)), so.zip r = pre ++ suf → dcC m.length [] (.t [(.n 5), (.n 6)]) bYes (eVar 5) (eVar 6) (wipeE s [5, 6]) (suf.map fun p => .p (.tuple [.int p.1, .int p.2])) (m ++ [.dct (kd pre)]) = .ok () (m ++ [.dct (kd (so.zip r))]) := by
    intro suf
    induction suf with
    | nil => intro pre h; simp [dcC, h]
    | cons p suf ih =>
      intro pre h
      have hp : p.1 ∉ pre.map (·.1) := fun hm => by
        have h1 : ((so.zip r).map (·.1)) = so := by
          rw [List.map_fst_zip]
          omega
        rw [h, List.map_append, List.map_cons] at h1
        rw [← h1, List.nodup_append] at nd
        exact nd.2.2 _ hm _ List.mem_cons_self rfl
      have hlen : (kd pre).length < sizeLine := by
        rw [sizeLine_eq]
        have := congrArg List.length h
        simp at this
        simp [kd]
        omega
      have pt : Tg.put (.t [.n 5, .n 6]) (.p (.tuple [.int p.1, .int p.2])) (wipeE s [5, 6]) = some (((wipeE s [5, 6]).set 5 (some (.p (.int p.1)))).set 6 (some (.p (.int p.2)))) := by simp [Tg.put, Tg.puts, seqT]
      have l5 : (((wipeE s [5, 6]).set 5 (some (.p (.int p.1)))).set 6 (some (.p (.int p.2))))[5]? = some (some (.p (.int p.1))) := by
        rw [List.getElem?_set_ne (by omega), List.getElem?_set_self (by simp [wipeE]; omega)]
      have l6 : (((wipeE s [5, 6]).set 5 (some (.p (.int p.1)))).set 6 (some (.p (.int p.2))))[6]? = some (some (.p (.int p.2))) := by
        rw [List.getElem?_set_self (by simp [wipeE]; omega)]
      simp only [List.map_cons, dcC, gOk_nil, if_true, pt, r_byes, r_var, l5, l6, List.getElem?_concat_length, keyW, keyP, hlen, put_kd hp, set_last]
      exact ih (pre ++ [p]) (by rw [h]; simp)
  unfold eDc
  rw [hs]
  simp only [bind_ok]
  have := go (so.zip r) [] rfl
  rw [show m ++ [Cell.dct []] = m ++ [Cell.dct (kd [])] from rfl, this]
  rfl
theorem kn_row {so r : List Int} (hl : so.length = r.length) (nd : so.Nodup) : KN so.length (m ++ [.dct (kd (so.zip r))]) m.length (rowFn so r) := ⟨so.zip r, by simp, by rw [List.map_fst_zip (by omega)]; exact nd, by rw [List.length_zip]; omega, fun v => by
  rw [zip_vl nd hl.symm]
  unfold look rowFn
  by_cases hv : v ∈ so
  · rw [if_pos hv]
    cases hf : (so.map fun x => (x, vl so r x)).find? fun p => decide (p.1 = v) with
    | none =>
      have := List.find?_eq_none.mp hf (v, vl so r v) (List.mem_map.mpr ⟨v, hv, rfl⟩)
      simp at this
    | some p =>
      have h1 := List.mem_of_find?_eq_some hf
      have h2 := List.find?_some hf
      obtain ⟨x, hx, rfl⟩ := List.mem_map.mp h1
      simp at h2
      subst h2
      rfl
  · rw [if_neg hv]
    have : (so.map fun x => (x, vl so r x)).find? (fun p => decide (p.1 = v)) = none := List.find?_eq_none.mpr fun p hp => by
      obtain ⟨x, hx, rfl⟩ := List.mem_map.mp hp
      simp
      rintro rfl
      exact hv hx
    rw [this]
    rfl⟩
theorem q_is_solution (hd : RL d) (hq : q ≤ 3) (hS : Sc S) (hT : TL' S T) (hw : okM m.length m = true) : F_is_solution [.p (gD q S E), .p (tsD T), .p d] m = .ok (.p (.bool (isSol q S T d))) m := by
  have hla := hS.len
  have v6 : (vs S).length ≤ 6 := vars_len hS _
  have vnd : (vs S).Nodup := lt_nodup (vars_lt _ _)
  have e2 := q_variables_of (q := q) (E := E) hw hS
  have e3 := q_is_row_of (m := m) hd v6 hq
  unfold F_is_solution mkFn m_is_solution
  simp only [startE, List.length_cons, List.length_nil, List.map_cons, List.map_nil, decide_true, if_true, List.cons_append, List.nil_append, List.replicate]
  have st : ∀ R : SX, sSeq (sSet 3 (eCall 1 F_variables_of (aCons (eVar 0) aNil))) R [some (.p (gD q S E)), some (.p (tsD T)), some (.p d), none, none, none, none, none] m = R [some (.p (gD q S E)), some (.p (tsD T)), some (.p d), some (.kt ((vs S).map .int)), none, none, none, none] m := fun R => by simp [e2]
  rw [st]
  cases hr : rowOf d with
  | none =>
    rw [hr] at e3
    rw [ret_c true (by simp [unK_kt, e3])]
    have : isSol q S T d = false := by unfold isSol; rw [hr]
    rw [this]
    exact endFn_p
  | some r =>
    have ed := rowOf_eq hr
    subst ed
    rw [hr] at e3
    rw [ret_c (!decide (r ∈ rows q (vs S).length)) (by simp [unK_kt, e3])]
    by_cases hm : r ∈ rows q (vs S).length
    · simp only [hm, decide_true, Bool.not_true, Bool.false_eq_true, if_false]
      have hl : (vs S).length = r.length := (mem_rows.mp hm).1.symm
      have d1 := dc_zip (s := [some (.p (gD q S E)), some (.p (tsD T)), some (.p (sd r)), some (.kt ((vs S).map .int)), none, none, none, none]) (m := m) hl v6 vnd (src := iZp (eUn (eVar 3)) (eVar 2)) (by
        have := zipped_ints (vs S) r
        simp only [List.map_map] at this
        simp [iZp, zipR, this, isL, unK_kt]) (by simp)
      have d1 : C1_is_solution _ m = _ := d1
      have k1 := kn_row (m := m) hl vnd
      have w1 := ok_kd (kn := (vs S).zip r) hw
      simp only [q_seq, q_set, d1, st_ok, List.set_cons_succ, List.set_cons_zero]
      unfold C2_is_solution
      simp only [q_ret, r_not, r_cb, r_acons, r_anil]
      rw [lc_map (rgI S.length) (fun n => .p (.int n)) (fun n => .bool (rej S T n (rowFn (vs S) r))) (gs := []) (by
        have := rg_it (n := S.length) (m := m ++ [.dct (kd ((vs S).zip r))]) (by omega)
        simp at this ⊢
        exact this) rfl (by simp [rgI]; omega) fun n hn => ⟨_, rfl, by
          have := q_rejects (q := q) (E := E) hS hT (mem_rgI.mp hn) k1 w1
          simp [wipeE, this]⟩]
      simp only [bind_ok, any_bools, st_ok, retE]
      have : isSol q S T (sd r) = !((rgI S.length).any fun n => rej S T n (rowFn (vs S) r)) := by
        unfold isSol
        rw [hr]
        rw [Bool.eq_iff_iff]
        simp only [decide_eq_true_eq, Bool.not_eq_true', List.any_eq_false, List.mem_map]
        constructor
        · rintro ⟨p, hp, rfl⟩ n hn
          rw [rej_row hS hT hm hn, (sol_mem hp).2 n hn]
          simp
        · intro h
          refine ⟨(r, _), List.mem_map.mpr ⟨r, List.mem_filter.mpr ⟨hm, List.all_eq_true.mpr fun n hn => ?_⟩, rfl⟩, rfl⟩
          have := h n hn
          rw [rej_row hS hT hm hn] at this
          simpa using this
      rw [this]
      exact end_p rfl hw
    · simp only [hm, decide_false, Bool.not_false, if_true, retE]
      have : isSol q S T (sd r) = false := by
        unfold isSol
        rw [hr]
        refine decide_eq_false fun h => ?_
        obtain ⟨p, hp, rfl⟩ := List.mem_map.mp h
        exact hm (sol_mem hp).1
      rw [this]
      exact endFn_p
theorem q_law_is_solution (hd : RL d) (hq : q ≤ 3) (hS : Sc S) (hT : TL' S T) (hU : Uq T) (hw : okM m.length m = true) : F__law_is_solution [.p (gD q S E), .p (tsD T), .p d] m = .ok (.p (.bool (isSol q S T d))) m := by
  have v6 : (vs S).length ≤ 6 := vars_len hS _
  obtain ⟨e2, e3⟩ := q_law_every_vs (q := q) (E := E) hw hS
  have fin : ∀ b : Bool, endFn true m.length (.p (.bool b)) m = .ok (.p (.bool b)) m := fun b => endFn_p
  unfold F__law_is_solution mkFn m__law_is_solution
  simp only [startE, List.length_cons, List.length_nil, List.map_cons, List.map_nil, decide_true, if_true, List.cons_append, List.nil_append, List.replicate]
  have st : ∀ R : SX, sSeq (sSet 3 (eCall 2 F__law_variables (aCons (eVar 0) (aCons (eCall 1 F__law_every (aCons (eVar 0) aNil)) aNil)))) R [some (.p (gD q S E)), some (.p (tsD T)), some (.p d), none, none, none, none] m = R [some (.p (gD q S E)), some (.p (tsD T)), some (.p d), some (.kt ((vs S).map .int)), none, none, none] m := fun R => by simp [e2, e3]
  rw [st]
  have e0 := ty_tup (m := m) hd.nd
  cases d with
  | tuple ds =>
    obtain ⟨hl, hx⟩ := hd.it ds rfl
    have c1 : C1__law_is_solution [some (.p (gD q S E)), some (.p (tsD T)), some (.p (.tuple ds)), some (.kt ((vs S).map .int)), none, none, none] m = .ok (.p (.list (ds.map fun x => .bool (isInt x)))) m := by
      unfold C1__law_is_solution
      rw [lc_map ds .p (fun x => .bool (isInt x)) (gs := []) (by simp) rfl (by omega) fun x hxm => ⟨_, rfl, by
        have := q_isint (m := m) (hx x hxm)
        simp [wipeE, this]⟩]
    rw [ret_c (!(decide (ds.length = (vs S).length) && ds.all isInt)) (by
      have lk : ((vs S).length : Int) = (vars S (rgI S.length)).length := rfl
      simp [e0, isTup, unK_kt, c1, all_bools]
      by_cases hlv : ds.length = (vs S).length
      · have : (ds.length : Int) = (vs S).length := by omega
        simp [this, hlv]
      · have : ¬ (ds.length : Int) = (vs S).length := by omega
        simp [this, hlv])]
    by_cases hlv : ds.length = (vs S).length ∧ ds.all isInt = true
    · simp only [hlv, decide_true, Bool.and_self, Bool.not_true, Bool.false_eq_true, if_false]
      obtain ⟨r, hr⟩ : ∃ r, rowOf (.tuple ds) = some r := ⟨_, rowL_yes hlv.2⟩
      have ed := rowOf_eq hr
      have sl := q_law_solutions (q := q) (E := E) (m := m) hw hq hS (nd_all hS) (wn := .p (.list ((rgI S.length).map .int))) (.inr rfl) hT.ts hU
      have sl7 := sols_len (q := q) (S := S) (T := T) (N := rgI S.length) hq hS
      unfold C2__law_is_solution
      simp only [q_ret, r_op2, r_var, List.getElem?_cons_succ, List.getElem?_cons_zero, bind_ok]
      rw [lc_map (sols q S T (rgI S.length)) (fun p => .p (rowD p)) (fun p => sd p.1) (gs := []) (by simp [e2, sl, Function.comp_def]) rfl (by omega) fun p hp => ⟨_, by simp [Tg.put, Tg.puts, seqT]; rfl, by simp [wipeE]⟩]
      have oi := (o_inLs (v := r) (L := (sols q S T (rgI S.length)).map (·.1)) (m := m)).1
      rw [List.map_map] at oi
      rw [ed]
      have oi : inM false (.p (sd r)) (.p (.list ((sols q S T (rgI S.length)).map fun p => sd p.1))) m = _ := oi
      simp only [bind_ok, oi, st_ok, retE]
      have : isSol q S T (sd r) = decide (r ∈ (sols q S T (rgI S.length)).map (·.1)) := by
        unfold isSol
        rw [rowOf_sd]
      rw [this]
      exact fin _
    · have h1 : (decide (ds.length = (vs S).length) && ds.all isInt) = false := by
        rw [← Bool.not_eq_true, Bool.and_eq_true, decide_eq_true_eq]
        exact hlv
      simp only [h1, Bool.not_false, if_true, retE]
      have : isSol q S T (.tuple ds) = false := by
        unfold isSol
        cases hr : rowOf (.tuple ds) with
        | none => rfl
        | some r =>
          have ed := rowOf_eq hr
          cases ed
          refine decide_eq_false fun h => hlv ?_
          obtain ⟨p, hp, rfl⟩ := List.mem_map.mp h
          have := (mem_rows.mp (sol_mem hp).1).1
          simp [isInt]
          exact this
      rw [this]
      exact fin false
  | _ =>
    rw [ret_c true (by simp [e0, isTup])]
    exact fin false
end
end Mir.K60

namespace Mir.K60
open PySem PySem.Spec PyProof.Rows L2
inductive Evd : PyData → Prop
  | oth (d : PyData) (h : nd d = true) (h2 : ∀ ds, d ≠ .tuple ds) : Evd d
  | len (ds : List PyData) (h : ds.length ≠ 2 ∧ ds.length ≠ 3) : Evd (.tuple ds)
  | two (h t : PyData) (a : Hd h) (b : isS h "never" = true → Tr t) : Evd (.tuple [h, t])
  | three (h r t : PyData) (a : Hd h) (b : RL r) (c : RL t) (d : ∀ ys, t = .tuple ys → isS h "always" = true → ∀ y ∈ ys, Tr y) : Evd (.tuple [h, r, t])
def others (q : Nat) (val : Int) : List Int := (rgI q).filter fun x => !(x == val)
def valAt (S : List (List Int)) (v : Int) (d : PyData) : Int := match rowOf d with
  | some r => gt0 r (ix (vs S) v)
  | none => 0
def treesOk (q : Nat) (S : List (List Int)) (T : List (List Row)) (v val : Int) : PyData → Bool
  | .tuple ys => decide (ys.length = (others q val).length) && ((others q val).zip ys).all fun p => isTree q S T 7 (only v p.1) p.2
  | _ => false
def acc (q : Nat) (S : List (List Int)) (T : List (List Row)) (v val : Int) : PyData → Bool
  | .tuple [h, t] => isS h "never" && isTree q S T 7 (only v val) t
  | .tuple [h, r, t] => (isS h "always" || isS h "sometimes") && (isSol q S T r && ((valAt S v r == val) && (if isS h "sometimes" = true then isSol q S T t && !(valAt S v t == val) else treesOk q S T v val t)))
  | _ => false
theorem in_hdT {h : PyData} {m : Hm} (a : Hd h) : inM true (.p h) (.p (.tuple [.str "always", .str "sometimes"])) m = .ok (.p (.bool (!(isS h "always" || isS h "sometimes")))) m := by
  cases a <;> rfl
theorem in_hdL {h : PyData} {m : Hm} (a : Hd h) : inM true (.p h) (.p (.list [.str "always", .str "sometimes"])) m = .ok (.p (.bool (!(isS h "always" || isS h "sometimes")))) m := by
  have s1 : SeqAt.shaped h = true := by
    cases a <;> (unfold SeqAt.shaped PyData.canLay0 PyData.depth; first | rfl | decide +kernel)
  have s2 : SeqAt.shaped (.list [.str "always", .str "sometimes"]) = true := by
    unfold SeqAt.shaped
    simp only [PyData.canLay0, PyData.canLayAll0, PyData.depth, PyData.depthAll]
    decide +kernel
  unfold inM
  simp only [rd, s1, s2, Bool.and_self, if_true]
  cases a <;> rfl
theorem not2 {h : PyData} (a : Hd h) : (isS h "never" = true → isS h "always" = false ∧ isS h "sometimes" = false) ∧ (isS h "sometimes" = true → isS h "always" = false) := by
  cases a <;> exact ⟨fun h => by first | (revert h; decide +kernel) | exact absurd h (by unfold isS PyData.eqv; simp), fun h => by first | (revert h; decide +kernel) | exact absurd h (by unfold isS PyData.eqv; simp)⟩
section
variable {q : Nat} {S : List (List Int)} {E : List (Int × Int)} {T : List (List Row)} {m : Hm} {v val : Int}
theorem seq_rt2 {b : EX Bool} {G R : SX} {s : Ev} {m m' : Hm} {w : W} (hb : b s m = .ok true m) (hg : G s m = some (.rt w, m')) : sSeq (sIf b G sSkip) R s m = some (.rt w, m') := by
  simp only [q_seq, q_if, hb, st_ok, if_true, hg]
theorem q_has_value (hS : Sc S) (hw : okM m.length m = true) (hv : v ∈ vs S) {r : List Int} (hr : r.length = (vs S).length) : F_has_value [.p (gD q S E), .p (sd r), .p (.int v), .p (.int val)] m = .ok (.p (.bool (valAt S v (sd r) == val))) m := by
  have e2 := q_variables_of (q := q) (E := E) hw hS
  have e3 := at_gt (r := r) (i := ix (vs S) v) (by rw [hr]; exact ix_lt hv)
  unfold F_has_value mkFn m_has_value
  simp [startE, eTix, e2, o_tix hv, e3, valAt, rowOf_sd]
  exact endFn_p
theorem sol_row {d : PyData} (h : isSol q S T d = true) : ∃ r, d = sd r ∧ r.length = (vs S).length ∧ ∃ p ∈ sols q S T (rgI S.length), p.1 = r := by
  unfold isSol at h
  cases hr : rowOf d with
  | none => rw [hr] at h; cases h
  | some r =>
    rw [hr] at h
    obtain ⟨p, hp, rfl⟩ := List.mem_map.mp (of_decide_eq_true h)
    exact ⟨_, rowOf_eq hr, (mem_rows.mp (sol_mem hp).1).1, p, hp, rfl⟩
theorem left_only : (left S (only v val)).length ≤ (vs S).length := List.length_filter_le _ _
theorem others_len (hq : q ≤ 3) : (others q val).length ≤ 3 := Nat.le_trans (List.length_filter_le _ _) (by simp [rgI]; exact hq)
theorem q_accepts (hq : q ≤ 3) (g : GrOk q S E) (ht : TsOk q S T) (hqn : Qn q S v val) (hw : okM m.length m = true) {d : PyData} (hd : Evd d) : F_accepts_verdict [.p (gD q S E), .p (tsD T), .p (.int v), .p (.int val), .p d] m = .ok (.p (.bool (acc q S T v val d))) m := by
  have hS := g.sc
  have hT := ht.tl
  have hv := hqn.v
  have v6 : (vs S).length ≤ 6 := vars_len hS _
  have lo := fun (x : Int) => Nat.le_trans (left_only (S := S) (v := v) (val := x)) v6
  have fin : ∀ b : Bool, endFn true m.length (.p (.bool b)) m = .ok (.p (.bool b)) m := fun b => endFn_p
  have ck := q_check_question hw g ht hqn
  unfold F_accepts_verdict mkFn m_accepts_verdict
  simp only [startE, List.length_cons, List.length_nil, List.map_cons, List.map_nil, decide_true, if_true, List.cons_append, List.nil_append, List.replicate]
  have st : ∀ R : SX, sSeq (sExpr (eCall 4 F_check_question (aCons (eVar 0) (aCons (eVar 1) (aCons (eVar 2) (aCons (eVar 3) aNil)))))) R [some (W.p (gD q S E)), some (.p (tsD T)), some (.p (.int v)), some (.p (.int val)), some (.p d), none, none, none] m = R [some (W.p (gD q S E)), some (.p (tsD T)), some (.p (.int v)), some (.p (.int val)), some (.p d), none, none, none] m := fun R => by simp [ck]
  rw [st]
  have done : ∀ b : Bool, acc q S T v val d = b → retE true m.length (some (.rt (.p (.bool b)), m)) = .ok (.p (.bool (acc q S T v val d))) m := fun b hb => by rw [hb]; exact fin b
  cases hd with
  | oth _ h h2 =>
    have e0 := ty_tup (m := m) h
    have e1 : isTup d = false := by
      cases d with
      | tuple ds => exact absurd rfl (h2 ds)
      | _ => rfl
    rw [e1] at e0
    rw [ret_c true (by simp [e0])]
    refine done false ?_
    cases d with
    | tuple ds => exact absurd rfl (h2 ds)
    | _ => rfl
  | len ds h =>
    have e0 : isiM "tuple" (.p (.tuple ds)) m = .ok (.p (.bool true)) m := rfl
    have h1 : ¬ (2 ≤ (ds.length : Int) ∧ (ds.length : Int) ≤ 3) := by omega
    rw [ret_c true (by
      simp [e0]
      by_cases h2 : 2 ≤ (ds.length : Int)
      · have : ¬ ((ds.length : Int) ≤ 3) := fun h => h1 ⟨h2, h⟩
        simp [h2, this]
      · simp [h2])]
    refine done false ?_
    match ds, h with
    | [], _ => rfl
    | [_], _ => rfl
    | [_, _], h => exact absurd rfl h.1
    | [_, _, _], h => exact absurd rfl h.2
    | _ :: _ :: _ :: _ :: _, _ => simp [acc]
  | two h t a b =>
    have e0 : isiM "tuple" (.p (.tuple [h, t])) m = .ok (.p (.bool true)) m := rfl
    have e1 := ty_str (m := m) (hd_nd a)
    have e2 := eq_hd (m := m) a .never false
    rw [ret_c (!isStr h) (by simp [e0, e1])]
    cases hn : isS h "never" with
    | false =>
      have : acc q S T v val (.tuple [h, t]) = false := by simp [acc, hn]
      cases isStr h with
      | false => exact done false this
      | true =>
        rw [Bool.not_true, if_neg Bool.false_ne_true, seq_rt (w := .p (.bool false)) (by simp) (by simp [e2, hn])]
        exact done false this
    | true =>
      rw [str_hd a hn, Bool.not_true, if_neg Bool.false_ne_true]
      have dp := o_disp (m := m) (s := [some (W.p (gD q S E)), some (.p (tsD T)), some (.p (.int v)), some (.p (.int val)), some (.p (.tuple [h, t])), none, none, none]) (e1 := eVar 2) (e2 := eVar 3) (v := v) (x := val) (by simp) (by simp)
      have it := q_is_tree (q := q) (E := E) hq hS g.pos hT 7 (b hn) (kn_only (m := m) (v := v) (x := val)) (by omega) (ok_kd hw) (by have := lo val; omega)
      have ac : acc q S T v val (.tuple [h, t]) = isTree q S T 7 (only v val) t := by simp [acc, hn]
      rw [seq_rt2 (w := .p (.bool (isTree q S T 7 (only v val) t))) (m' := m ++ [.dct (kd [(v, val)])]) (by simp) (by
        simp only [q_ret, r_and, r_op2, r_c, r_var, List.getElem?_cons_succ, List.getElem?_cons_zero, bind_ok, o_ixT, atI_0, atI_1, e2, hn, r_call, r_acons, r_anil, dp, it, List.length_cons, List.length_nil]
        rfl)]
      rw [ac]
      exact end_p rfl hw
  | three h r t a b c d =>
    have e0 : isiM "tuple" (.p (.tuple [h, r, t])) m = .ok (.p (.bool true)) m := rfl
    have e1 := ty_str (m := m) (hd_nd a)
    have e2 := in_hdT (m := m) a
    have e3 := eq_hd (m := m) a .some_ false
    have s1 := q_is_solution (E := E) b hq hS hT hw
    have s2 := q_is_solution (E := E) c hq hS hT hw
    rw [ret_c (!isStr h) (by simp [e0, e1])]
    by_cases hh : (isS h "always" || isS h "sometimes") = true
    · have : isStr h = true := by
        rw [Bool.or_eq_true] at hh
        exact hh.elim (str_hd a) (str_hd a)
      rw [this, Bool.not_true, if_neg Bool.false_ne_true, seq_no (by simp)]
      have sz2 : (2 ≤ sizeLine) = True := by simp [sizeLine_eq]
      rw [hh] at e2
      rw [ret_c (!isSol q S T r) (by simp [mkTup, e2, s1, sz2])]
      cases hr : isSol q S T r with
      | false =>
        refine done false ?_
        simp [acc, hr]
      | true =>
        obtain ⟨r', rfl, hrl, _⟩ := sol_row hr
        have hv1 := q_has_value (q := q) (E := E) (val := val) hS hw hv hrl
        rw [Bool.not_true, if_neg Bool.false_ne_true, ret_c (!(valAt S v (sd r') == val)) (by simp [hv1])]
        cases hva : valAt S v (sd r') == val with
        | false =>
          refine done false ?_
          simp [acc, hva]
        | true =>
          rw [Bool.not_true, if_neg Bool.false_ne_true]
          cases hs : isS h "sometimes" with
          | true =>
            have ac : acc q S T v val (.tuple [h, sd r', t]) = (isSol q S T t && !(valAt S v t == val)) := by
              simp only [acc, hr, hva, hs, Bool.or_true, Bool.true_and, if_true]
            rw [seq_rt2 (m' := m) (w := .p (.bool (isSol q S T t && !(valAt S v t == val)))) (by simp [e3, hs]) (by
              cases ht : isSol q S T t with
              | false => simp [s2, ht]
              | true =>
                obtain ⟨t', rfl, htl, _⟩ := sol_row ht
                have hv2 := q_has_value (q := q) (E := E) (val := val) hS hw hv htl
                simp [s2, ht, hv2])]
            exact done _ ac
          | false =>
            have hal : isS h "always" = true := by simpa [hs] using hh
            have ac : acc q S T v val (.tuple [h, sd r', t]) = treesOk q S T v val t := by
              simp only [acc, hr, hva, hs, hal, Bool.true_or, Bool.true_and, Bool.false_eq_true, if_false]
            rw [seq_no (by simp [e3, hs])]
            have ol := others_len (q := q) (val := val) hq
            have c1 : C1_accepts_verdict [some (W.p (gD q S E)), some (.p (tsD T)), some (.p (.int v)), some (.p (.int val)), some (.p (.tuple [h, sd r', t])), none, none, none] m = .ok (.p (.list ((others q val).map .int))) m := by
              unfold C1_accepts_verdict
              rw [lc_data (rgI q) (fun i => .p (.int i)) (fun x => !(x == val)) .int (gs := []) (by
                have := rg_it (n := q) (m := m) (by omega)
                simp at this ⊢
                exact this) rfl (by simp [rgI]; omega) fun x hx => ⟨_, rfl, by simp [wipeE], fun _ => by simp [wipeE]⟩]
              rfl
            have sp : ∀ R : SX, sSeq (sSet 5 C1_accepts_verdict) R [some (W.p (gD q S E)), some (.p (tsD T)), some (.p (.int v)), some (.p (.int val)), some (.p (.tuple [h, sd r', t])), none, none, none] m = R [some (W.p (gD q S E)), some (.p (tsD T)), some (.p (.int v)), some (.p (.int val)), some (.p (.tuple [h, sd r', t])), some (.p (.list ((others q val).map .int))), none, none] m := fun R => by simp [c1]
            rw [sp]
            have ey2 := ty_tup (m := m) c.nd
            cases t with
            | tuple ys =>
              rw [ret_c (!decide (ys.length = (others q val).length)) (by
                simp [ey2, isTup]
                rw [Bool.eq_iff_iff]
                simp
                omega)]
              by_cases hy : ys.length = (others q val).length
              · rw [decide_eq_true hy, Bool.not_true, if_neg Bool.false_ne_true]
                obtain ⟨e', l1, l2⟩ := lc_grow (src := iZpM (eVar 5) (eOp2 idxM (eVar 4) (eC (.int 2)))) (t := .t [(.n 6), (.n 7)]) (f := eCall 4 (F_is_tree 7) (aCons (eVar 0) (aCons (eVar 1) (aCons (eDisp [((eVar 2), (eVar 6))]) (aCons (eVar 7) aNil))))) (vs := [6, 7]) (s := [some (W.p (gD q S E)), some (.p (tsD T)), some (.p (.int v)), some (.p (.int val)), some (.p (.tuple [h, sd r', .tuple ys])), some (.p (.list ((others q val).map .int))), none, none]) (m := m)
                  ((others q val).zip ys) (fun p => .p (.tuple [.int p.1, p.2])) (fun p => .bool (isTree q S T 7 (only v p.1) p.2)) (by
                    have := zipped_map PyData.int id (others q val) ys
                    simp only [List.map_map, List.map_id] at this
                    simp [iZpM, zipRM, isL, this]) (by rw [List.length_zip]; omega) hw (fun p hpm e' hw' => by
                      refine ⟨_, by simp [Tg.put, Tg.puts, seqT]; rfl, ?_⟩
                      have dp := fun s2 h1 h2 => o_disp (m := m ++ e') (s := s2) (e1 := eVar 2) (e2 := eVar 6) (v := v) (x := p.1) h1 h2
                      have w3 := ok_kd (kn := [(v, p.1)]) hw'
                      have it := q_is_tree (q := q) (E := E) hq hS g.pos hT 7 (d ys rfl hal p.2 (List.of_mem_zip hpm).2) (kn_only (m := m ++ e') (v := v) (x := p.1)) (by omega) w3 (by have := lo p.1; omega)
                      refine ⟨[.dct (kd [(v, p.1)])], ?_, w3⟩
                      simp only [wipeE, r_call, r_acons, r_anil, r_var, List.foldl_cons, List.foldl_nil, List.set_cons_succ, List.set_cons_zero, List.getElem?_cons_succ, List.getElem?_cons_zero, bind_ok]
                      rw [dp _ (by simp) (by simp)]
                      simp only [bind_ok, List.length_cons, List.length_nil, decide_true, if_true, it])
                have l1 : C2_accepts_verdict [some (W.p (gD q S E)), some (.p (tsD T)), some (.p (.int v)), some (.p (.int val)), some (.p (.tuple [h, sd r', .tuple ys])), some (.p (.list ((others q val).map .int))), none, none] m = _ := l1
                simp only [q_ret, r_cb, r_acons, r_anil, l1, bind_ok, all_bools, st_ok, retE]
                have : treesOk q S T v val (.tuple ys) = ((others q val).zip ys).all fun p => isTree q S T 7 (only v p.1) p.2 := by simp [treesOk, hy]
                rw [ac, this]
                exact end_p rfl hw
              · rw [decide_eq_false hy, Bool.not_false, if_pos rfl]
                refine done false ?_
                rw [ac]
                simp [treesOk, hy]
            | _ =>
              rw [ret_c true (by simp [ey2, isTup]), if_pos rfl]
              refine done false ?_
              rw [ac]
              rfl
    · have hh := Bool.eq_false_iff.mpr hh
      have ac : acc q S T v val (.tuple [h, r, t]) = false := by simp only [acc, hh, Bool.false_and]
      cases isStr h with
      | false => exact done false ac
      | true =>
        have sz2 : (2 ≤ sizeLine) = True := by simp [sizeLine_eq]
        rw [hh] at e2
        rw [Bool.not_true, if_neg Bool.false_ne_true, seq_no (by simp), ret_c true (by simp [mkTup, e2, sz2]), if_pos rfl]
        exact done false ac
theorem q_law_accepted (hq : q ≤ 3) (g : GrOk q S E) (ht : TsOk q S T) (hqn : Qn q S v val) (hw : okM m.length m = true) {d : PyData} (hd : Evd d) : F__law_accepted [.p (gD q S E), .p (tsD T), .p (.int v), .p (.int val), .p d] m = .ok (.p (.bool (acc q S T v val d))) m := by
  have hS := g.sc
  have hT := ht.tl
  have hU := ht.uq
  have hv := hqn.v
  have v6 : (vs S).length ≤ 6 := vars_len hS _
  have lo := fun (x : Int) => Nat.le_trans (left_only (S := S) (v := v) (val := x)) v6
  have fin : ∀ b : Bool, endFn true m.length (.p (.bool b)) m = .ok (.p (.bool b)) m := fun b => endFn_p
  have sz2 : (2 ≤ sizeLine) = True := by simp [sizeLine_eq]
  have done : ∀ b : Bool, acc q S T v val d = b → retE true m.length (some (.rt (.p (.bool b)), m)) = .ok (.p (.bool (acc q S T v val d))) m := fun b hb => by rw [hb]; exact fin b
  have in23 : ∀ n : Nat, inM true (.p (.int n)) (.p (.list [.int 2, .int 3])) m = .ok (.p (.bool (!(decide (n = 2) || decide (n = 3))))) m := fun n => by
    unfold inM
    have s1 : SeqAt.shaped (.int n) = true := rfl
    have s2 : SeqAt.shaped (.list [.int 2, .int 3]) = true := by
      unfold SeqAt.shaped
      simp only [PyData.canLay0, PyData.canLayAll0, PyData.depth, PyData.depthAll]
      decide +kernel
    simp only [rd, s1, s2, Bool.and_self, if_true]
    have : (List.any [PyData.int 2, .int 3] fun z => PyData.eqv z (.int n)) = (decide (n = 2) || decide (n = 3)) := by
      have e2 : PyData.eqv (.int 2) (.int n) = decide (n = 2) := by
        unfold PyData.eqv
        rw [Bool.eq_iff_iff]
        simp
        omega
      have e3 : PyData.eqv (.int 3) (.int n) = decide (n = 3) := by
        unfold PyData.eqv
        rw [Bool.eq_iff_iff]
        simp
        omega
      simp [e2, e3]
    rw [this]
  unfold F__law_accepted mkFn m__law_accepted
  simp only [startE, List.length_cons, List.length_nil, List.map_cons, List.map_nil, decide_true, if_true, List.cons_append, List.nil_append, List.replicate]
  cases hd with
  | oth _ h h2 =>
    have e0 := ty_tup (m := m) h
    have e1 : isTup d = false := by
      cases d with
      | tuple ds => exact absurd rfl (h2 ds)
      | _ => rfl
    rw [e1] at e0
    rw [ret_c true (by simp [e0])]
    refine done false ?_
    cases d with
    | tuple ds => exact absurd rfl (h2 ds)
    | _ => rfl
  | len ds h =>
    have e0 : isiM "tuple" (.p (.tuple ds)) m = .ok (.p (.bool true)) m := rfl
    have e1 := in23 ds.length
    rw [decide_eq_false h.1, decide_eq_false h.2] at e1
    rw [ret_c true (by simp [e0, sz2, e1])]
    refine done false ?_
    match ds, h with
    | [], _ => rfl
    | [_], _ => rfl
    | [_, _], h => exact absurd rfl h.1
    | [_, _, _], h => exact absurd rfl h.2
    | _ :: _ :: _ :: _ :: _, _ => simp [acc]
  | two h t a b =>
    have e0 : isiM "tuple" (.p (.tuple [h, t])) m = .ok (.p (.bool true)) m := rfl
    have e1 := in23 2
    have e2 := eq_hd (m := m) a .never false
    rw [ret_c false (by
      have e1 : inM true (.p (.int 2)) (.p (.list [.int 2, .int 3])) m = _ := e1
      simp [e0, sz2, e1]), if_neg Bool.false_ne_true]
    cases hn : isS h "never" with
    | false =>
      rw [seq_rt (w := .p (.bool false)) (by simp) (by simp [e2, hn])]
      exact done false (by simp [acc, hn])
    | true =>
      have dp := o_disp (m := m) (s := [some (W.p (gD q S E)), some (.p (tsD T)), some (.p (.int v)), some (.p (.int val)), some (.p (.tuple [h, t])), none, none, none, none]) (e1 := eVar 2) (e2 := eVar 3) (v := v) (x := val) (by simp) (by simp)
      have it := q_law_is_tree (q := q) (E := E) hq hS hT 7 (b hn) (kn_only (m := m) (v := v) (x := val)) (by omega) (ok_kd hw) (by have := lo val; omega)
      have ac : acc q S T v val (.tuple [h, t]) = isTree q S T 7 (only v val) t := by simp [acc, hn]
      rw [seq_rt2 (w := .p (.bool (isTree q S T 7 (only v val) t))) (m' := m ++ [.dct (kd [(v, val)])]) (by simp) (by
        simp only [q_ret, r_and, r_op2, r_c, r_var, List.getElem?_cons_succ, List.getElem?_cons_zero, bind_ok, o_ixT, atI_0, atI_1, e2, hn, r_call, r_acons, r_anil, dp, it, List.length_cons, List.length_nil]
        rfl)]
      rw [ac]
      exact end_p rfl hw
  | three h r t a b c d =>
    have e0 : isiM "tuple" (.p (.tuple [h, r, t])) m = .ok (.p (.bool true)) m := rfl
    have e1 := in23 3
    have e2 := in_hdL (m := m) a
    have e3 := eq_hd (m := m) a .some_ false
    have s1 := q_law_is_solution (E := E) b hq hS hT hU hw
    have s2 := q_law_is_solution (E := E) c hq hS hT hU hw
    obtain ⟨l1, l2⟩ := q_law_every_vs (q := q) (E := E) hw hS
    rw [ret_c false (by
      have e1 : inM true (.p (.int 3)) (.p (.list [.int 2, .int 3])) m = _ := e1
      simp [e0, sz2, e1]), if_neg Bool.false_ne_true, seq_no (by simp)]
    have sp : ∀ R : SX, sSeq (sSet 5 (eTix (eCall 2 F__law_variables (aCons (eVar 0) (aCons (eCall 1 F__law_every (aCons (eVar 0) aNil)) aNil))) (eVar 2))) R [some (W.p (gD q S E)), some (.p (tsD T)), some (.p (.int v)), some (.p (.int val)), some (.p (.tuple [h, r, t])), none, none, none, none] m = R [some (W.p (gD q S E)), some (.p (tsD T)), some (.p (.int v)), some (.p (.int val)), some (.p (.tuple [h, r, t])), some (.p (.int (ix (vs S) v : Nat))), none, none, none] m := fun R => by simp [l1, l2, eTix, o_tix hv]
    rw [sp]
    by_cases hh : (isS h "always" || isS h "sometimes") = true
    · rw [hh] at e2
      rw [ret_c (!(isSol q S T r && valAt S v r == val)) (by
        cases hr : isSol q S T r with
        | false => simp [e2, s1, sz2, hr]
        | true =>
          obtain ⟨r', rfl, hrl, _⟩ := sol_row hr
          have e3 := at_gt (r := r') (i := ix (vs S) v) (by rw [hrl]; exact ix_lt hv)
          simp [e2, s1, sz2, hr, e3, valAt, rowOf_sd])]
      cases hr : isSol q S T r && valAt S v r == val with
      | false =>
        refine done false ?_
        have : ∀ k : Bool, (isSol q S T r && ((valAt S v r == val) && k)) = false := fun k => by rw [← Bool.and_assoc, hr, Bool.false_and]
        simp only [acc, this, Bool.and_false]
      | true =>
        have hr2 := hr
        rw [Bool.and_eq_true] at hr2
        rw [Bool.not_true, if_neg Bool.false_ne_true]
        cases hs : isS h "sometimes" with
        | true =>
          have ac : acc q S T v val (.tuple [h, r, t]) = (isSol q S T t && !(valAt S v t == val)) := by
            simp only [acc, hr2.1, hr2.2, hs, Bool.or_true, Bool.true_and, if_true]
          rw [seq_rt2 (m' := m) (w := .p (.bool (isSol q S T t && !(valAt S v t == val)))) (by simp [e3, hs]) (by
            cases ht : isSol q S T t with
            | false => simp [s2, ht]
            | true =>
              obtain ⟨t', rfl, htl, _⟩ := sol_row ht
              have e3 := at_gt (r := t') (i := ix (vs S) v) (by rw [htl]; exact ix_lt hv)
              simp [s2, ht, e3, valAt, rowOf_sd])]
          exact done _ ac
        | false =>
          have hal : isS h "always" = true := by simpa [hs] using hh
          have ac : acc q S T v val (.tuple [h, r, t]) = treesOk q S T v val t := by
            simp only [acc, hr2.1, hr2.2, hs, hal, Bool.true_or, Bool.true_and, Bool.false_eq_true, if_false]
          rw [seq_no (by simp [e3, hs])]
          have ol := others_len (q := q) (val := val) hq
          have c1 : C1__law_accepted [some (W.p (gD q S E)), some (.p (tsD T)), some (.p (.int v)), some (.p (.int val)), some (.p (.tuple [h, r, t])), some (.p (.int (ix (vs S) v : Nat))), none, none, none] m = .ok (.p (.list ((others q val).map .int))) m := by
            unfold C1__law_accepted
            rw [lc_data (rgI q) (fun i => .p (.int i)) (fun x => !(x == val)) .int (gs := []) (by
              have := rg_it (n := q) (m := m) (by omega)
              simp at this ⊢
              exact this) rfl (by simp [rgI]; omega) fun x hx => ⟨_, rfl, by simp [wipeE], fun _ => by simp [wipeE]⟩]
            rfl
          have sp : ∀ R : SX, sSeq (sSet 6 C1__law_accepted) R [some (W.p (gD q S E)), some (.p (tsD T)), some (.p (.int v)), some (.p (.int val)), some (.p (.tuple [h, r, t])), some (.p (.int (ix (vs S) v : Nat))), none, none, none] m = R [some (W.p (gD q S E)), some (.p (tsD T)), some (.p (.int v)), some (.p (.int val)), some (.p (.tuple [h, r, t])), some (.p (.int (ix (vs S) v : Nat))), some (.p (.list ((others q val).map .int))), none, none] m := fun R => by simp [c1]
          rw [sp]
          have ey2 := ty_tup (m := m) c.nd
          cases t with
          | tuple ys =>
            rw [ret_c (!decide (ys.length = (others q val).length)) (by
              simp [ey2, isTup]
              rw [Bool.eq_iff_iff]
              simp
              omega)]
            by_cases hy : ys.length = (others q val).length
            · rw [decide_eq_true hy, Bool.not_true, if_neg Bool.false_ne_true]
              obtain ⟨e', l1, l2⟩ := lc_grow (src := iRg1 (eCB lenM (aCons (eVar 6) aNil))) (t := .n 8) (f := eCall 4 (F__law_is_tree 7) (aCons (eVar 0) (aCons (eVar 1) (aCons (eDisp [((eVar 2), (eOp2 idxM (eVar 6) (eVar 8)))]) (aCons (eOp2 idxM (eOp2 idxM (eVar 4) (eC (.int 2))) (eVar 8)) aNil))))) (vs := [8]) (s := [some (W.p (gD q S E)), some (.p (tsD T)), some (.p (.int v)), some (.p (.int val)), some (.p (.tuple [h, r, .tuple ys])), some (.p (.int (ix (vs S) v : Nat))), some (.p (.list ((others q val).map .int))), none, none]) (m := m)
                (rgI (others q val).length) (fun k => .p (.int k)) (fun k => .bool (isTree q S T 7 (only v (at0 (others q val) k)) ((atI ys k).getD .none))) (by
                  have := rg_it (n := (others q val).length) (m := m) (by omega)
                  simp at this ⊢
                  exact this) (by simp [rgI]; omega) hw (fun k hk e' hw' => by
                    refine ⟨_, rfl, ?_⟩
                    have a1 := at0_ok (l := others q val) hk
                    rw [← hy] at hk
                    obtain ⟨t, htm, et⟩ := atI_rg hk
                    have dp := fun s2 h1 h2 => o_disp (m := m ++ e') (s := s2) (e1 := eVar 2) (e2 := eOp2 idxM (eVar 6) (eVar 8)) (v := v) (x := at0 (others q val) k) h1 h2
                    have w3 := ok_kd (kn := [(v, at0 (others q val) k)]) hw'
                    have it := q_law_is_tree (q := q) (E := E) hq hS hT 7 (d ys rfl hal t htm) (kn_only (m := m ++ e') (v := v) (x := at0 (others q val) k)) (by omega) w3 (by have := lo (at0 (others q val) k); omega)
                    refine ⟨[.dct (kd [(v, at0 (others q val) k)])], ?_, w3⟩
                    simp only [wipeE, r_call, r_acons, r_anil, r_var, List.foldl_cons, List.foldl_nil, List.set_cons_succ, List.set_cons_zero, List.getElem?_cons_succ, List.getElem?_cons_zero, bind_ok]
                    rw [dp _ (by simp) (by simp [a1])]
                    simp only [bind_ok, r_op2, r_var, r_c, List.getElem?_cons_succ, List.getElem?_cons_zero, o_ixT, atI_2, et, List.length_cons, List.length_nil, decide_true, if_true, it, Option.getD_some])
              have l1 : C2__law_accepted [some (W.p (gD q S E)), some (.p (tsD T)), some (.p (.int v)), some (.p (.int val)), some (.p (.tuple [h, r, .tuple ys])), some (.p (.int (ix (vs S) v : Nat))), some (.p (.list ((others q val).map .int))), none, none] m = _ := l1
              simp only [q_ret, r_cb, r_acons, r_anil, l1, bind_ok, all_bools, st_ok, retE]
              have : treesOk q S T v val (.tuple ys) = (rgI (others q val).length).all fun k => isTree q S T 7 (only v (at0 (others q val) k)) ((atI ys k).getD .none) := by
                have h0 : treesOk q S T v val (.tuple ys) = ((others q val).zip ys).all fun p => isTree q S T 7 (only v p.1) p.2 := by simp [treesOk, hy]
                rw [h0]
                have hz : (others q val).zip ys = (rgI (others q val).length).map fun k => (at0 (others q val) k, (atI ys k).getD .none) := by
                  refine List.ext_getElem (by simp [rgI, hy]) fun i h1 h2 => ?_
                  rw [List.length_zip] at h1
                  have hi : i < ys.length := by omega
                  have hi2 : i < (others q val).length := by omega
                  have e9 : atI ys (i : Int) = some ys[i] := by rw [atI_lit, List.getElem?_eq_getElem hi]
                  simp [rgI, e9, at0, hi2]
                rw [hz, List.all_map]
                rfl
              rw [ac, this]
              exact end_p rfl hw
            · rw [decide_eq_false hy, Bool.not_false, if_pos rfl]
              refine done false ?_
              rw [ac]
              simp [treesOk, hy]
          | _ =>
            rw [ret_c true (by simp [ey2, isTup]), if_pos rfl]
            refine done false ?_
            rw [ac]
            rfl
    · have hh := Bool.eq_false_iff.mpr hh
      have ac : acc q S T v val (.tuple [h, r, t]) = false := by simp only [acc, hh, Bool.false_and]
      rw [hh] at e2
      rw [ret_c true (by simp [e2, sz2]), if_pos rfl]
      exact done false ac
end
end Mir.K60

namespace Mir.K60
open PySem PySem.Spec PyProof.Rows L2
theorem lc_growF {α : Type} {src : IX} {t : Tg} {g : EX Bool} {f : EX W} {vs : List Nat} {s : Ev} {m : Hm} (xs : List α) (e : α → W) (p : α → Bool) (h : α → PyData) (hs : src s m = .ok ⟨xs.map e, []⟩ m) (hz : xs.length ≤ 16777216) (hw : okM m.length m = true)
    (hb : ∀ x ∈ xs, ∀ e', okM (m ++ e').length (m ++ e') = true → ∃ s1, t.put (e x) (wipeE s vs) = some s1 ∧ g s1 (m ++ e') = .ok (p x) (m ++ e') ∧ (p x = true → ∃ e'', f s1 (m ++ e') = .ok (.p (h x)) (m ++ e' ++ e'') ∧ okM (m ++ e' ++ e'').length (m ++ e' ++ e'') = true)) :
    ∃ e', eLc lcFin src t g f vs s m = .ok (.p (.list ((xs.filter p).map h))) (m ++ e') ∧ okM (m ++ e').length (m ++ e') = true := by
  obtain ⟨ds, m', e1, e', rfl, rfl, hw'⟩ := lc_ex (src := src) (gs := []) (t := t) (g := g) (f := f) (vs := vs) (s := s) (m := m) (m0 := m) xs e (fun pre ds m' => ∃ e', m' = m ++ e' ∧ ds = (pre.filter p).map h ∧ okM m'.length m' = true) hs hz (fun _ _ _ _ => rfl) (by
    rintro pre x post ds m' hx ⟨e', rfl, rfl, hw'⟩
    obtain ⟨s1, h1, h2, h3⟩ := hb x (by rw [hx]; simp) e' hw'
    refine ⟨s1, h1, p x, _, h2, fun hp => ?_, fun hp => ⟨e', rfl, by simp [hp], hw'⟩⟩
    obtain ⟨e'', h4, h5⟩ := h3 hp
    exact ⟨h x, _, h4, e' ++ e'', by simp, by simp [hp], h5⟩) ⟨[], by simp, rfl, hw⟩
  exact ⟨e', e1, hw'⟩
def wins (q : Nat) (S : List (List Int)) (T : List (List Row)) (v val : Int) : List Row := (sols q S T (rgI S.length)).filter fun p => gt0 p.1 (ix (vs S) v) == val
def loses (q : Nat) (S : List (List Int)) (T : List (List Row)) (v val : Int) : List Row := (sols q S T (rgI S.length)).filter fun p => !(gt0 p.1 (ix (vs S) v) == val)
def wordS {α : Type} (own oth : List α) : Str := if own.isEmpty = true then "never" else if oth.isEmpty = true then "always" else "sometimes"
def told (q : Nat) (S : List (List Int)) (T : List (List Row)) (v val : Int) : PyData := match wins q S T v val, loses q S T v val with
  | [], _ => .tuple [.str "never", treeF q S T 7 (only v val)]
  | p :: _, [] => .tuple [.str "always", sd p.1, .tuple ((others q val).map fun x => treeF q S T 7 (only v x))]
  | p :: _, p' :: _ => .tuple [.str "sometimes", sd p.1, sd p'.1]
section
variable {q : Nat} {S : List (List Int)} {E : List (Int × Int)} {T : List (List Row)} {m : Hm} {v val : Int}
theorem q_solutions_of (hw : okM m.length m = true) (hq : q ≤ 3) (hS : Sc S) (hT : Ts S T) : F_solutions_of [.p (gD q S E), .p (tsD T)] m = .ok (.p (.list ((sols q S T (rgI S.length)).map rowD))) m := by
  have hl := hS.len
  have e1 := q_solutions_by (q := q) (E := E) (m := m) hw hq hS (nd_all hS) (wn := .p (.list ((rgI S.length).map .int))) (.inr rfl) hT
  unfold F_solutions_of mkFn m_solutions_of
  simp [startE]
  rw [rg_l (by omega)]
  simp [e1, endFn_p]
theorem q_having (hw : okM m.length m = true) (hq : q ≤ 3) (hS : Sc S) (hT : Ts S T) (hv : v ∈ vs S) : F_having [.p (gD q S E), .p (tsD T), .p (.int v), .p (.int val)] m = .ok (.p (.list ((wins q S T v val).map rowD))) m := by
  have e1 := q_solutions_of (q := q) (E := E) hw hq hS hT
  have e2 := q_variables_of (q := q) (E := E) hw hS
  have sl7 := sols_len (q := q) (S := S) (T := T) (N := rgI S.length) hq hS
  have s2 : (2 ≤ sizeLine) = True := by simp [sizeLine_eq]
  unfold F_having mkFn m_having C1_having
  simp [startE, e2, eTix, o_tix hv]
  rw [lc_data (sols q S T (rgI S.length)) (fun p => .p (rowD p)) (fun p => gt0 p.1 (ix (vs S) v) == val) rowD (gs := []) (by simp [e1, Function.comp_def]) rfl (by omega) fun p hp => ⟨_, by simp [Tg.put, Tg.puts, seqT]; rfl, by
    have h1 := row_len (sols_row hp).1
    have h2 := at_gt (r := p.1) (i := ix (vs S) v) (by rw [h1]; exact ix_lt hv)
    simp [wipeE, h2], fun _ => by simp [wipeE, mkTup, s2]⟩]
  simp
  exact endFn_p
theorem q_told_by (hw : okM m.length m = true) (hq : q ≤ 3) (hS : Sc S) (hT : Ts S T) (hv : v ∈ vs S) : F_told_by [.p (gD q S E), .p (tsD T), .p (.int v), .p (.int val)] m = .ok (.p (.tuple [.list ((wins q S T v val).map fun p => sd p.1), .list ((loses q S T v val).map fun p => sd p.1)])) m := by
  have e1 := q_solutions_of (q := q) (E := E) hw hq hS hT
  have e2 := q_having (q := q) (E := E) (val := val) hw hq hS hT hv
  have sl7 := sols_len (q := q) (S := S) (T := T) (N := rgI S.length) hq hS
  have wl7 : (wins q S T v val).length ≤ 729 := Nat.le_trans (List.length_filter_le _ _) sl7
  have s2 : (2 ≤ sizeLine) = True := by simp [sizeLine_eq]
  unfold F_told_by mkFn m_told_by C1_told_by C2_told_by
  simp only [startE, List.length_cons, List.length_nil, List.map_cons, List.map_nil, decide_true, if_true, List.cons_append, List.nil_append, List.replicate, q_seq, q_set]
  rw [lc_map (wins q S T v val) (fun p => .p (rowD p)) (fun p => sd p.1) (gs := []) (by simp [e2, Function.comp_def]) rfl (by omega) fun p hp => ⟨_, by simp [Tg.put, Tg.puts, seqT]; rfl, by simp [wipeE]⟩]
  simp only [st_ok, List.set_cons_succ, List.set_cons_zero, q_ret, r_tup, r_acons, r_anil, r_var, List.getElem?_cons_succ, List.getElem?_cons_zero, bind_ok]
  rw [lc_data (sols q S T (rgI S.length)) (fun p => .p (rowD p)) (fun p => !(gt0 p.1 (ix (vs S) v) == val)) (fun p => sd p.1) (gs := []) (by simp [e1, Function.comp_def]) rfl (by omega) fun p hp => ⟨_, by simp [Tg.put, Tg.puts, seqT]; rfl, by
    have oi := (o_inLs (v := p.1) (L := (wins q S T v val).map (·.1)) (m := m)).2
    rw [List.map_map] at oi
    have oi : inM true (.p (sd p.1)) (.p (.list ((wins q S T v val).map fun p => sd p.1))) m = _ := oi
    have : decide (p.1 ∈ (wins q S T v val).map (·.1)) = (gt0 p.1 (ix (vs S) v) == val) := by
      rw [Bool.eq_iff_iff, decide_eq_true_eq]
      constructor
      · intro h
        obtain ⟨p', hp', e⟩ := List.mem_map.mp h
        have := (List.mem_filter.mp hp').2
        rw [e] at this
        exact this
      · intro h
        exact List.mem_map.mpr ⟨p, List.mem_filter.mpr ⟨hp, h⟩, rfl⟩
    rw [this] at oi
    simp [wipeE, oi], fun _ => by simp [wipeE]⟩]
  simp only [bind_ok, List.length_cons, List.length_nil]
  simp [mkTup, s2]
  exact endFn_p
theorem q_word_of {xs ys : List PyData} : F_word_of [.p (.list xs), .p (.list ys)] m = .ok (.p (.str (wordS xs ys))) m := by
  unfold F_word_of mkFn m_word_of
  cases xs with
  | nil => simp [startE, wordS, endFn_p]
  | cons x xs =>
    have h1 : ¬ ((xs.length : Int) + 1 = 0) := by omega
    cases ys with
    | nil => simp [startE, wordS, endFn_p, h1]
    | cons y ys =>
      have h2 : ¬ ((ys.length : Int) + 1 = 0) := by omega
      simp [startE, wordS, endFn_p, h1, h2]
theorem word_map {α : Type} {own oth : List α} (f g : α → PyData) : wordS (own.map f) (oth.map g) = wordS own oth := by simp [wordS]
theorem q_verdict (hw : okM m.length m = true) (hq : q ≤ 3) (g : GrOk q S E) (ht : TsOk q S T) (hqn : Qn q S v val) : F_verdict [.p (gD q S E), .p (tsD T), .p (.int v), .p (.int val)] m = .ok (.p (.str (wordS (wins q S T v val) (loses q S T v val)))) m := by
  have e1 := q_told_by (q := q) (E := E) (val := val) hw hq g.sc ht.ts hqn.v
  have ck := q_check_question hw g ht hqn
  unfold F_verdict mkFn m_verdict
  simp [startE, ck, e1, Tg.put, Tg.puts, seqT, q_word_of]
  have := word_map (own := wins q S T v val) (oth := loses q S T v val) (fun p => sd p.1) (fun p => sd p.1)
  rw [this]
  exact endFn_p
theorem ns_win (hv : v ∈ vs S) (h : wins q S T v val = []) : NoSol q S T (only v val) := fun p hp ha => by
  have h1 := ha v hv val (by simp [only])
  have := List.filter_eq_nil_iff.mp h p hp
  exact this (by simpa [vl] using h1)
theorem ns_lose (hv : v ∈ vs S) (h : loses q S T v val = []) {x : Int} (hx : x ≠ val) : NoSol q S T (only v x) := fun p hp ha => by
  have h1 := ha v hv x (by simp [only])
  have := List.filter_eq_nil_iff.mp h p hp
  simp at this
  exact hx (h1.symm.trans this)
theorem rng_only {x : Int} (hx : 0 ≤ x ∧ x < q) : Rng q (only v x) := fun y z hz => by
  unfold only at hz
  split at hz
  · cases hz; exact hx
  · cases hz
theorem mem_others {x : Int} : x ∈ others q val ↔ (0 ≤ x ∧ x < q) ∧ x ≠ val := by
  unfold others
  rw [List.mem_filter, mem_rgI]
  simp
theorem q_verdict_evidence (hw : okM m.length m = true) (hq : q ≤ 3) (g : GrOk q S E) (ht : TsOk q S T) (hqn : Qn q S v val) : F_verdict_evidence [.p (gD q S E), .p (tsD T), .p (.int v), .p (.int val)] m = .ok (.p (told q S T v val)) m := by
  have hS := g.sc
  have hT := ht.tl
  have hv := hqn.v
  have v6 : (vs S).length ≤ 6 := vars_len hS _
  have lo := fun (x : Int) => Nat.le_trans (left_only (S := S) (v := v) (val := x)) v6
  have e1 := q_told_by (q := q) (E := E) (val := val) hw hq g.sc ht.ts hqn.v
  have ck := q_check_question hw g ht hqn
  have s2 : (2 ≤ sizeLine) = True := by simp [sizeLine_eq]
  have s3 : (3 ≤ sizeLine) = True := by simp [sizeLine_eq]
  unfold F_verdict_evidence mkFn m_verdict_evidence
  simp only [startE, List.length_cons, List.length_nil, List.map_cons, List.map_nil, decide_true, if_true, List.cons_append, List.nil_append, List.replicate]
  have sp : ∀ R : SX, (sSeq (sExpr (eCall 4 F_check_question (aCons (eVar 0) (aCons (eVar 1) (aCons (eVar 2) (aCons (eVar 3) aNil)))))) (sSeq (sPut (.t [(.n 4), (.n 5)]) (eCall 4 F_told_by (aCons (eVar 0) (aCons (eVar 1) (aCons (eVar 2) (aCons (eVar 3) aNil)))))) (sSeq (sSet 6 (eCall 2 F_word_of (aCons (eVar 4) (aCons (eVar 5) aNil)))) R))) [some (W.p (gD q S E)), some (.p (tsD T)), some (.p (.int v)), some (.p (.int val)), none, none, none, none, none] m =
    R [some (W.p (gD q S E)), some (.p (tsD T)), some (.p (.int v)), some (.p (.int val)), some (.p (.list ((wins q S T v val).map fun p => sd p.1))), some (.p (.list ((loses q S T v val).map fun p => sd p.1))), some (.p (.str (wordS (wins q S T v val) (loses q S T v val)))), none, none] m := fun R => by
      have := word_map (own := wins q S T v val) (oth := loses q S T v val) (fun p => sd p.1) (fun p => sd p.1)
      simp [ck, e1, Tg.put, Tg.puts, seqT, q_word_of, this]
  rw [sp]
  unfold told
  cases hwn : wins q S T v val with
  | nil =>
    have w1 : eqM false (.p (.str "never")) (.p (.str "sometimes")) m = .ok (.p (.bool false)) m := eq_hd .never .some_ false
    have w2 : eqM false (.p (.str "never")) (.p (.str "never")) m = .ok (.p (.bool true)) m := eq_hd .never .never false
    have hws : wordS ([] : List Row) (loses q S T v val) = "never" := rfl
    rw [hws, seq_no (by simp [w1])]
    have dp := o_disp (m := m) (s := [some (W.p (gD q S E)), some (.p (tsD T)), some (.p (.int v)), some (.p (.int val)), some (.p (.list (([] : List Row).map fun p => sd p.1))), some (.p (.list ((loses q S T v val).map fun p => sd p.1))), some (.p (.str "never")), none, none]) (e1 := eVar 2) (e2 := eVar 3) (v := v) (x := val) (by simp) (by simp)
    have it := q_tree_for (q := q) (E := E) hq hS hT 7 (kn_only (m := m) (v := v) (x := val)) (by omega) (ok_kd hw) (by have := lo val; omega) (ns_win hv hwn) (rng_only ⟨hqn.lo, hqn.hi⟩)
    rw [seq_rt2 (w := .p (.tuple [.str "never", treeF q S T 7 (only v val)])) (m' := m ++ [.dct (kd [(v, val)])]) (by simp [w2]) (by
      simp only [q_ret, r_tup, r_call, r_acons, r_anil, r_var, List.getElem?_cons_succ, List.getElem?_cons_zero, bind_ok, dp, it, List.length_cons, List.length_nil, decide_true, if_true]
      simp [mkTup, s2])]
    exact end_p rfl hw
  | cons p rest =>
    have hps : p ∈ sols q S T (rgI S.length) := (List.mem_filter.mp (by rw [wins] at hwn; rw [hwn]; exact List.mem_cons_self)).1
    cases hls : loses q S T v val with
    | nil =>
      have w1 : eqM false (.p (.str "always")) (.p (.str "sometimes")) m = .ok (.p (.bool false)) m := eq_hd .always .some_ false
      have w2 : eqM false (.p (.str "always")) (.p (.str "never")) m = .ok (.p (.bool false)) m := eq_hd .always .never false
      have hws : wordS (p :: rest) ([] : List Row) = "always" := rfl
      rw [hws, seq_no (by simp [w1]), seq_no (by simp [w2])]
      obtain ⟨e', l1, l2⟩ := lc_growF (src := iRg1 (eOp2 idxM (eVar 0) (eC (.int 0)))) (t := .n 8) (g := bVal (eOp2 (eqM true) (eVar 8) (eVar 3))) (f := eCall 3 (F_tree_for 7) (aCons (eVar 0) (aCons (eVar 1) (aCons (eDisp [((eVar 2), (eVar 8))]) aNil)))) (vs := [8]) (s := [some (W.p (gD q S E)), some (.p (tsD T)), some (.p (.int v)), some (.p (.int val)), some (.p (.list ((p :: rest).map fun p => sd p.1))), some (.p (.list (([] : List Row).map fun p => sd p.1))), some (.p (.str "always")), none, none]) (m := m)
        (rgI q) (fun i => .p (.int i)) (fun x => !(x == val)) (fun x => treeF q S T 7 (only v x)) (by
          have := rg_it (n := q) (m := m) (by omega)
          simp at this ⊢
          exact this) (by simp [rgI]; omega) hw (fun x hx e' hw' => by
            refine ⟨_, rfl, by simp [wipeE], fun hne => ?_⟩
            have hne : x ≠ val := by simpa using hne
            have dp := fun s2 h1 h2 => o_disp (m := m ++ e') (s := s2) (e1 := eVar 2) (e2 := eVar 8) (v := v) (x := x) h1 h2
            have w3 := ok_kd (kn := [(v, x)]) hw'
            have it := q_tree_for (q := q) (E := E) hq hS hT 7 (kn_only (m := m ++ e') (v := v) (x := x)) (by omega) w3 (by have := lo x; omega) (ns_lose hv hls hne) (rng_only (mem_rgI.mp hx))
            refine ⟨[.dct (kd [(v, x)])], ?_, w3⟩
            simp only [wipeE, r_call, r_acons, r_anil, r_var, List.foldl_cons, List.foldl_nil, List.set_cons_succ, List.set_cons_zero, List.getElem?_cons_succ, List.getElem?_cons_zero, bind_ok]
            rw [dp _ (by simp) (by simp)]
            simp only [bind_ok, List.length_cons, List.length_nil, decide_true, if_true, it])
      have l1 : C1_verdict_evidence [some (W.p (gD q S E)), some (.p (tsD T)), some (.p (.int v)), some (.p (.int val)), some (.p (.list ((p :: rest).map fun p => sd p.1))), some (.p (.list (([] : List Row).map fun p => sd p.1))), some (.p (.str "always")), none, none] m = _ := l1
      simp only [q_seq, q_set, l1, st_ok, List.set_cons_succ, List.set_cons_zero, q_ret, r_tup, r_acons, r_anil, r_var, r_op2, r_c, r_cb, List.getElem?_cons_succ, List.getElem?_cons_zero, bind_ok, o_tupL, o_ixL]
      simp only [List.map_cons, atI_0, List.getElem?_cons_zero, bind_ok, List.length_cons, List.length_nil, show (0 + 1 + 1 + 1 ≤ sizeLine) = True from by simp [sizeLine_eq], if_true, st_ok, retE]
      exact end_p rfl hw
    | cons p' rest' =>
      have w1 : eqM false (.p (.str "sometimes")) (.p (.str "sometimes")) m = .ok (.p (.bool true)) m := eq_hd .some_ .some_ false
      have hws : wordS (p :: rest) (p' :: rest') = "sometimes" := rfl
      rw [hws, seq_rt (w := .p (.tuple [.str "sometimes", sd p.1, sd p'.1])) (by simp [w1]) (by simp [mkTup, s3])]
      exact endFn_p
end
end Mir.K60

namespace Mir.K60
open PySem PySem.Spec PyProof.Rows L2
/-! ### plain: trees show that nothing is left; what is told is accepted; what is accepted tells the word -/
theorem isS_eq {h : PyData} {t : Str} (a : Hd h) (e : isS h t = true) : h = .str t := by
  cases a <;> simp [isS, PyData.eqv] at e <;> rw [e]
theorem isS_self (t : Str) : isS (.str t) t = true := by simp [isS, PyData.eqv]
section
variable {q : Nat} {S : List (List Int)} {E : List (Int × Int)} {T : List (List Row)} {v val : Int}
theorem tree_sound (hS : Sc S) : ∀ (n : Nat) (f : Fn) (d : PyData), isTree q S T n f d = true → NoSol q S T f
  | 0, _, _, h => by simp [isTree] at h
  | n + 1, f, d, h => by
    cases d with
    | tuple ds =>
      have main : ∀ {h0 : PyData} {x : Int} {ys : List PyData}, isTree q S T (n + 1) f (.tuple [h0, .int x, .tuple ys]) = true → NoSol q S T f := by
        intro h0 x ys h
        simp only [isTree, Bool.and_eq_true, decide_eq_true_eq] at h
        obtain ⟨_, hx, hy, ha⟩ := h
        intro p hp hag
        obtain ⟨hr, _⟩ := sol_mem hp
        have hxv := (mem_left.mp hx).1
        have rg := vl_rng hr hxv
        have hi : (vl (vs S) p.1 x).toNat < q := by omega
        have hmem : (vl (vs S) p.1 x, ys[(vl (vs S) p.1 x).toNat]'(by omega)) ∈ (rgI q).zip ys := by
          refine List.mem_iff_getElem.mpr ⟨(vl (vs S) p.1 x).toNat, by simp [rgI]; omega, ?_⟩
          simp [rgI]
          omega
        have := tree_sound hS n _ _ (List.all_eq_true.mp ha _ hmem)
        refine this p hp fun y hy z hz => ?_
        unfold upd1 at hz
        split at hz
        · rename_i e
          subst e
          exact Option.some.inj hz
        · exact hag y hy z hz
      match ds, h with
      | [h0, x], h =>
        simp only [isTree, Bool.and_eq_true] at h
        cases x with
        | int k =>
          have h2 := h.2
          simp only [nodeR, Bool.and_eq_true, decide_eq_true_eq] at h2
          exact rej_sol hS (mem_rgI.mpr ⟨h2.1, h2.2.1⟩) h2.2.2
        | _ => cases h.2
      | [], h => simp [isTree] at h
      | [_], h => simp [isTree] at h
      | [_, x, y], h =>
        cases x with
        | int k =>
          cases y with
          | tuple ys => exact main h
          | _ => simp [isTree] at h
        | _ => simp [isTree] at h
      | _ :: _ :: _ :: _ :: _, h => simp [isTree] at h
    | _ => simp [isTree] at h
theorem tree_complete (hS : Sc S) (hT : TL' S T) : ∀ (n : Nat) (f : Fn), (left S f).length < n → NoSol q S T f → Rng q f → isTree q S T n f (treeF q S T n f) = true
  | 0, _, h, _, _ => by omega
  | n + 1, f, hl, hns, hr => by
    unfold treeF
    cases hf : (rgI S.length).find? fun k => rej S T k f with
    | some k =>
      have h1 := List.mem_of_find?_eq_some hf
      have h2 := List.find?_some hf
      have h3 := mem_rgI.mp h1
      simp only [isTree, isS_self, nodeR, h3.1, h3.2, h2, decide_true, Bool.and_self]
    | none =>
      have hno : ∀ k ∈ rgI S.length, rej S T k f = false := fun k hk => by
        have := List.find?_eq_none.mp hf k hk
        simpa using this
      cases hlf : left S f with
      | nil => exact absurd hns (full_sol hS hT hr hlf hno)
      | cons v rest =>
        have hv : v ∈ left S f := by rw [hlf]; exact List.mem_cons_self
        have hfv := (mem_left.mp hv).2
        simp only [isTree, isS_self, decide_eq_true hv, Bool.true_and, List.length_map, Bool.and_eq_true, decide_eq_true_eq]
        refine ⟨by simp [rgI], List.all_eq_true.mpr fun p hp => ?_⟩
        have : ∀ l : List Int, ∀ p ∈ l.zip (l.map fun x => treeF q S T n (upd1 f v x)), p.1 ∈ l ∧ p.2 = treeF q S T n (upd1 f v p.1) := fun l => by
          induction l with
          | nil => intro p hp; cases hp
          | cons a l ih =>
            intro p hp
            rcases List.mem_cons.mp hp with rfl | hp
            · exact ⟨List.mem_cons_self, rfl⟩
            · exact ⟨List.mem_cons_of_mem _ (ih p hp).1, (ih p hp).2⟩
        obtain ⟨h1, h2⟩ := this _ p hp
        rw [h2]
        have lu := left_upd (x := p.1) hv
        exact tree_complete hS hT n _ (by omega) (ns_upd hfv hns) (rng_upd hr (mem_rgI.mp h1))
theorem sol_win {p : Row} (hp : p ∈ sols q S T (rgI S.length)) : p ∈ (if gt0 p.1 (ix (vs S) v) == val then wins q S T v val else loses q S T v val) := by
  cases h : gt0 p.1 (ix (vs S) v) == val with
  | true => exact List.mem_filter.mpr ⟨hp, h⟩
  | false => exact List.mem_filter.mpr ⟨hp, by simp [h]⟩
theorem ns_wins (hv : v ∈ vs S) (h : NoSol q S T (only v val)) : wins q S T v val = [] := by
  refine List.filter_eq_nil_iff.mpr fun p hp e => h p hp fun y hy z hz => ?_
  unfold only at hz
  split at hz
  · rename_i e2
    subst e2
    cases hz
    simpa [vl] using e
  · cases hz
theorem word_of_acc (hS : Sc S) (hv : v ∈ vs S) {d : PyData} (hd : Evd d) (h : acc q S T v val d = true) : ∃ rest, d = .tuple (.str (wordS (wins q S T v val) (loses q S T v val)) :: rest) := by
  cases hd with
  | oth _ _ h2 =>
    cases d with
    | tuple ds => exact absurd rfl (h2 ds)
    | _ => cases h
  | len ds hl =>
    match ds, hl, h with
    | [], _, h => cases h
    | [_], _, h => simp [acc] at h
    | [_, _], hl, _ => exact absurd rfl hl.1
    | [_, _, _], hl, _ => exact absurd rfl hl.2
    | _ :: _ :: _ :: _ :: _, _, h => simp [acc] at h
  | two h0 t a b =>
    simp only [acc, Bool.and_eq_true] at h
    have e := isS_eq a h.1
    subst e
    have w := ns_wins hv (tree_sound hS _ _ _ h.2)
    rw [w]
    exact ⟨[t], rfl⟩
  | three h0 r t a b c d =>
    simp only [acc, Bool.and_eq_true] at h
    obtain ⟨h1, h2, h3, h4⟩ := h
    obtain ⟨r', rfl, hrl, p, hp, rfl⟩ := sol_row h2
    have hw := sol_win (v := v) (val := val) hp
    have hpv : (gt0 p.1 (ix (vs S) v) == val) = true := by simpa [valAt, rowOf_sd] using h3
    rw [hpv, if_pos rfl] at hw
    have hw1 : (wins q S T v val).isEmpty = false := by
      cases e : wins q S T v val with
      | nil => rw [e] at hw; cases hw
      | cons => rfl
    unfold wordS
    rw [hw1]
    simp only [Bool.false_eq_true, if_false]
    cases hs : isS h0 "sometimes" with
    | true =>
      have e := isS_eq a hs
      subst e
      rw [hs, if_pos rfl, Bool.and_eq_true] at h4
      obtain ⟨t', rfl, htl, p', hp', rfl⟩ := sol_row h4.1
      have hw := sol_win (v := v) (val := val) hp'
      have hpv : (gt0 p'.1 (ix (vs S) v) == val) = false := by simpa [valAt, rowOf_sd] using h4.2
      rw [hpv, if_neg Bool.false_ne_true] at hw
      have hw2 : (loses q S T v val).isEmpty = false := by
        cases e : loses q S T v val with
        | nil => rw [e] at hw; cases hw
        | cons => rfl
      rw [hw2]
      exact ⟨_, rfl⟩
    | false =>
      rw [hs, Bool.or_false] at h1
      have e := isS_eq a h1
      subst e
      rw [hs, if_neg Bool.false_ne_true] at h4
      cases t with
      | tuple ys =>
        simp only [treesOk, Bool.and_eq_true, decide_eq_true_eq] at h4
        obtain ⟨hy, hall⟩ := h4
        have hl : loses q S T v val = [] := by
          cases e : loses q S T v val with
          | nil => rfl
          | cons p2 rest =>
            have hp2 : p2 ∈ loses q S T v val := by rw [e]; exact List.mem_cons_self
            obtain ⟨hps, hne⟩ := List.mem_filter.mp hp2
            have hne : gt0 p2.1 (ix (vs S) v) ≠ val := by simpa using hne
            have rg := vl_rng (sol_mem hps).1 hv
            have ho : vl (vs S) p2.1 v ∈ others q val := mem_others.mpr ⟨rg, hne⟩
            obtain ⟨i, hi, ei⟩ := List.mem_iff_getElem.mp ho
            have hz : (vl (vs S) p2.1 v, ys[i]'(by omega)) ∈ (others q val).zip ys := List.mem_iff_getElem.mpr ⟨i, by simp; omega, by simp [ei]⟩
            have := tree_sound hS _ _ _ (List.all_eq_true.mp hall _ hz)
            refine absurd (fun y hy z hz => ?_) (this p2 hps)
            unfold only at hz
            split at hz
            · rename_i e2
              subst e2
              exact Option.some.inj hz
            · cases hz
        rw [hl]
        exact ⟨_, rfl⟩
      | _ => cases h4
theorem sol_isSol {p : Row} (hp : p ∈ sols q S T (rgI S.length)) : isSol q S T (sd p.1) = true := by
  unfold isSol
  rw [rowOf_sd]
  exact decide_eq_true (List.mem_map.mpr ⟨p, hp, rfl⟩)
theorem told_acc (hS : Sc S) (hT : TL' S T) (hqn : Qn q S v val) : acc q S T v val (told q S T v val) = true := by
  have hv := hqn.v
  have v6 : (vs S).length ≤ 6 := vars_len hS _
  have lo := fun (x : Int) => Nat.le_trans (left_only (S := S) (v := v) (val := x)) v6
  unfold told
  cases hw : wins q S T v val with
  | nil =>
    have := tree_complete hS hT 7 (only v val) (by have := lo val; omega) (ns_win hv hw) (rng_only ⟨hqn.lo, hqn.hi⟩)
    simp only [acc, isS_self, this, Bool.and_self]
  | cons p rest =>
    have hpm : p ∈ wins q S T v val := by rw [hw]; exact List.mem_cons_self
    obtain ⟨hp, hpv⟩ := List.mem_filter.mp hpm
    have e1 := sol_isSol hp
    have e2 : (valAt S v (sd p.1) == val) = true := by simpa [valAt, rowOf_sd] using hpv
    cases hl : loses q S T v val with
    | nil =>
      have e3 : treesOk q S T v val (.tuple ((others q val).map fun x => treeF q S T 7 (only v x))) = true := by
        simp only [treesOk, List.length_map, decide_true, Bool.true_and]
        refine List.all_eq_true.mpr fun z hz => ?_
        have : ∀ l : List Int, ∀ p ∈ l.zip (l.map fun x => treeF q S T 7 (only v x)), p.1 ∈ l ∧ p.2 = treeF q S T 7 (only v p.1) := fun l => by
          induction l with
          | nil => intro p hp; cases hp
          | cons a l ih =>
            intro p hp
            rcases List.mem_cons.mp hp with rfl | hp
            · exact ⟨List.mem_cons_self, rfl⟩
            · exact ⟨List.mem_cons_of_mem _ (ih p hp).1, (ih p hp).2⟩
        obtain ⟨h1, h2⟩ := this _ z hz
        rw [h2]
        have ho := mem_others.mp h1
        exact tree_complete hS hT 7 _ (by have := lo z.1; omega) (ns_lose hv hl ho.2) (rng_only ho.1)
      have e4 : isS (.str "always") "sometimes" = false := by decide +kernel
      simp only [acc, isS_self, e1, e2, e3, e4, Bool.true_or, Bool.true_and, Bool.false_eq_true, if_false]
    | cons p' rest' =>
      have hpm' : p' ∈ loses q S T v val := by rw [hl]; exact List.mem_cons_self
      obtain ⟨hp', hpv'⟩ := List.mem_filter.mp hpm'
      have e3 := sol_isSol hp'
      have e4 : (valAt S v (sd p'.1) == val) = false := by simpa [valAt, rowOf_sd] using hpv'
      simp only [acc, isS_self, e1, e2, e3, e4, Bool.or_true, Bool.true_and, if_true, Bool.not_false]
theorem told_head : ∃ rest, told q S T v val = .tuple (.str (wordS (wins q S T v val) (loses q S T v val)) :: rest) := by
  unfold told wordS
  cases wins q S T v val with
  | nil => exact ⟨_, rfl⟩
  | cons p rest =>
    cases loses q S T v val with
    | nil => exact ⟨_, rfl⟩
    | cons p' rest' => exact ⟨_, rfl⟩
end
end Mir.K60

namespace Mir.K60
open PySem PySem.Spec PyProof.Rows L2
/-! ### trees that are drawn -/
inductive Cl : Nat → PyData → Prop
  | no {n : Nat} (k : Int) : Cl (n + 1) (.tuple [.str "no", .int k])
  | by_ {n : Nat} (v : Int) (ts : List PyData) (h : ∀ t ∈ ts, Cl n t) (hl : ts.length ≤ 3) : Cl (n + 1) (.tuple [.str "by", .int v, .tuple ts])
theorem Cl.tr {n : Nat} {d : PyData} (h : Cl n d) : Tr d := by
  induction h with
  | no k => exact .tup _ _ .no (fun x hx => by simp at hx; subst hx; rfl) (fun ys hy => by simp at hy)
  | by_ v ts h hl ih =>
    refine .tup _ _ .by_ (fun x hx => by simp at hx; rcases hx with rfl | rfl <;> rfl) (fun ys hy => ?_)
    simp at hy
    subst hy
    exact ih
theorem cl_treeF {q : Nat} {S : List (List Int)} {T : List (List Row)} (hq : q ≤ 3) (hS : Sc S) (hT : TL' S T) : ∀ (n : Nat) (f : Fn), (left S f).length < n → NoSol q S T f → Rng q f → Cl n (treeF q S T n f)
  | 0, _, h, _, _ => by omega
  | n + 1, f, hl, hns, hr => by
    unfold treeF
    cases hf : (rgI S.length).find? fun k => rej S T k f with
    | some k => exact .no k
    | none =>
      have hno : ∀ k ∈ rgI S.length, rej S T k f = false := fun k hk => by
        have := List.find?_eq_none.mp hf k hk
        simpa using this
      cases hlf : left S f with
      | nil => exact absurd hns (full_sol hS hT hr hlf hno)
      | cons v rest =>
        have hv : v ∈ left S f := by rw [hlf]; exact List.mem_cons_self
        have hfv := (mem_left.mp hv).2
        refine .by_ v _ (fun t ht => ?_) (by simp [rgI]; exact hq)
        obtain ⟨x, hx, rfl⟩ := List.mem_map.mp ht
        have lu := left_upd (x := x) hv
        exact cl_treeF hq hS hT n _ (by omega) (ns_upd hfv hns) (rng_upd hr (mem_rgI.mp hx))
/-- what stands behind the stream -/
def okR (r : Hm) : Prop := ∀ (ns : List Int) (c : Int) (k : Nat), okM (strm ns c k :: r).length (strm ns c k :: r) = true
theorem okR.dct {r : Hm} {kn : List (Int × Int)} (h : okR r) : okR (r ++ [.dct (kd kn)]) := fun ns c k => ok_kd (m := strm ns c k :: r) (h ns c k)
theorem KN.cons {j : Nat} {m : Hm} {a : Nat} {f : Fn} {x : Cell} (h : KN j m a f) : KN j (x :: m) (a + 1) f := by
  obtain ⟨kn, h1, h2⟩ := h.ex
  exact ⟨kn, by simpa using h1, h2⟩
theorem KN.tail {j : Nat} {m : Hm} {a : Nat} {f : Fn} {x : Cell} (h : KN j (x :: m) (a + 1) f) : KN j m a f := by
  obtain ⟨kn, h1, h2⟩ := h.ex
  exact ⟨kn, by simpa using h1, h2⟩
section
variable {q : Nat} {S : List (List Int)} {E : List (Int × Int)} {T : List (List Row)} {ns : List Int}
theorem tru_l {ds : List PyData} {m : Hm} : tru (.p (.list ds)) m = .ok (!ds.isEmpty) m := by cases ds <;> rfl
theorem fin_r {r : Hm} (h : okR r) {d : PyData} {c : Int} {k : Nat} {e : Hm} {n : Nat} (hn : n = r.length + 1) : endFn true n (.p d) (strm ns c k :: (r ++ e)) = .ok (.p d) (strm ns c k :: r) := by
  subst hn
  exact end_p (m := strm ns c k :: r) (e := e) rfl (h ns c k)
theorem q_made_tree (hq0 : 1 ≤ q) (hq : q ≤ 3) (hS : Sc S) (hT : TL' S T) : ∀ (n : Nat) {j a : Nat} {r : Hm} {f : Fn} {c : Int} {k : Nat}, KN j r a f → j + n ≤ 50 → okR r → (left S f).length < n → ∃ (d : PyData) (c' : Int) (k' : Nat), F__law_made_tree n [.loc 0, .p (gD q S E), .p (tsD T), .loc (a + 1)] (strm ns c k :: r) = .ok (.p d) (strm ns c' k' :: r) ∧ Cl n d
  | 0, _, _, _, _, _, _, _, _, _, hl => by omega
  | n + 1, j, a, r, f, c, k, hk, hj, hw, hl => by
    have hla := hS.len
    have v6 : (vs S).length ≤ 6 := vars_len hS _
    have l6 : (left S f).length ≤ 6 := Nat.le_trans (List.length_filter_le _ _) v6
    have s2 : (2 ≤ sizeLine) = True := by simp [sizeLine_eq]
    have s3 : (3 ≤ sizeLine) = True := by simp [sizeLine_eq]
    obtain ⟨e2, e3⟩ := q_law_every_vs (q := q) (E := E) (hw ns c k) hS
    have kc : KN j (strm ns c k :: r) (a + 1) f := hk.cons
    have c1 : C1__law_made_tree (F__law_made_tree n) [some (.loc 0), some (.p (gD q S E)), some (.p (tsD T)), some (.loc (a + 1)), none, none, none, none, none, none] (strm ns c k :: r) = .ok (.p (.list (((rgI S.length).filter fun i => rej S T i f).map .int))) (strm ns c k :: r) := by
      unfold C1__law_made_tree
      rw [lc_data (rgI S.length) (fun i => .p (.int i)) (fun i => rej S T i f) .int (gs := []) (by simp [e2, Function.comp_def]) rfl (by simp [rgI]; omega) fun i hi => ⟨_, rfl, by
        have := q_law_rejects (q := q) (E := E) hS hT (mem_rgI.mp hi) kc (hw ns c k)
        simp [wipeE, this], fun _ => by simp [wipeE]⟩]
    have c2 : C2__law_made_tree (F__law_made_tree n) [some (.loc 0), some (.p (gD q S E)), some (.p (tsD T)), some (.loc (a + 1)), some (.p (.list (((rgI S.length).filter fun i => rej S T i f).map .int))), none, none, none, none, none] (strm ns c k :: r) = .ok (.p (.list ((left S f).map .int))) (strm ns c k :: r) := by
      unfold C2__law_made_tree
      rw [lc_data (vs S) (fun v => .p (.int v)) (fun v => (f v).isNone) .int (gs := []) (by simp [e2, e3, unK_kt, Function.comp_def]) rfl (by omega) fun v hv => ⟨_, rfl, by
        simp only [r_bval]
        rw [o_din kc v (by simp [wipeE]) (by simp [wipeE])]
        cases f v <;> rfl, fun _ => by simp [wipeE]⟩]
      rfl
    show ∃ d c' k', mkFn true 4 10 (m__law_made_tree (F__law_made_tree n)) _ (strm ns c k :: r) = _ ∧ _
    unfold mkFn m__law_made_tree
    simp only [startE, List.length_cons, List.length_nil, List.map_cons, List.map_nil, decide_true, if_true, List.cons_append, List.nil_append, List.replicate]
    have sp : ∀ R : SX, sSeq (sSet 4 (C1__law_made_tree (F__law_made_tree n))) (sSeq (sSet 5 (C2__law_made_tree (F__law_made_tree n))) R) [some (.loc 0), some (.p (gD q S E)), some (.p (tsD T)), some (.loc (a + 1)), none, none, none, none, none, none] (strm ns c k :: r) = R [some (.loc 0), some (.p (gD q S E)), some (.p (tsD T)), some (.loc (a + 1)), some (.p (.list (((rgI S.length).filter fun i => rej S T i f).map .int))), some (.p (.list ((left S f).map .int))), none, none, none, none] (strm ns c k :: r) := fun R => by
      simp only [q_seq, q_set, c1, c2, st_ok, List.set_cons_succ, List.set_cons_zero]
    rw [sp]
    generalize hN : (rgI S.length).filter (fun i => rej S T i f) = N
    have hNl : N.length ≤ 5 := by
      rw [← hN]
      exact Nat.le_trans (List.length_filter_le _ _) (by simp [rgI]; exact hla)
    -- a node
    have pickNo : ∀ (c : Int) (k : Nat), N ≠ [] → ∃ (i c' : Int) (k' : Nat), F__law_pick [.loc 0, .p (.list (N.map .int))] (strm ns c k :: r) = .ok (.p (.int i)) (strm ns c' k' :: r) := fun c k h => by
      obtain ⟨x, hx, c', k', e⟩ := q_pick (w := .p (.list (N.map .int))) (ds := N.map .int) (ns := ns) (c := c) (k := k) (r := r) (.inr rfl) (by rw [List.length_map]; exact List.length_pos_iff.mpr h) (by rw [List.length_map]; omega)
      obtain ⟨i, hi, rfl⟩ := List.mem_map.mp hx
      exact ⟨i, c', k', e⟩
    -- the last part: a tree of cases
    have last : ∀ (c : Int) (k : Nat), left S f ≠ [] → ∃ (d : PyData) (c' : Int) (k' : Nat), retE true (r.length + 1) ((sSeq (sSet 6 (eCall 2 F__law_pick (aCons (eVar 0) (aCons (eVar 5) aNil)))) (sRet (eTup (aCons (eC (.str "by")) (aCons (eVar 6) (aCons (eCB tupleM (aCons (C3__law_made_tree (F__law_made_tree n)) aNil)) aNil)))))) [some (.loc 0), some (.p (gD q S E)), some (.p (tsD T)), some (.loc (a + 1)), some (.p (.list (N.map .int))), some (.p (.list ((left S f).map .int))), none, none, none, none] (strm ns c k :: r)) = .ok (.p d) (strm ns c' k' :: r) ∧ Cl (n + 1) d := fun c k hlf => by
      obtain ⟨x, hx, c1, k1, ep⟩ := q_pick (w := .p (.list ((left S f).map .int))) (ds := (left S f).map .int) (ns := ns) (c := c) (k := k) (r := r) (.inr rfl) (by rw [List.length_map]; exact List.length_pos_iff.mpr hlf) (by rw [List.length_map]; omega)
      obtain ⟨v, hv, rfl⟩ := List.mem_map.mp hx
      have hfv := (mem_left.mp hv).2
      obtain ⟨ds, m', l1, c2, k2, e, rfl, hwe, hds, hdl⟩ := lc_ex (src := iRg1 (eOp2 idxM (eVar 1) (eC (.int 0)))) (gs := []) (t := .n 9) (g := bYes) (f := eCall 4 (F__law_made_tree n) (aCons (eVar 0) (aCons (eVar 1) (aCons (eVar 2) (aCons (eCall 3 F__law_with (aCons (eVar 3) (aCons (eVar 6) (aCons (eVar 9) aNil)))) aNil))))) (vs := [9]) (s := [some (.loc 0), some (.p (gD q S E)), some (.p (tsD T)), some (.loc (a + 1)), some (.p (.list (N.map .int))), some (.p (.list ((left S f).map .int))), some (.p (.int v)), none, none, none]) (m := strm ns c1 k1 :: r) (m0 := strm ns c1 k1 :: r)
        (rgI q) (fun x => .p (.int x)) (fun pre ds m => ∃ (c : Int) (k : Nat) (e : Hm), m = strm ns c k :: (r ++ e) ∧ okR (r ++ e) ∧ (∀ d ∈ ds, Cl n d) ∧ ds.length = pre.length) (by
          have := rg_it (n := q) (m := strm ns c1 k1 :: r) (by omega)
          simp at this ⊢
          exact this) (by simp [rgI]; omega) (fun _ _ _ _ => rfl) (by
          rintro pre x post ds m hx ⟨c, k, e, rfl, hwe, hds, hdl⟩
          refine ⟨_, rfl, true, _, rfl, fun _ => ?_, fun h => by cases h⟩
          have kc : KN j (strm ns c k :: (r ++ e)) (a + 1) f := (hk.app (e := e)).cons
          obtain ⟨kn, w1, w2⟩ := q_law_with (x := x) kc (by omega) hfv (hwe ns c k)
          have w2 : KN (j + 1) (strm ns c k :: (r ++ e ++ [.dct (kd kn)])) ((r ++ e).length + 1) (upd1 f v x) := w2
          have lu := left_upd (x := x) hv
          have hwe' : okR (r ++ e ++ [.dct (kd kn)]) := hwe.dct
          obtain ⟨d, c', k', ih, hd⟩ := q_made_tree hq0 hq hS hT n (c := c) (k := k) w2.tail (by omega) hwe' (by omega)
          refine ⟨d, _, ?_, c', k', e ++ [.dct (kd kn)], by rw [← List.append_assoc], by rw [← List.append_assoc]; exact hwe', ?_, by simp [hdl]⟩
          · simp only [wipeE, r_call, r_acons, r_anil, r_var, List.foldl_cons, List.foldl_nil, List.set_cons_succ, List.set_cons_zero, List.getElem?_cons_succ, List.getElem?_cons_zero, bind_ok, List.length_cons, List.length_nil, decide_true, if_true, w1]
            exact ih
          · intro y hy
            rcases List.mem_append.mp hy with hy | hy
            · exact hds y hy
            · simp at hy; subst hy; exact hd) ⟨c1, k1, [], by simp, by simpa using hw, by simp, rfl⟩
      have l1 : C3__law_made_tree (F__law_made_tree n) [some (.loc 0), some (.p (gD q S E)), some (.p (tsD T)), some (.loc (a + 1)), some (.p (.list (N.map .int))), some (.p (.list ((left S f).map .int))), some (.p (.int v)), none, none, none] (strm ns c1 k1 :: r) = _ := l1
      refine ⟨.tuple [.str "by", .int v, .tuple ds], c2, k2, ?_, .by_ v ds hds (by rw [hdl]; simp [rgI]; exact hq)⟩
      simp only [q_seq, q_set, r_call, r_acons, r_anil, r_var, List.getElem?_cons_succ, List.getElem?_cons_zero, bind_ok, List.length_cons, List.length_nil, decide_true, if_true, ep, st_ok, List.set_cons_succ, List.set_cons_zero, q_ret, r_tup, r_c, r_cb, l1, o_tupL]
      simp only [show (0 + 1 + 1 + 1 ≤ sizeLine) = True from by simp [sizeLine_eq], if_true, st_ok, retE]
      exact fin_r hw rfl
    have noR : ∀ (c1 : Int) (k1 : Nat) (c2 : Int) (k2 : Nat) {R : SX} {b : EX Bool}, N ≠ [] → b [some (.loc 0), some (.p (gD q S E)), some (.p (tsD T)), some (.loc (a + 1)), some (.p (.list (N.map .int))), some (.p (.list ((left S f).map .int))), none, none, none, none] (strm ns c1 k1 :: r) = .ok true (strm ns c2 k2 :: r) → ∃ (d : PyData) (c' : Int) (k' : Nat), retE true (r.length + 1) (sSeq (sIf b (sRet (eTup (aCons (eC (.str "no")) (aCons (eCall 2 F__law_pick (aCons (eVar 0) (aCons (eVar 4) aNil))) aNil)))) sSkip) R [some (.loc 0), some (.p (gD q S E)), some (.p (tsD T)), some (.loc (a + 1)), some (.p (.list (N.map .int))), some (.p (.list ((left S f).map .int))), none, none, none, none] (strm ns c1 k1 :: r)) = .ok (.p d) (strm ns c' k' :: r) ∧ Cl (n + 1) d := fun c1 k1 c2 k2 R b hN0 hb => by
      obtain ⟨i, c3, k3, e⟩ := pickNo c2 k2 hN0
      refine ⟨.tuple [.str "no", .int i], c3, k3, ?_, .no i⟩
      simp only [q_seq, q_if, hb, st_ok, if_true, q_ret, r_tup, r_c, r_call, r_acons, r_anil, r_var, List.getElem?_cons_succ, List.getElem?_cons_zero, bind_ok, List.length_cons, List.length_nil, decide_true, e]
      simp only [show (0 + 1 + 1 ≤ sizeLine) = True from by simp [sizeLine_eq], if_true, st_ok, retE]
      have := fin_r (e := []) (d := .tuple [.str "no", .int i]) (ns := ns) (c := c3) (k := k3) hw rfl
      rw [List.append_nil] at this
      exact this
    have rest : ∀ (c1 : Int) (k1 : Nat), ∃ (d : PyData) (c' : Int) (k' : Nat), retE true (r.length + 1) (sSeq (sIf (bNot (bTru (eVar 5))) (sRet (eTup (aCons (eC (.str "no")) (aCons (eC (.int 0)) aNil)))) sSkip) (sSeq (sSet 6 (eCall 2 F__law_pick (aCons (eVar 0) (aCons (eVar 5) aNil)))) (sRet (eTup (aCons (eC (.str "by")) (aCons (eVar 6) (aCons (eCB tupleM (aCons (C3__law_made_tree (F__law_made_tree n)) aNil)) aNil)))))) [some (.loc 0), some (.p (gD q S E)), some (.p (tsD T)), some (.loc (a + 1)), some (.p (.list (N.map .int))), some (.p (.list ((left S f).map .int))), none, none, none, none] (strm ns c1 k1 :: r)) = .ok (.p d) (strm ns c' k' :: r) ∧ Cl (n + 1) d := fun c1 k1 => by
      by_cases hlf : left S f = []
      · refine ⟨.tuple [.str "no", .int 0], c1, k1, ?_, .no 0⟩
        rw [seq_rt (w := .p (.tuple [.str "no", .int 0])) (by simp [hlf, tru_l]) (by simp [mkTup, s2])]
        have := fin_r (e := []) (d := .tuple [.str "no", .int 0]) (ns := ns) (c := c1) (k := k1) hw rfl
        rw [List.append_nil] at this
        exact this
      · have : ((left S f).map PyData.int).isEmpty = false := by
          cases h : left S f with
          | nil => exact absurd h hlf
          | cons => rfl
        rw [seq_no (by simp only [r_bnot, r_btru, r_var, List.getElem?_cons_succ, List.getElem?_cons_zero, bind_ok, tru_l, this]; rfl)]
        exact last c1 k1 hlf
    by_cases hN0 : N = []
    · have : (N.map PyData.int).isEmpty = true := by rw [hN0]; rfl
      rw [seq_no (by simp only [r_band, r_btru, r_var, List.getElem?_cons_succ, List.getElem?_cons_zero, bind_ok, tru_l, this]; rfl)]
      exact rest c k
    · have hNe : (N.map PyData.int).isEmpty = false := by
        cases h : N with
        | nil => exact absurd h hN0
        | cons => rfl
      by_cases hlf : left S f = []
      · exact noR c k c k hN0 (by
          have : ((left S f).map PyData.int).isEmpty = true := by rw [hlf]; rfl
          simp only [r_band, r_bor, r_bnot, r_btru, r_var, List.getElem?_cons_succ, List.getElem?_cons_zero, bind_ok, tru_l, this, hNe]
          rfl)
      · have hle : ((left S f).map PyData.int).isEmpty = false := by
          cases h : left S f with
          | nil => exact absurd h hlf
          | cons => rfl
        obtain ⟨x, c1, k1, e1, hx1, hx2⟩ := q_next (ns := ns) (c := c) (k := k) (r := r) (many := 3) (by omega) (by omega)
        have hb : (bAnd (bTru (eVar 4)) (bOr (bNot (bTru (eVar 5))) (bVal (eOp2 gtM (eCall 2 F__law_next (aCons (eVar 0) (aCons (eC (.int 3)) aNil))) (eC (.int 0)))))) [some (.loc 0), some (.p (gD q S E)), some (.p (tsD T)), some (.loc (a + 1)), some (.p (.list (N.map .int))), some (.p (.list ((left S f).map .int))), none, none, none, none] (strm ns c k :: r) = .ok (decide (0 < x)) (strm ns c1 k1 :: r) := by
          simp only [r_band, r_bor, r_bnot, r_btru, r_bval, r_op2, r_call, r_acons, r_anil, r_c, r_var, List.getElem?_cons_succ, List.getElem?_cons_zero, bind_ok, tru_l, hle, hNe, List.length_cons, List.length_nil, decide_true, if_true, e1, o_gt, r_boolOf, Bool.not_false, Bool.not_true, Bool.false_eq_true, if_false]
        by_cases hx : 0 < x
        · exact noR c k c1 k1 hN0 (by rw [hb, decide_eq_true hx])
        · rw [decide_eq_false hx] at hb
          have : ∀ R : SX, sSeq (sIf (bAnd (bTru (eVar 4)) (bOr (bNot (bTru (eVar 5))) (bVal (eOp2 gtM (eCall 2 F__law_next (aCons (eVar 0) (aCons (eC (.int 3)) aNil))) (eC (.int 0)))))) (sRet (eTup (aCons (eC (.str "no")) (aCons (eCall 2 F__law_pick (aCons (eVar 0) (aCons (eVar 4) aNil))) aNil)))) sSkip) R [some (.loc 0), some (.p (gD q S E)), some (.p (tsD T)), some (.loc (a + 1)), some (.p (.list (N.map .int))), some (.p (.list ((left S f).map .int))), none, none, none, none] (strm ns c k :: r) = R [some (.loc 0), some (.p (gD q S E)), some (.p (tsD T)), some (.loc (a + 1)), some (.p (.list (N.map .int))), some (.p (.list ((left S f).map .int))), none, none, none, none] (strm ns c1 k1 :: r) := fun R => by
            simp only [q_seq, q_if, hb, st_ok, Bool.false_eq_true, if_false, q_skip]
          rw [this]
          exact rest c1 k1
end
end Mir.K60

namespace Mir.K60
open PySem PySem.Spec PyProof.Rows L2
theorem Tr.nd {d : PyData} (h : Tr d) : nd d = true := by
  cases h with
  | oth _ h _ => exact h
  | _ => rfl
theorem tr_two {h x : PyData} (a : Hd h) (b : nd x = true) : Tr (.tuple [h, x]) := .tup _ _ a (fun y hy => by simp at hy; subst hy; exact b) (fun ys hy => by simp at hy)
theorem tr_three {h x y : PyData} (a : Hd h) (b : nd x = true) (c : nd y = true) (d : ∀ ys, y = .tuple ys → ∀ t ∈ ys, Tr t) : Tr (.tuple [h, x, y]) := .tup _ _ a (fun z hz => by simp at hz; rcases hz with rfl | rfl; exact b; exact c) (fun ys hy => by simp at hy; exact d ys hy)
abbrev no0 : PyData := .tuple [.str "no", .int 0]
def bentL (deep : PyData) : List PyData := [.none, .tuple [], .int 0, .str "no", .tuple [.str "no"], .tuple [.str "no", .int (-1)], .tuple [.str "no", .bool true], .tuple [.str "no", .int 9], .tuple [.str "no", .none], .tuple [.str "by", .int 0], .tuple [.str "by", .int 9, .tuple []], .tuple [.str "by", .bool true, .tuple []], .list [.str "no", .int 0], .tuple [.none, .int 0], .tuple [.str "No", .int 0], deep, .tuple [.str "no", .int 0, .int 0], .tuple [.str "no", .int 0], .tuple [.str "no", .int 1]]
theorem bentL_tr {deep : PyData} (h : Tr deep) : ∀ x ∈ bentL deep, Tr x := by
  intro x hx
  simp only [bentL, List.mem_cons, List.not_mem_nil, or_false] at hx
  rcases hx with rfl | rfl | rfl | rfl | rfl | rfl | rfl | rfl | rfl | rfl | rfl | rfl | rfl | rfl | rfl | rfl | rfl | rfl | rfl
  · exact .oth _ rfl (by intro _ h; cases h)
  · exact .nil
  · exact .oth _ rfl (by intro _ h; cases h)
  · exact .oth _ rfl (by intro _ h; cases h)
  · exact .tup _ _ .no (by simp) (by simp)
  · exact tr_two .no rfl
  · exact tr_two .no rfl
  · exact tr_two .no rfl
  · exact tr_two .no rfl
  · exact tr_two .by_ rfl
  · exact tr_three .by_ rfl rfl (by intro ys h; cases h; simp)
  · exact tr_three .by_ rfl rfl (by intro ys h; cases h; simp)
  · exact .oth _ rfl (by intro _ h; cases h)
  · exact tr_two .non rfl
  · exact tr_two .No rfl
  · exact h
  · exact tr_three .no rfl rfl (by intro ys h; cases h)
  · exact tr_two .no rfl
  · exact tr_two .no rfl
def sB (d : PyData) (o : Option W) : Ev := [some (.loc 0), some (.p d), o, none, none, none, none]
theorem bent_list {F : FF} {d deep : PyData} {m : Hm} : (eLst (aCons (eC .none) (aCons (eTup aNil) (aCons (eC (.int 0)) (aCons (eC (.str "no")) (aCons (eTup (aCons (eC (.str "no")) aNil)) (aCons (eTup (aCons (eC (.str "no")) (aCons (eOp1 negM (eC (.int 1))) aNil))) (aCons (eTup (aCons (eC (.str "no")) (aCons (eC (.bool true)) aNil))) (aCons (eTup (aCons (eC (.str "no")) (aCons (eC (.int 9)) aNil))) (aCons (eTup (aCons (eC (.str "no")) (aCons (eC .none) aNil))) (aCons (eTup (aCons (eC (.str "by")) (aCons (eC (.int 0)) aNil))) (aCons (eTup (aCons (eC (.str "by")) (aCons (eC (.int 9)) (aCons (eTup aNil) aNil)))) (aCons (eTup (aCons (eC (.str "by")) (aCons (eC (.bool true)) (aCons (eTup aNil) aNil)))) (aCons (eLst (aCons (eC (.str "no")) (aCons (eC (.int 0)) aNil))) (aCons (eTup (aCons (eC .none) (aCons (eC (.int 0)) aNil))) (aCons (eTup (aCons (eC (.str "No")) (aCons (eC (.int 0)) aNil))) (aCons (eVar 2) (aCons (eTup (aCons (eC (.str "no")) (aCons (eC (.int 0)) (aCons (eC (.int 0)) aNil)))) (aCons (eTup (aCons (eC (.str "no")) (aCons (eC (.int 0)) aNil))) (aCons (eTup (aCons (eC (.str "no")) (aCons (eC (.int 1)) aNil))) aNil)))))))))))))))))))) (sB d (some (.p deep))) m = .ok (.p (.list (bentL deep))) m := by
  have n1 : negM (.p (.int 1)) m = .ok (.p (.int (-1))) m := rfl
  have s0 : (0 ≤ sizeLine) = True := by simp [sizeLine_eq]
  have s1 : (1 ≤ sizeLine) = True := by simp [sizeLine_eq]
  have s2 : (2 ≤ sizeLine) = True := by simp [sizeLine_eq]
  have s3 : (3 ≤ sizeLine) = True := by simp [sizeLine_eq]
  have s19 : (19 ≤ sizeLine) = True := by simp [sizeLine_eq]
  simp [sB, n1, mkTup, s0, s1, s2, s3, s19, bentL]
theorem cutA_sub {ds : List PyData} {lo hi : Option Int} : (∀ x ∈ cutA ds lo hi, x ∈ ds) ∧ (cutA ds lo hi).length ≤ ds.length := by
  unfold cutA
  exact ⟨fun x hx => List.mem_of_mem_drop (List.mem_of_mem_take hx), Nat.le_trans (List.length_take_le' _ _) (by simp)⟩
theorem deep_turn {F : FF} {d deep : PyData} {w : W} {ns : List Int} {c : Int} {k : Nat} {r : Hm} (hw : okR r) (hd : Tr deep) : ∃ (deep' : PyData) (c' : Int) (k' : Nat), L1__law_bent F [some (.loc 0), some (.p d), some (.p deep), some w, none, none, none] (strm ns c k :: r) = some (.nx (sB d (some (.p deep'))), strm ns c' k' :: r) ∧ Tr deep' := by
  obtain ⟨x, c1, k1, e1, hx1, hx2⟩ := q_next (ns := ns) (c := c) (k := k) (r := r) (many := 6) (by omega) (by omega)
  refine ⟨.tuple [.str "by", .int x, .tuple [deep, no0]], c1, k1, ?_, ?_⟩
  · have s2 : (2 ≤ sizeLine) = True := by simp [sizeLine_eq]
    have s3 : (3 ≤ sizeLine) = True := by simp [sizeLine_eq]
    unfold L1__law_bent
    simp only [q_tidy, q_set, r_tup, r_acons, r_anil, r_c, r_call, r_var, List.getElem?_cons_succ, List.getElem?_cons_zero, bind_ok, List.length_cons, List.length_nil, decide_true, if_true, e1]
    simp [s2, s3, mkTup]
    rw [tidy_len (by rfl)]
    simp [wipeE, sB]
  · refine tr_three .by_ rfl rfl (by
      intro ys h
      cases h
      intro t ht
      simp at ht
      rcases ht with rfl | rfl
      · exact hd
      · exact tr_two .no rfl)
theorem q_bent : ∀ (n : Nat) {d : PyData} {ns : List Int} {c : Int} {k : Nat} {r : Hm}, Cl n d → okR r → ∃ (d' : PyData) (c' : Int) (k' : Nat), F__law_bent (n + 1) [.loc 0, .p d] (strm ns c k :: r) = .ok (.p d') (strm ns c' k' :: r) ∧ Tr d' := by
  intro n
  induction n with
  | zero => intro d ns c k r hc; cases hc
  | succ n ih =>
    intro d ns c k r hc hw
    have fin : ∀ (d : PyData) (c : Int) (k : Nat), endFn true (r.length + 1) (.p d) (strm ns c k :: r) = .ok (.p d) (strm ns c k :: r) := fun d c k => by
      have := fin_r (e := []) (d := d) (ns := ns) (c := c) (k := k) hw rfl
      rw [List.append_nil] at this
      exact this
    have s2 : (2 ≤ sizeLine) = True := by simp [sizeLine_eq]
    have s3 : (3 ≤ sizeLine) = True := by simp [sizeLine_eq]
    have s5 : (5 ≤ sizeLine) = True := by simp [sizeLine_eq]
    show ∃ d' c' k', mkFn true 2 7 (m__law_bent (F__law_bent (n + 1))) _ (strm ns c k :: r) = _ ∧ _
    unfold mkFn m__law_bent
    simp only [startE, List.length_cons, List.length_nil, List.map_cons, List.map_nil, decide_true, if_true, List.cons_append, List.nil_append, List.replicate]
    obtain ⟨x, c1, k1, e1, hx1, hx2⟩ := q_next (ns := ns) (c := c) (k := k) (r := r) (many := 3) (by omega) (by omega)
    have hb : (bOr (bNot (bTru (eOp1 (isiM "tuple") (eVar 1)))) (bOr (bVal (eOp2 ltM (eCB lenM (aCons (eVar 1) aNil)) (eC (.int 2)))) (bVal (eOp2 (eqM false) (eCall 2 F__law_next (aCons (eVar 0) (aCons (eC (.int 3)) aNil))) (eC (.int 0)))))) [some (.loc 0), some (.p d), none, none, none, none, none] (strm ns c k :: r) = .ok (x == 0) (strm ns c1 k1 :: r) := by
      cases hc with
      | no i =>
        have e0 : ∀ m, isiM "tuple" (.p (.tuple [.str "no", .int i])) m = .ok (.p (.bool true)) m := fun _ => rfl
        simp [e0, e1]
      | by_ v ts h hl =>
        have e0 : ∀ m, isiM "tuple" (.p (.tuple [.str "by", .int v, .tuple ts])) m = .ok (.p (.bool true)) m := fun _ => rfl
        simp [e0, e1]
    by_cases hx0 : x = 0
    · -- of another kind
      subst hx0
      obtain ⟨y, hy, c2, k2, e2⟩ := q_pick (w := .p (.list [.int 1, .int 300])) (ds := [.int 1, .int 300]) (ns := ns) (c := c1) (k := k1) (r := r) (.inr rfl) (by simp) (by simp)
      obtain ⟨z, hz, rfl⟩ : ∃ z : Nat, (z ≤ 300) ∧ y = .int z := by
        simp at hy
        rcases hy with rfl | rfl
        · exact ⟨1, by omega, rfl⟩
        · exact ⟨300, by omega, rfl⟩
      have rg := rg_it (n := z) (m := strm ns c2 k2 :: r) (by omega)
      obtain ⟨s', m', l1, deep, c3, k3, rfl, rfl, htr⟩ := for_ex (gs := []) (t := .n 3) (body := L1__law_bent (F__law_bent (n + 1))) (e := fun i : Int => W.p (.int i)) (xs := rgI z) (s := sB d (some (.p no0))) (m := strm ns c2 k2 :: r)
        (fun _ s m => ∃ (deep : PyData) (c : Int) (k : Nat), s = sB d (some (.p deep)) ∧ m = strm ns c k :: r ∧ Tr deep) (fun _ _ _ _ => rfl) (by
          rintro pre i post s m hx ⟨deep, c, k, rfl, rfl, htr⟩
          obtain ⟨deep', c', k', e, h⟩ := deep_turn (F := F__law_bent (n + 1)) (d := d) (w := .p (.int i)) (ns := ns) (c := c) (k := k) hw htr
          exact ⟨_, rfl, _, _, e, deep', c', k', rfl, rfl, h⟩) ⟨no0, c2, k2, rfl, rfl, tr_two .no rfl⟩
      obtain ⟨y, hy, c4, k4, e4⟩ := q_pick (w := .p (.list (bentL deep))) (ds := bentL deep) (ns := ns) (c := c3) (k := k3) (r := r) (.inr rfl) (by simp [bentL]) (by simp [bentL])
      refine ⟨y, c4, k4, ?_, bentL_tr htr y hy⟩
      have bl := bent_list (F := F__law_bent (n + 1)) (d := d) (deep := deep) (m := strm ns c3 k3 :: r)
      have ps : (eLst (aCons (eC (.int 1)) (aCons (eC (.int 300)) aNil))) (sB d (some (.p no0))) (strm ns c1 k1 :: r) = .ok (.p (.list [.int 1, .int 300])) (strm ns c1 k1 :: r) := by simp [s2]
      rw [q_seq, q_if, hb]
      simp only [st_ok, beq_self_eq_true, if_true]
      have e5 : (sSet 2 (eTup (aCons (eC (.str "no")) (aCons (eC (.int 0)) aNil)))) [some (.loc 0), some (.p d), none, none, none, none, none] (strm ns c1 k1 :: r) = some (.nx (sB d (some (.p no0))), strm ns c1 k1 :: r) := by simp [mkTup, s2, sB]
      have v0 : eVar 0 (sB d (some (.p no0))) (strm ns c1 k1 :: r) = .ok (.loc 0) (strm ns c1 k1 :: r) := rfl
      have v1 : eVar 0 (sB d (some (.p deep))) (strm ns c3 k3 :: r) = .ok (.loc 0) (strm ns c3 k3 :: r) := rfl
      rw [q_seq, e5]
      simp only [q_seq, q_for, r_irg1, r_call, r_acons, r_anil, v0, ps, bind_ok, List.length_cons, List.length_nil, decide_true, if_true, e2, rg, st_ok]
      rw [l1]
      simp only [q_ret, r_call, r_acons, r_anil, v1, bl, bind_ok, List.length_cons, List.length_nil, decide_true, if_true, e4, st_ok, retE]
      exact fin _ _ _
    · have hb : _ = Res.ok false _ := hb.trans (by rw [show (x == 0) = false from by simp [hx0]])
      have sp : ∀ (G R : SX), sSeq (sIf (bOr (bNot (bTru (eOp1 (isiM "tuple") (eVar 1)))) (bOr (bVal (eOp2 ltM (eCB lenM (aCons (eVar 1) aNil)) (eC (.int 2)))) (bVal (eOp2 (eqM false) (eCall 2 F__law_next (aCons (eVar 0) (aCons (eC (.int 3)) aNil))) (eC (.int 0)))))) G sSkip) R [some (.loc 0), some (.p d), none, none, none, none, none] (strm ns c k :: r) = R [some (.loc 0), some (.p d), none, none, none, none, none] (strm ns c1 k1 :: r) := fun G R => by
        simp only [q_seq, q_if, hb, st_ok, Bool.false_eq_true, if_false, q_skip]
      rw [sp]
      cases hc with
      | no i =>
        obtain ⟨y, c2, k2, e2, hy1, hy2⟩ := q_next (ns := ns) (c := c1) (k := k1) (r := r) (many := 4) (by omega) (by omega)
        refine ⟨.tuple [.str "no", .int y], c2, k2, ?_, tr_two .no rfl⟩
        rw [seq_rt2 (w := .p (.tuple [.str "no", .int y])) (m' := strm ns c2 k2 :: r) (by simp) (by simp [e2, s2, mkTup])]
        exact fin _ _ _
      | by_ v ts h hl =>
        rw [seq_no (by simp)]
        obtain ⟨y, c2, k2, e2, hy1, hy2⟩ := q_next (ns := ns) (c := c1) (k := k1) (r := r) (many := 4) (by omega) (by omega)
        have sp : ∀ R : SX, sSeq (sSet 4 (eOp2 idxM (eVar 1) (eC (.int 2)))) (sSeq (sSet 5 (eCall 2 F__law_next (aCons (eVar 0) (aCons (eC (.int 4)) aNil)))) R) [some (.loc 0), some (.p (.tuple [.str "by", .int v, .tuple ts])), none, none, none, none, none] (strm ns c1 k1 :: r) = R [some (.loc 0), some (.p (.tuple [.str "by", .int v, .tuple ts])), none, none, some (.p (.tuple ts)), some (.p (.int y)), none] (strm ns c2 k2 :: r) := fun R => by simp [e2]
        rw [sp]
        have trs : ∀ t ∈ ts, Tr t := fun t ht => (h t ht).tr
        by_cases hy0 : y = 0
        · subst hy0
          obtain ⟨z, c3, k3, e3, hz1, hz2⟩ := q_next (ns := ns) (c := c2) (k := k2) (r := r) (many := 6) (by omega) (by omega)
          obtain ⟨u, hu, c4, k4, e4⟩ := q_pick (w := .p (.list [.int z, .bool true, .none, .int (-1), .str "0"])) (ds := [.int z, .bool true, .none, .int (-1), .str "0"]) (ns := ns) (c := c3) (k := k3) (r := r) (.inr rfl) (by simp) (by simp)
          have n1 : ∀ m, negM (.p (.int 1)) m = .ok (.p (.int (-1))) m := fun _ => rfl
          refine ⟨.tuple [.str "by", u, .tuple ts], c4, k4, ?_, tr_three .by_ (by simp at hu; rcases hu with rfl | rfl | rfl | rfl | rfl <;> rfl) rfl (fun ys e => by cases e; exact trs)⟩
          rw [seq_rt2 (w := .p (.tuple [.str "by", u, .tuple ts])) (m' := strm ns c4 k4 :: r) (by simp) (by simp [e3, n1, s5, e4, s3, mkTup])]
          exact fin _ _ _
        · have hyn : ∀ m, eqM false (.p (.int y)) (.p (.int 0)) m = .ok (.p (.bool false)) m := fun m => by simp [hy0]
          rw [seq_no (by simp [hy0])]
          have ty : ∀ m, isiM "tuple" (.p (.tuple ts)) m = .ok (.p (.bool true)) m := fun _ => rfl
          by_cases hc : y = 1 ∨ ts = []
          · have e3 := (o_addT (xs := ts) (ys := cutA ts none (some 1)) (m := strm ns c2 k2 :: r) (by have := (cutA_sub (ds := ts) (lo := none) (hi := some 1)).2; omega))
            obtain ⟨u, hu, c4, k4, e4⟩ := q_pick (w := .p (.list [.tuple (cutA ts (some 1) none), .tuple (ts ++ cutA ts none (some 1)), .tuple (ts.reverse.take (backN ts.length none)), .list ts, .none])) (ds := [.tuple (cutA ts (some 1) none), .tuple (ts ++ cutA ts none (some 1)), .tuple (ts.reverse.take (backN ts.length none)), .list ts, .none]) (ns := ns) (c := c2) (k := k2) (r := r) (.inr rfl) (by simp) (by simp)
            refine ⟨.tuple [.str "by", .int v, u], c4, k4, ?_, tr_three .by_ rfl (by simp at hu; rcases hu with rfl | rfl | rfl | rfl | rfl <;> rfl) (fun ys e => ?_)⟩
            · rw [seq_rt2 (w := .p (.tuple [.str "by", .int v, u])) (m' := strm ns c4 k4 :: r) (by
                rcases hc with rfl | rfl
                · simp
                · by_cases hy1 : y = 1
                  · simp [hy1]
                  · simp [hy1, ty, tru_t]) (by
                have l1 : ∀ m, listM [.p (.tuple ts)] m = .ok (.p (.list ts)) m := fun m => by simp [listM, seqW]
                have r1 : ∀ m, revM none (.p (.tuple ts)) m = .ok (.p (.tuple (ts.reverse.take (backN ts.length none)))) m := fun _ => rfl
                have cu1 : ∀ m, cutM (.p (.tuple ts)) (some 1) none m = .ok (.p (.tuple (cutA ts (some 1) none))) m := fun _ => rfl
                have cu2 : ∀ m, cutM (.p (.tuple ts)) none (some 1) m = .ok (.p (.tuple (cutA ts none (some 1)))) m := fun _ => rfl
                simp [ty, cu1, cu2, e3, r1, l1, s5, e4, s3, mkTup])]
              exact fin _ _ _
            · subst e
              simp at hu
              intro t ht
              rcases hu with e | e | e
              · subst e; exact trs t (cutA_sub.1 t ht)
              · subst e
                rcases List.mem_append.mp ht with ht | ht
                · exact trs t ht
                · exact trs t (cutA_sub.1 t ht)
              · subst e
                exact trs t (List.mem_reverse.mp (List.mem_of_mem_take ht))
          · rw [not_or] at hc
            have htne : ts.isEmpty = false := by
              cases ts with
              | nil => exact absurd rfl hc.2
              | cons => rfl
            rw [seq_no (by simp [hc.1, ty, tru_t, htne])]
            have hlpos : 0 < ts.length := List.length_pos_iff.mpr hc.2
            obtain ⟨z, c3, k3, e3, hz1, hz2⟩ := q_next (ns := ns) (c := c2) (k := k2) (r := r) (many := ts.length) (by omega) (by omega)
            obtain ⟨t, ht, et⟩ := atI_mem (xs := ts) hz1 hz2
            obtain ⟨t', c4, k4, e4, htr⟩ := ih (ns := ns) (c := c3) (k := k3) (h t ht) hw
            have a1 := (o_addT (xs := cutA ts none (some z)) (ys := [t']) (m := strm ns c4 k4 :: r) (by have := (cutA_sub (ds := ts) (lo := none) (hi := some z)).2; simp; omega))
            have a2 := (o_addT (xs := cutA ts none (some z) ++ [t']) (ys := cutA ts (some (z + 1)) none) (m := strm ns c4 k4 :: r) (by have := (cutA_sub (ds := ts) (lo := none) (hi := some z)).2; have := (cutA_sub (ds := ts) (lo := some (z + 1)) (hi := none)).2; simp; omega))
            have cu1 : ∀ m, cutM (.p (.tuple ts)) none (some z) m = .ok (.p (.tuple (cutA ts none (some z)))) m := fun _ => rfl
            have cu2 : ∀ m, cutM (.p (.tuple ts)) (some (z + 1)) none m = .ok (.p (.tuple (cutA ts (some (z + 1)) none))) m := fun _ => rfl
            have s1 : (1 ≤ sizeLine) = True := by simp [sizeLine_eq]
            refine ⟨.tuple [.str "by", .int v, .tuple (cutA ts none (some z) ++ [t'] ++ cutA ts (some (z + 1)) none)], c4, k4, ?_, tr_three .by_ rfl rfl (fun ys e => by
              cases e
              intro u hu
              rcases List.mem_append.mp hu with hu | hu
              · rcases List.mem_append.mp hu with hu | hu
                · exact trs u (cutA_sub.1 u hu)
                · simp at hu
                  subst hu
                  exact htr
              · exact trs u (cutA_sub.1 u hu))⟩
            simp only [q_seq, q_set, r_call, r_acons, r_anil, r_var, r_cb, List.getElem?_cons_succ, List.getElem?_cons_zero, bind_ok, o_lenT, List.length_cons, List.length_nil, decide_true, if_true, e3, st_ok, List.set_cons_succ, List.set_cons_zero]
            simp only [q_ret, r_tup, r_acons, r_anil, r_op2, r_c, r_var, r_cut, r_none, r_some, List.getElem?_cons_succ, List.getElem?_cons_zero, bind_ok, o_ixT, atI_0, atI_1, cu1, cu2, r_call, List.length_cons, List.length_nil, decide_true, if_true, et, e4, o_add]
            have m1 : mkTup [W.p t'] = .p (.tuple [t']) := rfl
            simp only [show (0 + 1 ≤ sizeLine) = True from by simp [sizeLine_eq], show (0 + 1 + 1 + 1 ≤ sizeLine) = True from by simp [sizeLine_eq], if_true, bind_ok, m1, a1, a2, st_ok, retE]
            exact fin _ _ _
end Mir.K60

namespace Mir.K60
open PySem PySem.Spec PyProof.Rows L2
structure It (d : PyData) : Prop where
  rl : RL d
  tr : ∀ ys, d = .tuple ys → ∀ y ∈ ys, Tr y
theorem evd3 {h x y : PyData} (a : Hd h) (b : It x) (c : It y) : Evd (.tuple [h, x, y]) := .three h x y a b.rl c.rl fun ys e _ => c.tr ys e
theorem it_sd {r : List Int} (h : r.length ≤ 1000) : It (sd r) := ⟨⟨rfl, fun ds e => by
  cases e
  refine ⟨by simpa using h, fun x hx => ?_⟩
  obtain ⟨i, _, rfl⟩ := List.mem_map.mp hx
  rfl⟩, fun ys e y hy => by
  cases e
  obtain ⟨i, _, rfl⟩ := List.mem_map.mp hy
  exact .oth _ rfl (by intro _ h; cases h)⟩
theorem it_ts {ts : List PyData} (h : ts.length ≤ 1000) (k : ∀ t ∈ ts, Tr t) : It (.tuple ts) := ⟨⟨rfl, fun ds e => by
  cases e
  exact ⟨h, fun x hx => (k x hx).nd⟩⟩, fun ys e y hy => by
  cases e
  exact k y hy⟩
theorem it_oth {d : PyData} (h : nd d = true) (h2 : ∀ ds, d ≠ .tuple ds) : It d := ⟨⟨h, fun ds e => absurd e (h2 ds)⟩, fun ds e => absurd e (h2 ds)⟩
theorem cl_rl {n : Nat} {d : PyData} (h : Cl n d) : RL d := by
  cases h with
  | no k => exact ⟨rfl, fun ds e => by cases e; exact ⟨by simp, fun x hx => by simp at hx; rcases hx with rfl | rfl <;> rfl⟩⟩
  | by_ v ts h hl => exact ⟨rfl, fun ds e => by cases e; exact ⟨by simp, fun x hx => by simp at hx; rcases hx with rfl | rfl | rfl <;> rfl⟩⟩
inductive Shp : PyData → Prop
  | two (h t : PyData) (a : h = .str "never") (b : Cl 7 t) : Shp (.tuple [h, t])
  | alw (h x : PyData) (ts : List PyData) (a : h = .str "always") (b : It x) (c : ∀ t ∈ ts, Cl 7 t) (d : ts ≠ []) (e : ts.length ≤ 3) : Shp (.tuple [h, x, .tuple ts])
  | som (h x y : PyData) (a : h = .str "sometimes") (b : It x) (c : It y) : Shp (.tuple [h, x, y])
theorem Shp.evd {d : PyData} (h : Shp d) : Evd d := by
  cases h with
  | two h t a b => subst a; exact .two _ _ .never fun _ => b.tr
  | alw h x ts a b c d e => subst a; exact evd3 .always b (it_ts (by omega) fun t ht => (c t ht).tr)
  | som h x y a b c => subst a; exact evd3 .some_ b c
def sC (q : Nat) (S : List (List Int)) (E : List (Int × Int)) (d : PyData) (p : Int) (R : List (List Int)) (o5 o6 : Option W) : Ev := [some (.loc 0), some (.p (gD q S E)), some (.p d), some (.p (.int p)), some (.p (.list (R.map sd))), o5, o6]
def chg2 (h t : PyData) : List PyData := [.none, .tuple [], .list [h, t], .tuple [h, t, .int 0], .tuple [h], .tuple [.str "never", t], .tuple [.str "always", t], .tuple [.str "sometimes", t], .tuple [.none, t], .tuple [h], .tuple [.str "sometimes", t]]
def chg3 (h x y : PyData) : List PyData := [.none, .tuple [], .list [h, x, y], .tuple [h, x, y, .int 0], .tuple [h], .tuple [.str "never", x, y], .tuple [.str "always", x, y], .tuple [.str "sometimes", x, y], .tuple [.none, x, y], .tuple [h, x], .tuple [.str "sometimes", y, x]]
def chgE : EX W := (eLst (aCons (eC .none) (aCons (eTup aNil) (aCons (eCB listM (aCons (eVar 2) aNil)) (aCons (eOp2 addM (eVar 2) (eTup (aCons (eC (.int 0)) aNil))) (aCons (eCut (eVar 2) oNone (oSome (eC (.int 1)))) (aCons (eOp2 addM (eTup (aCons (eC (.str "never")) aNil)) (eCut (eVar 2) (oSome (eC (.int 1))) oNone)) (aCons (eOp2 addM (eTup (aCons (eC (.str "always")) aNil)) (eCut (eVar 2) (oSome (eC (.int 1))) oNone)) (aCons (eOp2 addM (eTup (aCons (eC (.str "sometimes")) aNil)) (eCut (eVar 2) (oSome (eC (.int 1))) oNone)) (aCons (eOp2 addM (eTup (aCons (eC .none) aNil)) (eCut (eVar 2) (oSome (eC (.int 1))) oNone)) (aCons (eCut (eVar 2) oNone (oSome (eOp1 negM (eC (.int 1))))) (aCons (eOp2 addM (eTup (aCons (eC (.str "sometimes")) aNil)) (eOp1 (revM (some 0)) (eVar 2))) aNil))))))))))))
section
variable {q : Nat} {S : List (List Int)} {E : List (Int × Int)} {T : List (List Row)} {ns : List Int} {m : Hm} {h t x y : PyData} {p : Int} {R : List (List Int)} {o5 o6 : Option W}
theorem chg2_ok : chgE (sC q S E (.tuple [h, t]) p R o5 o6) m = .ok (.p (.list (chg2 h t))) m := by
  have n1 : negM (.p (.int 1)) m = .ok (.p (.int (-1))) m := rfl
  have s0 : (0 ≤ sizeLine) = True := by simp [sizeLine_eq]
  have s1 : (1 ≤ sizeLine) = True := by simp [sizeLine_eq]
  have s11 : (11 ≤ sizeLine) = True := by simp [sizeLine_eq]
  have l1 : listM [.p (.tuple [h, t])] m = .ok (.p (.list [h, t])) m := by simp [listM, seqW]
  have a0 : addM (.p (.tuple [h, t])) (.p (.tuple [.int 0])) m = .ok (.p (.tuple [h, t, .int 0])) m := o_addT (by simp)
  have a1 : ∀ z, addM (.p (.tuple [z])) (.p (.tuple [t])) m = .ok (.p (.tuple [z, t])) m := fun z => o_addT (by simp)
  have c1 : cutM (.p (.tuple [h, t])) none (some 1) m = .ok (.p (.tuple [h])) m := rfl
  have c2 : cutM (.p (.tuple [h, t])) (some 1) none m = .ok (.p (.tuple [t])) m := rfl
  have c3 : cutM (.p (.tuple [h, t])) none (some (-1)) m = .ok (.p (.tuple [h])) m := rfl
  have r1 : revM (some 0) (.p (.tuple [h, t])) m = .ok (.p (.tuple [t])) m := rfl
  simp [chgE, sC, n1, mkTup, s0, s1, s11, chg2, l1, a0, a1, c1, c2, c3, r1]
theorem chg3_ok : chgE (sC q S E (.tuple [h, x, y]) p R o5 o6) m = .ok (.p (.list (chg3 h x y))) m := by
  have n1 : negM (.p (.int 1)) m = .ok (.p (.int (-1))) m := rfl
  have s0 : (0 ≤ sizeLine) = True := by simp [sizeLine_eq]
  have s1 : (1 ≤ sizeLine) = True := by simp [sizeLine_eq]
  have s11 : (11 ≤ sizeLine) = True := by simp [sizeLine_eq]
  have l1 : listM [.p (.tuple [h, x, y])] m = .ok (.p (.list [h, x, y])) m := by simp [listM, seqW]
  have a0 : addM (.p (.tuple [h, x, y])) (.p (.tuple [.int 0])) m = .ok (.p (.tuple [h, x, y, .int 0])) m := o_addT (by simp)
  have a1 : ∀ z, addM (.p (.tuple [z])) (.p (.tuple [x, y])) m = .ok (.p (.tuple [z, x, y])) m := fun z => o_addT (by simp)
  have a2 : ∀ z, addM (.p (.tuple [z])) (.p (.tuple [y, x])) m = .ok (.p (.tuple [z, y, x])) m := fun z => o_addT (by simp)
  have c1 : cutM (.p (.tuple [h, x, y])) none (some 1) m = .ok (.p (.tuple [h])) m := rfl
  have c2 : cutM (.p (.tuple [h, x, y])) (some 1) none m = .ok (.p (.tuple [x, y])) m := rfl
  have c3 : cutM (.p (.tuple [h, x, y])) none (some (-1)) m = .ok (.p (.tuple [h, x])) m := rfl
  have r1 : revM (some 0) (.p (.tuple [h, x, y])) m = .ok (.p (.tuple [y, x])) m := rfl
  simp [chgE, sC, n1, mkTup, s0, s1, s11, chg3, l1, a0, a1, a2, c1, c2, c3, r1]
theorem chg2_evd (a : h = .str "never") (b : Cl 7 t) : ∀ z ∈ chg2 h t, Evd z := by
  subst a
  intro z hz
  simp only [chg2, List.mem_cons, List.not_mem_nil, or_false] at hz
  have i0 : It (.int 0) := it_oth rfl (by intro _ h; cases h)
  rcases hz with rfl | rfl | rfl | rfl | rfl | rfl | rfl | rfl | rfl | rfl | rfl
  · exact .oth _ rfl (by intro _ h; cases h)
  · exact .len _ (by simp)
  · exact .oth _ rfl (by intro _ h; cases h)
  · exact .three _ _ _ .never (cl_rl b) i0.rl (by intro ys h; cases h)
  · exact .len _ (by simp)
  · exact .two _ _ .never fun _ => b.tr
  · exact .two _ _ .always fun _ => b.tr
  · exact .two _ _ .some_ fun _ => b.tr
  · exact .two _ _ .non fun _ => b.tr
  · exact .len _ (by simp)
  · exact .two _ _ .some_ fun _ => b.tr
theorem chg3_evd (a : h = .str "always" ∨ h = .str "sometimes") (b : It x) (c : It y) : ∀ z ∈ chg3 h x y, Evd z := by
  intro z hz
  have hh : Hd h := by rcases a with rfl | rfl; exact .always; exact .some_
  have hn : isS h "never" = false := by rcases a with rfl | rfl <;> decide +kernel
  simp only [chg3, List.mem_cons, List.not_mem_nil, or_false] at hz
  rcases hz with rfl | rfl | rfl | rfl | rfl | rfl | rfl | rfl | rfl | rfl | rfl
  · exact .oth _ rfl (by intro _ h; cases h)
  · exact .len _ (by simp)
  · exact .oth _ rfl (by intro _ h; cases h)
  · exact .len _ (by simp)
  · exact .len _ (by simp)
  · exact evd3 .never b c
  · exact evd3 .always b c
  · exact evd3 .some_ b c
  · exact evd3 .non b c
  · exact .two _ _ hh fun h => by rw [hn] at h; cases h
  · exact evd3 .some_ c b
end
end Mir.K60

namespace Mir.K60
open PySem PySem.Spec PyProof.Rows L2
section
variable {q : Nat} {S : List (List Int)} {E : List (Int × Int)} {T : List (List Row)} {ns : List Int}
theorem rows_head {q n : Nat} (hq : 1 ≤ q) : ∃ r rest, rows q n = r :: rest ∧ r.length = n := by
  have hm : List.replicate n (0 : Int) ∈ rows q n := mem_rows.mpr ⟨by simp, fun v hv => by
    rw [List.eq_of_mem_replicate hv]
    omega⟩
  cases h : rows q n with
  | nil => rw [h] at hm; cases hm
  | cons r rest => exact ⟨r, rest, rfl, row_len (by rw [h]; exact List.mem_cons_self)⟩
def rowE : EX W := (eLst (aCons (eCall 2 F__law_pick (aCons (eVar 0) (aCons (eVar 4) aNil))) (aCons (eCB listM (aCons (eOp2 idxM (eVar 4) (eC (.int 0))) aNil)) (aCons (eOp2 addM (eOp2 idxM (eVar 4) (eC (.int 0))) (eTup (aCons (eC (.int 0)) aNil))) (aCons (eC .none) (aCons (eOp2 repM (eTup (aCons (eC (.bool true)) aNil)) (eCB lenM (aCons (eOp2 idxM (eVar 4) (eC (.int 0))) aNil))) aNil))))))
theorem row_pick {d : PyData} {p : Int} {R : List (List Int)} {n : Nat} (hn : 1 ≤ n ∧ n ≤ 6) (hR : ∀ r ∈ R, r.length = n) (hR0 : R ≠ []) (hRl : R.length ≤ 729) {r : Hm} {c : Int} {k : Nat} : ∃ (u : PyData) (c' : Int) (k' : Nat), (eCall 2 F__law_pick (aCons (eVar 0) (aCons rowE aNil))) (sC q S E d p R none none) (strm ns c k :: r) = .ok (.p u) (strm ns c' k' :: r) ∧ It u := by
  cases R with
  | nil => exact absurd rfl hR0
  | cons r0 rest =>
    have h0 := hR r0 List.mem_cons_self
    obtain ⟨y, hy, c1, k1, e1⟩ := q_pick (w := .p (.list ((r0 :: rest).map sd))) (ds := (r0 :: rest).map sd) (ns := ns) (c := c) (k := k) (r := r) (.inr rfl) (by simp) (by rw [List.length_map]; omega)
    obtain ⟨ry, hry, rfl⟩ := List.mem_map.mp hy
    have hryl := hR ry hry
    have rp : ∀ m, repM (.p (.tuple [.bool true])) (.p (.int r0.length)) m = .ok (.p (.tuple (List.replicate r0.length [PyData.bool true]).flatten)) m := fun m => by
      have a1 : 1 ≤ (r0.length : Int) := by omega
      have a2 : (r0.length : Int) ≤ 1000 := by omega
      simp [repM, a1, a2]
    have fl : (List.replicate r0.length [PyData.bool true]).flatten = List.replicate r0.length (.bool true) := by
      generalize r0.length = z
      induction z with
      | zero => rfl
      | succ z ih => simp [List.replicate_succ, ih]
    rw [fl] at rp
    obtain ⟨u, hu, c2, k2, e2⟩ := q_pick (w := .p (.list [sd ry, .list (r0.map .int), .tuple (r0.map .int ++ [.int 0]), .none, .tuple (List.replicate r0.length (.bool true))])) (ds := [sd ry, .list (r0.map .int), .tuple (r0.map .int ++ [.int 0]), .none, .tuple (List.replicate r0.length (.bool true))]) (ns := ns) (c := c1) (k := k1) (r := r) (.inr rfl) (by simp) (by simp)
    refine ⟨u, c2, k2, ?_, ?_⟩
    · have s1 : (1 ≤ sizeLine) = True := by simp [sizeLine_eq]
      have s5 : (5 ≤ sizeLine) = True := by simp [sizeLine_eq]
      have l1 : ∀ m, listM [.p (sd r0)] m = .ok (.p (.list (r0.map .int))) m := fun m => by simp only [listM, seqW, Option.bind_some, allP_map]
      have a0 : ∀ m, addM (.p (sd r0)) (.p (.tuple [.int 0])) m = .ok (.p (.tuple (r0.map .int ++ [.int 0]))) m := fun m => o_addT (by simp; omega)
      have le : ∀ m, lenM [.p (sd r0)] m = .ok (.p (.int r0.length)) m := fun m => by simp
      have ev : rowE (sC q S E d p (r0 :: rest) none none) (strm ns c k :: r) = .ok (.p (.list [sd ry, .list (r0.map .int), .tuple (r0.map .int ++ [.int 0]), .none, .tuple (List.replicate r0.length (.bool true))])) (strm ns c1 k1 :: r) := by
        have v0 : ∀ m, eVar 0 (sC q S E d p (r0 :: rest) none none) m = .ok (.loc 0) m := fun _ => rfl
        have v4 : ∀ m, eVar 4 (sC q S E d p (r0 :: rest) none none) m = .ok (.p (.list ((r0 :: rest).map sd))) m := fun _ => rfl
        unfold rowE
        simp only [List.map_cons] at v4 e1
        simp only [r_lst, r_acons, r_anil, r_call, v0, v4, bind_ok, List.length_cons, List.length_nil, decide_true, if_true, e1, r_cb, r_op2, r_c, o_ixL, atI_0, List.map_cons, List.getElem?_cons_zero, l1, r_tup, show (0 + 1 ≤ sizeLine) = True from by simp [sizeLine_eq], show mkTup [W.p (.int 0)] = .p (.tuple [.int 0]) from rfl, show mkTup [W.p (.bool true)] = .p (.tuple [.bool true]) from rfl, a0, le, rp]
        simp [s5, allP]
      have v0 : eVar 0 (sC q S E d p (r0 :: rest) none none) (strm ns c k :: r) = .ok (.loc 0) (strm ns c k :: r) := rfl
      simp only [r_call, r_acons, r_anil, v0, ev, bind_ok, List.length_cons, List.length_nil, decide_true, if_true, e2]
    · simp only [List.mem_cons, List.not_mem_nil, or_false] at hu
      rcases hu with rfl | rfl | rfl | rfl | rfl
      · exact it_sd (by omega)
      · exact it_oth rfl (by intro _ h; cases h)
      · refine it_ts (by simp; omega) fun t ht => ?_
        rcases List.mem_append.mp ht with ht | ht
        · obtain ⟨i, _, rfl⟩ := List.mem_map.mp ht
          exact .oth _ rfl (by intro _ h; cases h)
        · simp at ht
          subst ht
          exact .oth _ rfl (by intro _ h; cases h)
      · exact it_oth rfl (by intro _ h; cases h)
      · refine it_ts (by simp; omega) fun t ht => ?_
        rw [List.eq_of_mem_replicate ht]
        exact .oth _ rfl (by intro _ h; cases h)
theorem q_changed (hq0 : 1 ≤ q) (hq : q ≤ 3) (hS : Sc S) (hv0 : vs S ≠ []) {d : PyData} (hd : Shp d) {r : Hm} (hw : okR r) {c : Int} {k : Nat} : ∃ (d' : PyData) (c' : Int) (k' : Nat), F__law_changed [.loc 0, .p (gD q S E), .p d] (strm ns c k :: r) = .ok (.p d') (strm ns c' k' :: r) ∧ Evd d' := by
  have fin : ∀ (d : PyData) (c : Int) (k : Nat), endFn true (r.length + 1) (.p d) (strm ns c k :: r) = .ok (.p d) (strm ns c k :: r) := fun d c k => by
    have := fin_r (e := []) (d := d) (ns := ns) (c := c) (k := k) hw rfl
    rw [List.append_nil] at this
    exact this
  have v6 : (vs S).length ≤ 6 := vars_len hS _
  have v1 : 1 ≤ (vs S).length := List.length_pos_iff.mpr hv0
  have s2 : (2 ≤ sizeLine) = True := by simp [sizeLine_eq]
  have s3 : (3 ≤ sizeLine) = True := by simp [sizeLine_eq]
  obtain ⟨x, c1, k1, e1, hx1, hx2⟩ := q_next (ns := ns) (c := c) (k := k) (r := r) (many := 4) (by omega) (by omega)
  obtain ⟨e2, e3⟩ := q_law_every_vs (q := q) (E := E) (hw ns c1 k1) hS
  have e4 := q_law_rows (q := q) (n := (vs S).length) (m := strm ns c1 k1 :: r) (hw ns c1 k1) hq v6
  obtain ⟨r0, rest0, hr0, hr0l⟩ := rows_head (q := q) (n := (vs S).length) hq0
  have hR : ∀ r ∈ rows q (vs S).length, r.length = (vs S).length := fun r hr => row_len hr
  have hRl := rows_small (q := q) (n := (vs S).length) hq v6
  have hR0 : rows q (vs S).length ≠ [] := by rw [hr0]; simp
  unfold F__law_changed mkFn m__law_changed
  simp only [startE, List.length_cons, List.length_nil, List.map_cons, List.map_nil, decide_true, if_true, List.cons_append, List.nil_append, List.replicate]
  have sp : ∀ R : SX, sSeq (sSet 3 (eCall 2 F__law_next (aCons (eVar 0) (aCons (eC (.int 4)) aNil)))) (sSeq (sSet 4 (eCall 2 F__law_rows (aCons (eOp2 idxM (eVar 1) (eC (.int 0))) (aCons (eCB lenM (aCons (eUn (eCall 2 F__law_variables (aCons (eVar 1) (aCons (eCall 1 F__law_every (aCons (eVar 1) aNil)) aNil)))) aNil)) aNil)))) R) [some (.loc 0), some (.p (gD q S E)), some (.p d), none, none, none, none] (strm ns c k :: r) = R (sC q S E d x (rows q (vs S).length) none none) (strm ns c1 k1 :: r) := fun R => by
    simp [e1, e2, e3, unK_kt, e4, sC]
  rw [sp]
  by_cases hx0 : x = 0
  · subst hx0
    have fin0 : ∀ (L : List PyData) (hL : L.length = 11), chgE (sC q S E d 0 (rows q (vs S).length) none none) (strm ns c1 k1 :: r) = .ok (.p (.list L)) (strm ns c1 k1 :: r) → (∀ z ∈ L, Evd z) → ∀ R : SX, ∃ (d' : PyData) (c' : Int) (k' : Nat), retE true (r.length + 1) (sSeq (sIf (bVal (eOp2 (eqM false) (eVar 3) (eC (.int 0)))) (sRet (eCall 2 F__law_pick (aCons (eVar 0) (aCons chgE aNil)))) sSkip) R (sC q S E d 0 (rows q (vs S).length) none none) (strm ns c1 k1 :: r)) = .ok (.p d') (strm ns c' k' :: r) ∧ Evd d' := fun L hL e hE R => by
      obtain ⟨y, hy, c2, k2, e5⟩ := q_pick (w := .p (.list L)) (ds := L) (ns := ns) (c := c1) (k := k1) (r := r) (.inr rfl) (by omega) (by omega)
      refine ⟨y, c2, k2, ?_, hE y hy⟩
      have v0 : eVar 0 (sC q S E d 0 (rows q (vs S).length) none none) (strm ns c1 k1 :: r) = .ok (.loc 0) (strm ns c1 k1 :: r) := rfl
      rw [seq_rt2 (w := .p y) (m' := strm ns c2 k2 :: r) (by simp [sC]) (by
        simp only [q_ret, r_call, r_acons, r_anil, v0, e, bind_ok, List.length_cons, List.length_nil, decide_true, if_true, e5, st_ok])]
      exact fin _ _ _
    cases hd with
    | two h t a b => exact fin0 _ rfl chg2_ok (chg2_evd a b) _
    | alw h x ts a b cc dd e => exact fin0 _ rfl chg3_ok (chg3_evd (.inl a) b (it_ts (by omega) fun t ht => (cc t ht).tr)) _
    | som h x y a b c => exact fin0 _ rfl chg3_ok (chg3_evd (.inr a) b c) _
  · rw [seq_no (by simp [sC, hx0])]
    cases hd with
    | two h t a b =>
      subst a
      obtain ⟨t', c2, k2, e5, htr⟩ := q_bent 7 (ns := ns) (c := c1) (k := k1) b hw
      refine ⟨.tuple [.str "never", t'], c2, k2, ?_, .two _ _ .never fun _ => htr⟩
      rw [seq_rt2 (w := .p (.tuple [.str "never", t'])) (m' := strm ns c2 k2 :: r) (by simp [sC]) (by simp [sC, e5, s2, mkTup])]
      exact fin _ _ _
    | alw h x' ts a b cc dd e =>
      subst a
      rw [seq_no (by simp [sC])]
      obtain ⟨u, c2, k2, e5, hu⟩ := row_pick (q := q) (S := S) (E := E) (ns := ns) (d := .tuple [.str "always", x', .tuple ts]) (p := x) (r := r) (c := c1) (k := k1) ⟨v1, v6⟩ hR hR0 hRl
      rw [q_seq, q_set]
      have e5 : eCall 2 F__law_pick (aCons (eVar 0) (aCons rowE aNil)) _ _ = _ := e5
      unfold rowE at e5
      rw [e5]
      simp only [st_ok]
      have ht := it_ts (ts := ts) (by omega) fun t ht => (cc t ht).tr
      by_cases hx1 : x = 1
      · refine ⟨.tuple [.str "always", u, .tuple ts], c2, k2, ?_, evd3 .always hu ht⟩
        rw [seq_rt2 (w := .p (.tuple [.str "always", u, .tuple ts])) (m' := strm ns c2 k2 :: r) (by simp [sC, hx1]) (by simp [sC, s3, mkTup])]
        exact fin _ _ _
      · have w1 : ∀ m, eqM false (.p (.str "always")) (.p (.str "sometimes")) m = .ok (.p (.bool false)) m := fun m => eq_hd .always .some_ false
        have ty : ∀ m, isiM "tuple" (.p (.tuple ts)) m = .ok (.p (.bool true)) m := fun _ => rfl
        have htne : ts.isEmpty = false := by
          cases ts with
          | nil => exact absurd rfl dd
          | cons => rfl
        rw [seq_no (by simp [sC, hx1]), seq_no (by simp [sC, w1]), seq_no (by simp [sC, ty, tru_t, htne])]
        have hlpos : 0 < ts.length := List.length_pos_iff.mpr dd
        obtain ⟨z, c3, k3, e6, hz1, hz2⟩ := q_next (ns := ns) (c := c2) (k := k2) (r := r) (many := ts.length) (by omega) (by omega)
        obtain ⟨t, ht', et⟩ := atI_mem (xs := ts) hz1 hz2
        obtain ⟨t', c4, k4, e7, htr⟩ := q_bent 7 (ns := ns) (c := c3) (k := k3) (cc t ht') hw
        have a1 := (o_addT (xs := cutA ts none (some z)) (ys := [t']) (m := strm ns c4 k4 :: r) (by have := (cutA_sub (ds := ts) (lo := none) (hi := some z)).2; simp; omega))
        have a2 := (o_addT (xs := cutA ts none (some z) ++ [t']) (ys := cutA ts (some (z + 1)) none) (m := strm ns c4 k4 :: r) (by have := (cutA_sub (ds := ts) (lo := none) (hi := some z)).2; have := (cutA_sub (ds := ts) (lo := some (z + 1)) (hi := none)).2; simp; omega))
        have a3 := (o_addT (xs := ts) (ys := cutA ts none (some 1)) (m := strm ns c4 k4 :: r) (by have := (cutA_sub (ds := ts) (lo := none) (hi := some 1)).2; omega))
        have l1 : ∀ m, listM [.p (.tuple ts)] m = .ok (.p (.list ts)) m := fun m => by simp [listM, seqW]
        have cu1 : ∀ m, cutM (.p (.tuple ts)) none (some z) m = .ok (.p (.tuple (cutA ts none (some z)))) m := fun _ => rfl
        have cu2 : ∀ m, cutM (.p (.tuple ts)) (some (z + 1)) none m = .ok (.p (.tuple (cutA ts (some (z + 1)) none))) m := fun _ => rfl
        have cu3 : ∀ m, cutM (.p (.tuple ts)) (some 1) none m = .ok (.p (.tuple (cutA ts (some 1) none))) m := fun _ => rfl
        have cu4 : ∀ m, cutM (.p (.tuple ts)) none (some 1) m = .ok (.p (.tuple (cutA ts none (some 1)))) m := fun _ => rfl
        obtain ⟨w, hw', c5, k5, e8⟩ := q_pick (w := .p (.list [.tuple (cutA ts none (some z) ++ [t'] ++ cutA ts (some (z + 1)) none), .tuple (cutA ts (some 1) none), .tuple (ts ++ cutA ts none (some 1)), .list ts])) (ds := [.tuple (cutA ts none (some z) ++ [t'] ++ cutA ts (some (z + 1)) none), .tuple (cutA ts (some 1) none), .tuple (ts ++ cutA ts none (some 1)), .list ts]) (ns := ns) (c := c4) (k := k4) (r := r) (.inr rfl) (by simp) (by simp)
        have trs : ∀ t ∈ ts, Tr t := fun t ht => (cc t ht).tr
        have itw : It w := by
          simp only [List.mem_cons, List.not_mem_nil, or_false] at hw'
          have b1 := (cutA_sub (ds := ts) (lo := none) (hi := some z)).2
          have b2 := (cutA_sub (ds := ts) (lo := some (z + 1)) (hi := none)).2
          have b3 := (cutA_sub (ds := ts) (lo := some 1) (hi := none)).2
          have b4 := (cutA_sub (ds := ts) (lo := none) (hi := some 1)).2
          rcases hw' with rfl | rfl | rfl | rfl
          · refine it_ts (by simp; omega) fun u hu => ?_
            rcases List.mem_append.mp hu with hu | hu
            · rcases List.mem_append.mp hu with hu | hu
              · exact trs u (cutA_sub.1 u hu)
              · simp at hu
                subst hu
                exact htr
            · exact trs u (cutA_sub.1 u hu)
          · exact it_ts (by omega) fun u hu => trs u (cutA_sub.1 u hu)
          · refine it_ts (by simp; omega) fun u hu => ?_
            rcases List.mem_append.mp hu with hu | hu
            · exact trs u hu
            · exact trs u (cutA_sub.1 u hu)
          · exact it_oth rfl (by intro _ h; cases h)
        refine ⟨.tuple [.str "always", x', w], c5, k5, ?_, evd3 .always b itw⟩
        have cu5 : ∀ m, cutM (.p (.tuple [.str "always", x', .tuple ts])) none (some 2) m = .ok (.p (.tuple [.str "always", x'])) m := fun _ => rfl
        have a4 : addM (.p (.tuple [.str "always", x'])) (.p (.tuple [w])) (strm ns c5 k5 :: r) = .ok (.p (.tuple [.str "always", x', w])) (strm ns c5 k5 :: r) := o_addT (by simp)
        simp only [sC, List.set_cons_succ, List.set_cons_zero]
        simp only [q_seq, q_set, r_call, r_acons, r_anil, r_var, r_cb, r_op2, r_c, List.getElem?_cons_succ, List.getElem?_cons_zero, bind_ok, o_ixT, atI_2, o_lenT, List.length_cons, List.length_nil, decide_true, if_true, e6, st_ok, List.set_cons_succ, List.set_cons_zero]
        simp only [q_ret, r_op2, r_cut, r_none, r_some, r_tup, r_lst, r_acons, r_anil, r_call, r_cb, r_c, r_var, List.getElem?_cons_succ, List.getElem?_cons_zero, bind_ok, o_ixT, atI_2, cu5, cu1, et, List.length_cons, List.length_nil, decide_true, if_true, e7, show (0 + 1 ≤ sizeLine) = True from by simp [sizeLine_eq], show mkTup [W.p t'] = .p (.tuple [t']) from rfl, a1, o_add, cu2, a2, cu3, cu4, a3, l1]
        simp only [show (0 + 1 + 1 + 1 + 1 ≤ sizeLine) = True from by simp [sizeLine_eq], if_true, allP, Option.map, bind_ok]
        simp only [List.length_cons, List.length_nil, decide_true, if_true, e8, bind_ok, show (0 + 1 ≤ sizeLine) = True from by simp [sizeLine_eq], show mkTup [W.p w] = .p (.tuple [w]) from rfl, a4, st_ok, retE]
        exact fin _ _ _
    | som h x' y a b cc =>
      subst a
      rw [seq_no (by simp [sC])]
      obtain ⟨u, c2, k2, e5, hu⟩ := row_pick (q := q) (S := S) (E := E) (ns := ns) (d := .tuple [.str "sometimes", x', y]) (p := x) (r := r) (c := c1) (k := k1) ⟨v1, v6⟩ hR hR0 hRl
      rw [q_seq, q_set]
      unfold rowE at e5
      rw [e5]
      simp only [st_ok]
      by_cases hx1 : x = 1
      · refine ⟨.tuple [.str "sometimes", u, y], c2, k2, ?_, evd3 .some_ hu cc⟩
        rw [seq_rt2 (w := .p (.tuple [.str "sometimes", u, y])) (m' := strm ns c2 k2 :: r) (by simp [sC, hx1]) (by simp [sC, s3, mkTup])]
        exact fin _ _ _
      · have w1 : ∀ m, eqM false (.p (.str "sometimes")) (.p (.str "sometimes")) m = .ok (.p (.bool true)) m := fun m => eq_hd .some_ .some_ false
        have cu5 : ∀ m, cutM (.p (.tuple [.str "sometimes", x', y])) none (some 2) m = .ok (.p (.tuple [.str "sometimes", x'])) m := fun _ => rfl
        have a4 : ∀ m, addM (.p (.tuple [.str "sometimes", x'])) (.p (.tuple [u])) m = .ok (.p (.tuple [.str "sometimes", x', u])) m := fun m => o_addT (by simp)
        have s1 : (1 ≤ sizeLine) = True := by simp [sizeLine_eq]
        refine ⟨.tuple [.str "sometimes", x', u], c2, k2, ?_, evd3 .some_ b hu⟩
        rw [seq_no (by simp [sC, hx1]), seq_rt2 (w := .p (.tuple [.str "sometimes", x', u])) (m' := strm ns c2 k2 :: r) (by simp [sC, w1]) (by simp [sC, cu5, a4, s1, mkTup])]
        exact fin _ _ _
end
end Mir.K60

namespace Mir.K60
open PySem PySem.Spec PyProof.Rows L2
section
variable {q : Nat} {S : List (List Int)} {E : List (Int × Int)} {T : List (List Row)} {ns : List Int} {v val : Int}
theorem word_hd {α : Type} (a b : List α) : Hd (.str (wordS a b)) ∧ Wd (wordS a b) := by
  unfold wordS
  split
  · exact ⟨.never, .never⟩
  · split
    · exact ⟨.always, .always⟩
    · exact ⟨.some_, .some_⟩
theorem others_ne (g : q = 2 ∨ q = 3) : others q val ≠ [] := by
  have : ∃ x, x ∈ others q val := by
    by_cases h : val = 0
    · exact ⟨1, mem_others.mpr ⟨⟨by omega, by omega⟩, by omega⟩⟩
    · exact ⟨0, mem_others.mpr ⟨⟨by omega, by omega⟩, by omega⟩⟩
  obtain ⟨x, hx⟩ := this
  exact List.ne_nil_of_mem hx
theorem shp_told (g : GrOk q S E) (ht : TsOk q S T) (hqn : Qn q S v val) : Shp (told q S T v val) := by
  have hS := g.sc
  have hT := ht.tl
  have hv := hqn.v
  have hq : q ≤ 3 := by rcases g.q with h | h <;> omega
  have v6 : (vs S).length ≤ 6 := vars_len hS _
  have lo := fun (x : Int) => Nat.le_trans (left_only (S := S) (v := v) (val := x)) v6
  unfold told
  cases hw : wins q S T v val with
  | nil => exact .two _ _ rfl (cl_treeF hq hS hT 7 _ (by have := lo val; omega) (ns_win hv hw) (rng_only ⟨hqn.lo, hqn.hi⟩))
  | cons p rest =>
    have hps : p ∈ sols q S T (rgI S.length) := (List.mem_filter.mp (by rw [wins] at hw; rw [hw]; exact List.mem_cons_self)).1
    have hp6 : p.1.length ≤ 1000 := by have := (mem_rows.mp (sol_mem hps).1).1; omega
    cases hl : loses q S T v val with
    | nil =>
      refine .alw _ _ _ rfl (it_sd hp6) (fun t ht => ?_) (by simp; exact others_ne g.q) (by rw [List.length_map]; exact others_len hq)
      obtain ⟨x, hx, rfl⟩ := List.mem_map.mp ht
      have ho := mem_others.mp hx
      exact cl_treeF hq hS hT 7 _ (by have := lo x; omega) (ns_lose hv hl ho.2) (rng_only ho.1)
    | cons p' rest' =>
      have hps' : p' ∈ sols q S T (rgI S.length) := (List.mem_filter.mp (by rw [loses] at hl; rw [hl]; exact List.mem_cons_self)).1
      exact .som _ _ _ rfl (it_sd hp6) (it_sd (by have := (mem_rows.mp (sol_mem hps').1).1; omega))
/-- one turn of the law -/
theorem law_turn {sc w9 w10 w11 : W} {toldD : PyData} {made : List PyData} {r : Hm} {i : Int} {c : Int} {k : Nat} (g : GrOk q S E) (hT : TsOk q S T) (hqn : Qn q S v val) (hw : okR r) (hm4 : made.length = 4) (hmade : ∀ d ∈ made, Shp d) (htold : Shp toldD) (hi : 0 ≤ i) : ∃ (c' : Int) (k' : Nat), L1_law [some sc, some (.loc 0), some (.p (gD q S E)), some (.p (tsD T)), some (.kt ((vs S).map .int)), some (.p (.int v)), some (.p (.int val)), some (.p (.str (wordS (wins q S T v val) (loses q S T v val)))), some (.p toldD), some w9, some w10, some w11, some (.p (.list made)), some (.p (.int i)), none, none, none] (strm ns c k :: r) =
    some (.nx [some sc, some (.loc 0), some (.p (gD q S E)), some (.p (tsD T)), some (.kt ((vs S).map .int)), some (.p (.int v)), some (.p (.int val)), some (.p (.str (wordS (wins q S T v val) (loses q S T v val)))), some (.p toldD), some w9, some w10, some w11, some (.p (.list made)), none, none, none, none], strm ns c' k' :: r) := by
  have hq : q ≤ 3 := by rcases g.q with h | h <;> omega
  have hq0 : 1 ≤ q := by rcases g.q with h | h <;> omega
  have hv0 : vs S ≠ [] := List.ne_nil_of_mem hqn.v
  obtain ⟨row, c1, k1, e1, hrow⟩ : ∃ (row : PyData) (c1 : Int) (k1 : Nat), (eIf (bVal (eOp2 ltM (eVar 13) (eC (.int 4)))) (eOp2 idxM (eVar 12) (eVar 13)) (eCall 3 F__law_changed (aCons (eVar 1) (aCons (eVar 2) (aCons (eCall 2 F__law_pick (aCons (eVar 1) (aCons (eOp2 addM (eVar 12) (eLst (aCons (eVar 8) aNil))) aNil))) aNil))))) [some sc, some (.loc 0), some (.p (gD q S E)), some (.p (tsD T)), some (.kt ((vs S).map .int)), some (.p (.int v)), some (.p (.int val)), some (.p (.str (wordS (wins q S T v val) (loses q S T v val)))), some (.p toldD), some w9, some w10, some w11, some (.p (.list made)), some (.p (.int i)), none, none, none] (strm ns c k :: r) = .ok (.p row) (strm ns c1 k1 :: r) ∧ Evd row := by
    by_cases h4 : i < 4
    · obtain ⟨d, hd, e⟩ := atI_mem (xs := made) hi (by omega)
      exact ⟨d, c, k, by simp [h4, e], (hmade d hd).evd⟩
    · have ad : addM (.p (.list made)) (.p (.list [toldD])) (strm ns c k :: r) = .ok (.p (.list (made ++ [toldD]))) (strm ns c k :: r) := o_addL (by simp; omega)
      obtain ⟨d, hd, c1, k1, e1⟩ := q_pick (w := .p (.list (made ++ [toldD]))) (ds := made ++ [toldD]) (ns := ns) (c := c) (k := k) (r := r) (.inr rfl) (by simp) (by simp; omega)
      have hds : Shp d := by
        rcases List.mem_append.mp hd with hd | hd
        · exact hmade d hd
        · simp at hd
          subst hd
          exact htold
      obtain ⟨d', c2, k2, e2, hev⟩ := q_changed (E := E) (ns := ns) (c := c1) (k := k1) hq0 hq g.sc hv0 hds hw
      have s1 : (1 ≤ sizeLine) = True := by simp [sizeLine_eq]
      exact ⟨d', c2, k2, by simp [h4, s1, allP, ad, e1, e2], hev⟩
  have a1 := q_law_accepted (E := E) (m := strm ns c1 k1 :: r) hq g hT hqn (hw ns c1 k1) hrow
  have a2 := q_accepts (E := E) (m := strm ns c1 k1 :: r) hq g hT hqn (hw ns c1 k1) hrow
  have e5 := q_equal (n := 4) (m := strm ns c1 k1 :: r) (.bl (acc q S T v val row))
  refine ⟨c1, k1, ?_⟩
  unfold L1_law
  simp only [q_tidy, q_seq, q_set, e1, st_ok, List.set_cons_succ, List.set_cons_zero]
  simp only [q_if, r_bor, r_band, r_bval, r_call, r_acons, r_anil, r_var, r_op2, r_c, r_bnot, r_btru, List.set_cons_succ, List.set_cons_zero, List.getElem?_cons_succ, List.getElem?_cons_zero, bind_ok, List.length_cons, List.length_nil, decide_true, if_true, a1, a2, e5, st_ok, r_tru, Bool.not_true, Bool.false_eq_true, if_false, q_skip]
  cases ha : acc q S T v val row with
  | false =>
    simp only [Bool.false_eq_true, if_false, bind_ok, st_ok]
    rw [tidy_len (by rfl)]
    simp [wipeE]
  | true =>
    obtain ⟨rest, hrest⟩ := word_of_acc g.sc hqn.v hrow ha
    subst hrest
    have hh := word_hd (wins q S T v val) (loses q S T v val)
    have ne := eq_hd (m := strm ns c1 k1 :: r) hh.1 hh.2 true
    rw [isS_self] at ne
    simp only [if_true, o_ixT, atI_0, List.getElem?_cons_zero, bind_ok, ne, Bool.not_true, r_boolOf, st_ok, Bool.false_eq_true, if_false]
    rw [tidy_len (by rfl)]
    simp [wipeE]
end
end Mir.K60

namespace Mir.K60
open PySem PySem.Spec PyProof.Rows L2
theorem okR_nil : okR [] := fun _ _ _ => rfl
theorem law_true : ∀ ns : List Int, ns.length ≤ 63 → ∃ m, F_law [.ro (ns.map .int)] [] = .ok (.p (.bool true)) m := by
  intro ns _
  obtain ⟨q, S, E, c1, k1, e1, g, hl4, hs2⟩ := q_law_graph (ns := ns) (c := 0) (k := 0) (nm := 3) (by omega)
  have e1 : F__law_graph [.loc 0, .p (.int 3), .p (.int 2)] [strm ns 0 0] = .ok (.p (gD q S E)) [strm ns c1 k1] := e1
  have hq : q ≤ 3 := by rcases g.q with h | h <;> omega
  have hqq : 1 ≤ q := by rcases g.q with h | h <;> omega
  have hq0 : (0 : Int) < q ∧ (q : Int) < 1073741824 := by rcases g.q with h | h <;> omega
  obtain ⟨T, c2, k2, e2, hT⟩ := q_law_tables (q := q) (S := S) (E := E) (ns := ns) (c := c1) (k := k1) hq g.sc
  have e3 := q_every (q := q) (S := S) (E := E) (m := [strm ns c2 k2]) g.sc.len
  have e4 := q_law_variables (q := q) (E := E) (m := [strm ns c2 k2]) (by rfl) g.sc (nd_all g.sc) (wn := .p (.list ((rgI S.length).map .int))) (.inr rfl)
  refine ⟨[], ?_⟩
  have fin : ∀ m : Hm, endFn true 0 (.p (.bool true)) m = .ok (.p (.bool true)) [] := fun m => by
    unfold endFn
    have : okM 0 m = true := by simp [okM]
    simp [this, okW]
  by_cases hv0 : vars S (rgI S.length) = []
  · have e5 : eqM false (.p (.tuple ((vars S (rgI S.length)).map .int))) (.p (.tuple [])) [strm ns c2 k2] = .ok (.p (.bool true)) [strm ns c2 k2] := by
      rw [hv0]
      have := o_eqT (a := []) (b := []) (m := [strm ns c2 k2])
      simpa using this
    unfold F_law mkFn m_law
    simp [startE, q_stream, e1, e2, e3, e4, unK_kt, e5, mkTup]
    exact fin _
  have e5 : eqM false (.p (.tuple ((vars S (rgI S.length)).map .int))) (.p (.tuple [])) [strm ns c2 k2] = .ok (.p (.bool false)) [strm ns c2 k2] := by
    have := o_eqT (a := vars S (rgI S.length)) (b := []) (m := [strm ns c2 k2])
    simpa [hv0] using this
  have hvl := vars_len g.sc (rgI S.length)
  obtain ⟨y, hy, c3, k3, e6⟩ := q_pick (w := .p (.tuple ((vars S (rgI S.length)).map .int))) (ds := (vars S (rgI S.length)).map .int) (ns := ns) (c := c2) (k := k2) (r := []) (.inl rfl) (by rw [List.length_map]; exact List.length_pos_iff.mpr hv0) (by rw [List.length_map]; omega)
  obtain ⟨v, hv, rfl⟩ := List.mem_map.mp hy
  obtain ⟨val, c4, k4, e7, hv1, hv2⟩ := q_next (ns := ns) (c := c3) (k := k3) (r := []) (many := q) hq0.1 hq0.2
  have hqn : Qn q S v val := ⟨hv, hv1, hv2⟩
  have hw4 := okR_nil ns c4 k4
  have e8 := q_verdict (E := E) (m := [strm ns c4 k4]) hw4 hq g hT hqn
  have e9 := q_verdict_evidence (E := E) (m := [strm ns c4 k4]) hw4 hq g hT hqn
  have sht := shp_told (E := E) g hT hqn
  have tac := told_acc (T := T) g.sc hT.tl hqn
  have a1 := q_law_accepted (E := E) (m := [strm ns c4 k4]) hq g hT hqn hw4 sht.evd
  have a2 := q_accepts (E := E) (m := [strm ns c4 k4]) hq g hT hqn hw4 sht.evd
  rw [tac] at a1 a2
  have hh := word_hd (wins q S T v val) (loses q S T v val)
  have w0 := eq_hd (m := [strm ns c4 k4]) hh.1 hh.2 true
  rw [isS_self] at w0
  have ix0 : idxM (.p (told q S T v val)) (.p (.int 0)) [strm ns c4 k4] = .ok (.p (.str (wordS (wins q S T v val) (loses q S T v val)))) [strm ns c4 k4] := by
    obtain ⟨rest, hr⟩ := told_head (q := q) (S := S) (T := T) (v := v) (val := val)
    rw [hr]
    simp
  have bl : isBlM true (.p (.bool true)) (.p (.bool true)) [strm ns c4 k4] = .ok (.p (.bool false)) [strm ns c4 k4] := rfl
  have e10 := q_law_rows (q := q) (n := (vs S).length) (m := [strm ns c4 k4]) hw4 hq hvl
  obtain ⟨r0, rest0, hr0, hr0l⟩ := rows_head (q := q) (n := (vs S).length) hqq
  have hRl := rows_small (q := q) (n := (vs S).length) hq hvl
  have v6 : (vs S).length ≤ 6 := hvl
  have lo := fun (x : Int) => Nat.le_trans (left_only (S := S) (v := v) (val := x)) v6
  have ol := others_len (q := q) (val := val) hq
  generalize hW : W.p (.str (wordS (wins q S T v val) (loses q S T v val))) = word at *
  generalize hTo : told q S T v val = toldD at *
  -- the others
  have st10 : C1_law [some (.ro (ns.map .int)), some (.loc 0), some (.p (gD q S E)), some (.p (tsD T)), some (.kt ((vs S).map .int)), some (.p (.int v)), some (.p (.int val)), some word, some (.p toldD), some (.p (.list ((rows q (vs S).length).map sd))), none, none, none, none, none, none, none] [strm ns c4 k4] = .ok (.p (.list ((others q val).map .int))) [strm ns c4 k4] := by
    unfold C1_law
    rw [lc_data (rgI q) (fun i => .p (.int i)) (fun x => !(x == val)) .int (gs := []) (by
      have := rg_it (n := q) (m := [strm ns c4 k4]) (by omega)
      simp at this ⊢
      exact this) rfl (by simp [rgI]; omega) fun x hx => ⟨_, rfl, by simp [wipeE], fun _ => by simp [wipeE]⟩]
    rfl
  -- the trees
  obtain ⟨ts, m5, l5, c5, k5, r5, rfl, hw5, hts, htl⟩ := lc_ex (src := iSeq (eVar 10)) (gs := []) (t := .n 16) (g := bYes) (f := eCall 4 (F__law_made_tree 7) (aCons (eVar 1) (aCons (eVar 2) (aCons (eVar 3) (aCons (eDisp [((eVar 5), (eVar 16))]) aNil))))) (vs := [16]) (s := [some (.ro (ns.map .int)), some (.loc 0), some (.p (gD q S E)), some (.p (tsD T)), some (.kt ((vs S).map .int)), some (.p (.int v)), some (.p (.int val)), some word, some (.p toldD), some (.p (.list ((rows q (vs S).length).map sd))), some (.p (.list ((others q val).map .int))), none, none, none, none, none, none]) (m := [strm ns c4 k4]) (m0 := [strm ns c4 k4])
    (others q val) (fun x => .p (.int x)) (fun pre ds m => ∃ (c : Int) (k : Nat) (r : Hm), m = strm ns c k :: r ∧ okR r ∧ (∀ d ∈ ds, Cl 7 d) ∧ ds.length = pre.length) (by simp [Function.comp_def]) (by omega) (fun _ _ _ _ => rfl) (by
      rintro pre x post ds m hx ⟨c, k, r, rfl, hw, hds, hdl⟩
      refine ⟨_, rfl, true, _, rfl, fun _ => ?_, fun h => by cases h⟩
      have dp := fun s2 h1 h2 => o_disp (m := strm ns c k :: r) (s := s2) (e1 := eVar 5) (e2 := eVar 16) (v := v) (x := x) h1 h2
      have kn : KN 1 (r ++ [.dct (kd [(v, x)])]) r.length (only v x) := kn_only
      obtain ⟨d, c', k', e, hd⟩ := q_made_tree (E := E) (T := T) (ns := ns) (c := c) (k := k) hqq hq g.sc hT.tl 7 kn (by omega) (hw.dct (kn := [(v, x)])) (by have := lo x; omega)
      refine ⟨d, _, ?_, c', k', r ++ [.dct (kd [(v, x)])], rfl, hw.dct, ?_, by simp [hdl]⟩
      · simp only [wipeE, r_call, r_acons, r_anil, r_var, List.foldl_cons, List.foldl_nil, List.set_cons_succ, List.set_cons_zero, List.getElem?_cons_succ, List.getElem?_cons_zero, bind_ok]
        rw [dp _ (by simp) (by simp)]
        simp only [bind_ok, List.length_cons, List.length_nil, decide_true, if_true]
        exact e
      · intro z hz
        rcases List.mem_append.mp hz with hz | hz
        · exact hds z hz
        · simp at hz; subst hz; exact hd) ⟨c4, k4, [], rfl, okR_nil, by simp, rfl⟩
  have l5 : C2_law _ _ = _ := l5
  -- the four that are made
  have dp6 := o_disp (m := strm ns c5 k5 :: r5) (s := [some (.ro (ns.map .int)), some (.loc 0), some (.p (gD q S E)), some (.p (tsD T)), some (.kt ((vs S).map .int)), some (.p (.int v)), some (.p (.int val)), some word, some (.p toldD), some (.p (.list ((rows q (vs S).length).map sd))), some (.p (.list ((others q val).map .int))), some (.p (.tuple ts)), none, none, none, none, none]) (e1 := eVar 5) (e2 := eVar 6) (v := v) (x := val) (by simp) (by simp)
  have kn6 : KN 1 (r5 ++ [.dct (kd [(v, val)])]) r5.length (only v val) := kn_only
  have hw6 : okR (r5 ++ [.dct (kd [(v, val)])]) := hw5.dct
  obtain ⟨t6, c6, k6, e6t, ht6⟩ := q_made_tree (E := E) (T := T) (ns := ns) (c := c5) (k := k5) hqq hq g.sc hT.tl 7 kn6 (by omega) hw6 (by have := lo val; omega)
  have e6t : F__law_made_tree 7 [.loc 0, .p (gD q S E), .p (tsD T), .loc (strm ns c5 k5 :: r5).length] (strm ns c5 k5 :: r5 ++ [.dct (kd [(v, val)])]) = .ok (.p t6) (strm ns c6 k6 :: (r5 ++ [.dct (kd [(v, val)])])) := e6t
  generalize hr6 : r5 ++ [Cell.dct (kd [(v, val)])] = r6 at *
  have pk := fun (c : Int) (k : Nat) => q_pick (w := .p (.list ((rows q (vs S).length).map sd))) (ds := (rows q (vs S).length).map sd) (ns := ns) (c := c) (k := k) (r := r6) (.inr rfl) (by rw [hr0]; simp) (by rw [List.length_map]; omega)
  obtain ⟨x7, hx7, c7, k7, e7p⟩ := pk c6 k6
  obtain ⟨x8, hx8, c8, k8, e8p⟩ := pk c7 k7
  obtain ⟨x9, hx9, c9, k9, e9p⟩ := pk c8 k8
  have itr : ∀ x ∈ (rows q (vs S).length).map sd, It x := fun x hx => by
    obtain ⟨r, hr, rfl⟩ := List.mem_map.mp hx
    exact it_sd (by have := row_len hr; omega)
  have hmade : ∀ d ∈ [toldD, .tuple [.str "never", t6], .tuple [.str "always", x7, .tuple ts], .tuple [.str "sometimes", x8, x9]], Shp d := by
    intro d hd
    simp only [List.mem_cons, List.not_mem_nil, or_false] at hd
    rcases hd with rfl | rfl | rfl | rfl
    · exact sht
    · exact .two _ _ rfl ht6
    · refine .alw _ _ _ rfl (itr _ hx7) hts ?_ (by omega)
      have := others_ne (q := q) (val := val) g.q
      intro h
      rw [h] at htl
      exact this (List.length_eq_zero_iff.mp htl.symm)
    · exact .som _ _ _ rfl (itr _ hx8) (itr _ hx9)
  -- the loop
  obtain ⟨s1, m1, l1, c10, k10, rfl, rfl⟩ := for_ex (gs := []) (t := .n 13) (body := L1_law) (e := fun i => W.p (.int i)) (xs := rgI 10) (s := [some (.ro (ns.map .int)), some (.loc 0), some (.p (gD q S E)), some (.p (tsD T)), some (.kt ((vs S).map .int)), some (.p (.int v)), some (.p (.int val)), some word, some (.p toldD), some (.p (.list ((rows q (vs S).length).map sd))), some (.p (.list ((others q val).map .int))), some (.p (.tuple ts)), some (.p (.list [toldD, .tuple [.str "never", t6], .tuple [.str "always", x7, .tuple ts], .tuple [.str "sometimes", x8, x9]])), none, none, none, none]) (m := strm ns c9 k9 :: r6)
    (fun _ s m => ∃ (c : Int) (k : Nat), s = [some (.ro (ns.map .int)), some (.loc 0), some (.p (gD q S E)), some (.p (tsD T)), some (.kt ((vs S).map .int)), some (.p (.int v)), some (.p (.int val)), some word, some (.p toldD), some (.p (.list ((rows q (vs S).length).map sd))), some (.p (.list ((others q val).map .int))), some (.p (.tuple ts)), some (.p (.list [toldD, .tuple [.str "never", t6], .tuple [.str "always", x7, .tuple ts], .tuple [.str "sometimes", x8, x9]])), none, none, none, none] ∧ m = strm ns c k :: r6) (fun _ _ _ _ => rfl) (by
      rintro pre x post _ _ hx ⟨c, k, rfl, rfl⟩
      have hx0 : 0 ≤ x := (mem_rgI.mp (by rw [hx]; simp : x ∈ rgI 10)).1
      subst hW
      obtain ⟨c', k', e⟩ := law_turn (ns := ns) (c := c) (k := k) (i := x) (sc := .ro (ns.map .int)) (w9 := .p (.list ((rows q (vs S).length).map sd))) (w10 := .p (.list ((others q val).map .int))) (w11 := .p (.tuple ts)) g hT hqn hw6 rfl hmade sht hx0
      exact ⟨_, rfl, _, _, e, c', k', rfl, rfl⟩) ⟨c9, k9, rfl, rfl⟩
  have l1' : (rgI 10).map (fun i => W.p (.int i)) = ((rgP 0 10).map W.p) := by rw [show (10 : Int) = ((10 : Nat) : Int) from rfl, rgP_eq]; simp
  rw [l1'] at l1
  unfold F_law mkFn m_law
  simp only [startE, List.length_cons, List.length_nil, List.map_cons, List.map_nil, decide_true, if_true, List.cons_append, List.nil_append, List.replicate]
  have s2 : (2 ≤ sizeLine) = True := by simp [sizeLine_eq]
  have sp1 : ∀ R : SX, (sSeq (sSet 1 (eCall 1 F__law_stream (aCons (eVar 0) aNil))) (sSeq (sSet 2 (eCall 3 F__law_graph (aCons (eVar 1) (aCons (eC (.int 3)) (aCons (eC (.int 2)) aNil))))) (sSeq (sSet 3 (eCall 2 F__law_tables (aCons (eVar 1) (aCons (eVar 2) aNil)))) (sSeq (sSet 4 (eCall 2 F__law_variables (aCons (eVar 2) (aCons (eCall 1 F__law_every (aCons (eVar 2) aNil)) aNil)))) (sSeq (sIf (bVal (eOp2 (eqM false) (eUn (eVar 4)) (eTup aNil))) (sRet (eC (.bool true))) sSkip) (sSeq (sSet 5 (eCall 2 F__law_pick (aCons (eVar 1) (aCons (eUn (eVar 4)) aNil)))) (sSeq (sSet 6 (eCall 2 F__law_next (aCons (eVar 1) (aCons (eOp2 idxM (eVar 2) (eC (.int 0))) aNil)))) (sSeq (sSet 7 (eCall 4 F_verdict (aCons (eVar 2) (aCons (eVar 3) (aCons (eVar 5) (aCons (eVar 6) aNil)))))) (sSeq (sSet 8 (eCall 4 F_verdict_evidence (aCons (eVar 2) (aCons (eVar 3) (aCons (eVar 5) (aCons (eVar 6) aNil)))))) R)))))))))
      [some (.ro (ns.map .int)), none, none, none, none, none, none, none, none, none, none, none, none, none, none, none, none] [] = R [some (.ro (ns.map .int)), some (.loc 0), some (.p (gD q S E)), some (.p (tsD T)), some (.kt ((vs S).map .int)), some (.p (.int v)), some (.p (.int val)), some word, some (.p toldD), none, none, none, none, none, none, none, none] [strm ns c4 k4] := fun R => by
    simp [q_stream, e1, e2, e3, e4, unK_kt, e5, mkTup, e6, e7, e8, e9]
  rw [sp1]
  rw [ret_c false (by simp [ix0, w0, a1, a2, bl])]
  rw [if_neg Bool.false_ne_true]
  have sp2 : ∀ R : SX, (sSeq (sSet 9 (eCall 2 F__law_rows (aCons (eOp2 idxM (eVar 2) (eC (.int 0))) (aCons (eCB lenM (aCons (eUn (eVar 4)) aNil)) aNil)))) (sSeq (sSet 10 C1_law) (sSeq (sSet 11 (eCB tupleM (aCons C2_law aNil))) R))) [some (.ro (ns.map .int)), some (.loc 0), some (.p (gD q S E)), some (.p (tsD T)), some (.kt ((vs S).map .int)), some (.p (.int v)), some (.p (.int val)), some word, some (.p toldD), none, none, none, none, none, none, none, none] [strm ns c4 k4] = R [some (.ro (ns.map .int)), some (.loc 0), some (.p (gD q S E)), some (.p (tsD T)), some (.kt ((vs S).map .int)), some (.p (.int v)), some (.p (.int val)), some word, some (.p toldD), some (.p (.list ((rows q (vs S).length).map sd))), some (.p (.list ((others q val).map .int))), some (.p (.tuple ts)), none, none, none, none, none] (strm ns c5 k5 :: r5) := fun R => by
    simp only [q_seq, q_set, r_call, r_acons, r_anil, r_op2, r_c, r_var, r_cb, r_un, unK_kt, List.getElem?_cons_succ, List.getElem?_cons_zero, bind_ok, o_ixT, atI_0, o_lenT, List.length_map, List.length_cons, List.length_nil, decide_true, if_true, e10, st_ok, List.set_cons_succ, List.set_cons_zero, st10, l5, o_tupL]
  rw [sp2]
  have mk : (eLst (aCons (eVar 8) (aCons (eTup (aCons (eC (.str "never")) (aCons (eCall 4 (F__law_made_tree 7) (aCons (eVar 1) (aCons (eVar 2) (aCons (eVar 3) (aCons (eDisp [((eVar 5), (eVar 6))]) aNil))))) aNil))) (aCons (eTup (aCons (eC (.str "always")) (aCons (eCall 2 F__law_pick (aCons (eVar 1) (aCons (eVar 9) aNil))) (aCons (eVar 11) aNil)))) (aCons (eTup (aCons (eC (.str "sometimes")) (aCons (eCall 2 F__law_pick (aCons (eVar 1) (aCons (eVar 9) aNil))) (aCons (eCall 2 F__law_pick (aCons (eVar 1) (aCons (eVar 9) aNil))) aNil)))) aNil))))) [some (.ro (ns.map .int)), some (.loc 0), some (.p (gD q S E)), some (.p (tsD T)), some (.kt ((vs S).map .int)), some (.p (.int v)), some (.p (.int val)), some word, some (.p toldD), some (.p (.list ((rows q (vs S).length).map sd))), some (.p (.list ((others q val).map .int))), some (.p (.tuple ts)), none, none, none, none, none] (strm ns c5 k5 :: r5) = .ok (.p (.list [toldD, .tuple [.str "never", t6], .tuple [.str "always", x7, .tuple ts], .tuple [.str "sometimes", x8, x9]])) (strm ns c9 k9 :: r6) := by
    simp only [r_lst, r_tup, r_acons, r_anil, r_c, r_call, r_var, List.getElem?_cons_succ, List.getElem?_cons_zero, bind_ok, dp6, List.length_cons, List.length_nil, decide_true, if_true]
    have e6t : F__law_made_tree 7 [.loc 0, .p (gD q S E), .p (tsD T), .loc (r5.length + 1)] (strm ns c5 k5 :: r5 ++ [.dct (kd [(v, val)])]) = .ok (.p t6) (strm ns c6 k6 :: r6) := e6t
    simp only [e6t, bind_ok, show (0 + 1 + 1 ≤ sizeLine) = True from by simp [sizeLine_eq], show (0 + 1 + 1 + 1 ≤ sizeLine) = True from by simp [sizeLine_eq], show (0 + 1 + 1 + 1 + 1 ≤ sizeLine) = True from by simp [sizeLine_eq], if_true, e7p, e8p, e9p, List.length_cons, List.length_nil, decide_true]
    rfl
  have rg : iRg1 (eC (.int 10)) [some (.ro (ns.map .int)), some (.loc 0), some (.p (gD q S E)), some (.p (tsD T)), some (.kt ((vs S).map .int)), some (.p (.int v)), some (.p (.int val)), some word, some (.p toldD), some (.p (.list ((rows q (vs S).length).map sd))), some (.p (.list ((others q val).map .int))), some (.p (.tuple ts)), some (.p (.list [toldD, .tuple [.str "never", t6], .tuple [.str "always", x7, .tuple ts], .tuple [.str "sometimes", x8, x9]])), none, none, none, none] (strm ns c9 k9 :: r6) = .ok ⟨(rgP 0 10).map W.p, []⟩ (strm ns c9 k9 :: r6) := by simp
  simp only [q_seq, q_set, mk, st_ok, List.set_cons_succ, List.set_cons_zero, q_for, rg, l1, q_ret, r_c, retE]
  exact fin _
end Mir.K60

namespace Mir.K60
open PySem PySem.Spec PyProof.Rows L2
def dd (x : Str) (i : Nat) : He.DefD := ⟨(x, none), x, x, defArgs (top i), defBody (top i), defScope (top i), [], []⟩
def fn : List He.DefD := [dd "is_whole" 7, dd "is_climbing" 8, dd "are_variables" 9, dd "is_scope" 10, dd "is_row" 11, dd "is_table" 12, dd "rows_of" 13, dd "cut_to" 14, dd "is_number" 17, dd "is_edge" 18, dd "is_graph" 19, dd "are_tables" 20, dd "scope_of" 22, dd "variables_of" 21, dd "check_graph" 23, dd "check_tables" 24, dd "is_row_of" 25, dd "first_rejecting" 26, dd "price_of" 27, dd "solutions_by" 28, dd "solutions_of" 29, dd "check_variable" 31, dd "check_question" 32, dd "having" 33, dd "told_by" 35, dd "word_of" 36, dd "verdict" 37, dd "rejects" 38, dd "with_value" 40, dd "tree_for" 39, dd "verdict_evidence" 41, dd "is_solution" 42, dd "is_tree" 43, dd "has_value" 44, dd "accepts_verdict" 45, dd "_law_stream" 47, dd "_law_next" 48, dd "_law_is_integer" 49, dd "_law_equal" 50, dd "_law_pick" 51, dd "_law_rows" 52, dd "_law_table" 53, dd "_law_part" 54, dd "_law_graph" 55, dd "_law_tables" 56, dd "_law_variables" 57, dd "_law_solutions" 58, dd "_law_every" 59, dd "_law_rejects" 60, dd "_law_with" 61, dd "_law_is_tree" 62, dd "_law_is_solution" 63, dd "_law_accepted" 64, dd "_law_made_tree" 65, dd "_law_bent" 66, dd "_law_changed" 67, dd "law" 68]
def fa : List He.Fa := [.glo "is_whole", .glo "is_climbing", .glo "are_variables", .glo "is_scope", .glo "is_row", .glo "is_table", .glo "rows_of", .glo "cut_to", .glo "is_number", .glo "is_edge", .glo "is_graph", .glo "are_tables", .glo "scope_of", .glo "variables_of", .glo "check_graph", .glo "check_tables", .glo "is_row_of", .glo "first_rejecting", .glo "price_of", .glo "solutions_by", .glo "solutions_of", .glo "check_variable", .glo "check_question", .glo "having", .glo "told_by", .glo "word_of", .glo "verdict", .glo "rejects", .glo "with_value", .glo "tree_for", .glo "verdict_evidence", .glo "is_solution", .glo "is_tree", .glo "has_value", .glo "accepts_verdict", .glo "_law_stream", .glo "_law_next", .glo "_law_is_integer", .glo "_law_equal", .glo "_law_pick", .glo "_law_rows", .glo "_law_table", .glo "_law_part", .glo "_law_graph", .glo "_law_tables", .glo "_law_variables", .glo "_law_solutions", .glo "_law_every", .glo "_law_rejects", .glo "_law_with", .glo "_law_is_tree", .glo "_law_is_solution", .glo "_law_accepted", .glo "_law_made_tree", .glo "_law_bent", .glo "_law_changed", .glo "law", .free "abs", .free "all", .free "any", .free "bool", .free "enumerate", .free "int", .free "isinstance", .free "len", .free "list", .free "range", .free "sorted", .free "str", .free "sum", .free "tuple", .free "zip", .int "MOST_COST" 100, .int "MOST_NODES" 5, .int "MOST_VARIABLE" 5, .int "WIDEST_SCOPE" 3]
abbrev R : PySem.W.OpenRow := PySem.W.OpenLaw.row PySem.Challenge.rw_tabletalk_k60_whole_evidence_of_verdicts
abbrev hk : PySem.W.Hook := He.hookD 4 fa fn
def ob (s : PySem.W.SharedT) : He.AlD := He.obsDG 4 fa fn (HandSHeadRun.getT s)
theorem ob_eq (s : PySem.W.SharedT) : ob s = hk.obs s.abs := He.obsDG_eq (HandSHeadRun.getT_eq s)
def loose : List Str := (["TableError", "BadValue", "MOST_VARIABLE", "WIDEST_SCOPE", "MOST_COST", "is_whole", "is_climbing", "are_variables", "is_scope", "is_row", "is_table", "rows_of", "cut_to", "MOST_NODES", "is_number", "is_edge", "is_graph", "are_tables", "variables_of", "scope_of", "check_graph", "check_tables", "is_row_of", "first_rejecting", "price_of", "solutions_by", "solutions_of", "check_variable", "check_question", "having"] : List Str) ++ (["told_by", "word_of", "verdict", "rejects", "tree_for", "with_value", "verdict_evidence", "is_solution", "is_tree", "has_value", "accepts_verdict", "_law_stream", "_law_next", "_law_is_integer", "_law_equal", "_law_pick", "_law_rows", "_law_table", "_law_part", "_law_graph", "_law_tables", "_law_variables", "_law_solutions", "_law_every", "_law_rejects", "_law_with", "_law_is_tree", "_law_is_solution", "_law_accepted", "_law_made_tree"] : List Str) ++ (["_law_bent", "_law_changed"] : List Str)
theorem run (w : World) : HandSHeadRun.RunEq R (PySem.W.view R.prog [68]) hk ob 4000 loose w := by
  intro os
  kernel_rfl
theorem facts {P : Program} {w : World} {K : PySem.W.Frag} {h : Heap} {mg : Str → Option Value} {f : Addr} (X : K.In h) (N : h.Ns mainGlobals mg) (hfa : mg ("law" : Str) = some (.ref f)) (c : He.SaysD fa fn K) :
    ∃ fd : FuncData, (∀ (s : Shared) (v : Value), BindsTo s fd ⟨[v], []⟩ [("_law_script", v)]) ∧ ∀ base : Heap, K.In base → base.Ns mainGlobals mg → FnOk P w K mg base (L2.CX P w) 13 f fd ["_law_script"] (SpF K F_law 1) := by
  have G : Globs mg := ⟨He.free_ok X N (c.fact 57 (f := .free "abs") rfl),
    He.free_ok X N (c.fact 58 (f := .free "all") rfl),
    He.free_ok X N (c.fact 59 (f := .free "any") rfl),
    He.free_ok X N (c.fact 60 (f := .free "bool") rfl),
    He.free_ok X N (c.fact 61 (f := .free "enumerate") rfl),
    He.free_ok X N (c.fact 62 (f := .free "int") rfl),
    He.free_ok X N (c.fact 63 (f := .free "isinstance") rfl),
    He.free_ok X N (c.fact 64 (f := .free "len") rfl),
    He.free_ok X N (c.fact 65 (f := .free "list") rfl),
    He.free_ok X N (c.fact 66 (f := .free "range") rfl),
    He.free_ok X N (c.fact 67 (f := .free "sorted") rfl),
    He.free_ok X N (c.fact 68 (f := .free "str") rfl),
    He.free_ok X N (c.fact 69 (f := .free "sum") rfl),
    He.free_ok X N (c.fact 70 (f := .free "tuple") rfl),
    He.free_ok X N (c.fact 71 (f := .free "zip") rfl),
    He.int_ok X N (c.fact 72 (f := .int "MOST_COST" 100) rfl),
    He.int_ok X N (c.fact 73 (f := .int "MOST_NODES" 5) rfl),
    He.int_ok X N (c.fact 74 (f := .int "MOST_VARIABLE" 5) rfl),
    He.int_ok X N (c.fact 75 (f := .int "WIDEST_SCOPE" 3) rfl)⟩
  obtain ⟨fd_is_whole, A_is_whole⟩ := c.def_ 0 (d := dd "is_whole" 7) rfl
  have g_is_whole := He.glo_ok X N (c.fact 0 (f := .glo "is_whole") rfl)
  obtain ⟨fd_is_climbing, A_is_climbing⟩ := c.def_ 1 (d := dd "is_climbing" 8) rfl
  have g_is_climbing := He.glo_ok X N (c.fact 1 (f := .glo "is_climbing") rfl)
  obtain ⟨fd_are_variables, A_are_variables⟩ := c.def_ 2 (d := dd "are_variables" 9) rfl
  have g_are_variables := He.glo_ok X N (c.fact 2 (f := .glo "are_variables") rfl)
  obtain ⟨fd_is_scope, A_is_scope⟩ := c.def_ 3 (d := dd "is_scope" 10) rfl
  have g_is_scope := He.glo_ok X N (c.fact 3 (f := .glo "is_scope") rfl)
  obtain ⟨fd_is_row, A_is_row⟩ := c.def_ 4 (d := dd "is_row" 11) rfl
  have g_is_row := He.glo_ok X N (c.fact 4 (f := .glo "is_row") rfl)
  obtain ⟨fd_is_table, A_is_table⟩ := c.def_ 5 (d := dd "is_table" 12) rfl
  have g_is_table := He.glo_ok X N (c.fact 5 (f := .glo "is_table") rfl)
  obtain ⟨fd_rows_of, A_rows_of⟩ := c.def_ 6 (d := dd "rows_of" 13) rfl
  have g_rows_of := He.glo_ok X N (c.fact 6 (f := .glo "rows_of") rfl)
  obtain ⟨fd_cut_to, A_cut_to⟩ := c.def_ 7 (d := dd "cut_to" 14) rfl
  have g_cut_to := He.glo_ok X N (c.fact 7 (f := .glo "cut_to") rfl)
  obtain ⟨fd_is_number, A_is_number⟩ := c.def_ 8 (d := dd "is_number" 17) rfl
  have g_is_number := He.glo_ok X N (c.fact 8 (f := .glo "is_number") rfl)
  obtain ⟨fd_is_edge, A_is_edge⟩ := c.def_ 9 (d := dd "is_edge" 18) rfl
  have g_is_edge := He.glo_ok X N (c.fact 9 (f := .glo "is_edge") rfl)
  obtain ⟨fd_is_graph, A_is_graph⟩ := c.def_ 10 (d := dd "is_graph" 19) rfl
  have g_is_graph := He.glo_ok X N (c.fact 10 (f := .glo "is_graph") rfl)
  obtain ⟨fd_are_tables, A_are_tables⟩ := c.def_ 11 (d := dd "are_tables" 20) rfl
  have g_are_tables := He.glo_ok X N (c.fact 11 (f := .glo "are_tables") rfl)
  obtain ⟨fd_scope_of, A_scope_of⟩ := c.def_ 12 (d := dd "scope_of" 22) rfl
  have g_scope_of := He.glo_ok X N (c.fact 12 (f := .glo "scope_of") rfl)
  obtain ⟨fd_variables_of, A_variables_of⟩ := c.def_ 13 (d := dd "variables_of" 21) rfl
  have g_variables_of := He.glo_ok X N (c.fact 13 (f := .glo "variables_of") rfl)
  obtain ⟨fd_check_graph, A_check_graph⟩ := c.def_ 14 (d := dd "check_graph" 23) rfl
  have g_check_graph := He.glo_ok X N (c.fact 14 (f := .glo "check_graph") rfl)
  obtain ⟨fd_check_tables, A_check_tables⟩ := c.def_ 15 (d := dd "check_tables" 24) rfl
  have g_check_tables := He.glo_ok X N (c.fact 15 (f := .glo "check_tables") rfl)
  obtain ⟨fd_is_row_of, A_is_row_of⟩ := c.def_ 16 (d := dd "is_row_of" 25) rfl
  have g_is_row_of := He.glo_ok X N (c.fact 16 (f := .glo "is_row_of") rfl)
  obtain ⟨fd_first_rejecting, A_first_rejecting⟩ := c.def_ 17 (d := dd "first_rejecting" 26) rfl
  have g_first_rejecting := He.glo_ok X N (c.fact 17 (f := .glo "first_rejecting") rfl)
  obtain ⟨fd_price_of, A_price_of⟩ := c.def_ 18 (d := dd "price_of" 27) rfl
  have g_price_of := He.glo_ok X N (c.fact 18 (f := .glo "price_of") rfl)
  obtain ⟨fd_solutions_by, A_solutions_by⟩ := c.def_ 19 (d := dd "solutions_by" 28) rfl
  have g_solutions_by := He.glo_ok X N (c.fact 19 (f := .glo "solutions_by") rfl)
  obtain ⟨fd_solutions_of, A_solutions_of⟩ := c.def_ 20 (d := dd "solutions_of" 29) rfl
  have g_solutions_of := He.glo_ok X N (c.fact 20 (f := .glo "solutions_of") rfl)
  obtain ⟨fd_check_variable, A_check_variable⟩ := c.def_ 21 (d := dd "check_variable" 31) rfl
  have g_check_variable := He.glo_ok X N (c.fact 21 (f := .glo "check_variable") rfl)
  obtain ⟨fd_check_question, A_check_question⟩ := c.def_ 22 (d := dd "check_question" 32) rfl
  have g_check_question := He.glo_ok X N (c.fact 22 (f := .glo "check_question") rfl)
  obtain ⟨fd_having, A_having⟩ := c.def_ 23 (d := dd "having" 33) rfl
  have g_having := He.glo_ok X N (c.fact 23 (f := .glo "having") rfl)
  obtain ⟨fd_told_by, A_told_by⟩ := c.def_ 24 (d := dd "told_by" 35) rfl
  have g_told_by := He.glo_ok X N (c.fact 24 (f := .glo "told_by") rfl)
  obtain ⟨fd_word_of, A_word_of⟩ := c.def_ 25 (d := dd "word_of" 36) rfl
  have g_word_of := He.glo_ok X N (c.fact 25 (f := .glo "word_of") rfl)
  obtain ⟨fd_verdict, A_verdict⟩ := c.def_ 26 (d := dd "verdict" 37) rfl
  have g_verdict := He.glo_ok X N (c.fact 26 (f := .glo "verdict") rfl)
  obtain ⟨fd_rejects, A_rejects⟩ := c.def_ 27 (d := dd "rejects" 38) rfl
  have g_rejects := He.glo_ok X N (c.fact 27 (f := .glo "rejects") rfl)
  obtain ⟨fd_with_value, A_with_value⟩ := c.def_ 28 (d := dd "with_value" 40) rfl
  have g_with_value := He.glo_ok X N (c.fact 28 (f := .glo "with_value") rfl)
  obtain ⟨fd_tree_for, A_tree_for⟩ := c.def_ 29 (d := dd "tree_for" 39) rfl
  have g_tree_for := He.glo_ok X N (c.fact 29 (f := .glo "tree_for") rfl)
  obtain ⟨fd_verdict_evidence, A_verdict_evidence⟩ := c.def_ 30 (d := dd "verdict_evidence" 41) rfl
  have g_verdict_evidence := He.glo_ok X N (c.fact 30 (f := .glo "verdict_evidence") rfl)
  obtain ⟨fd_is_solution, A_is_solution⟩ := c.def_ 31 (d := dd "is_solution" 42) rfl
  have g_is_solution := He.glo_ok X N (c.fact 31 (f := .glo "is_solution") rfl)
  obtain ⟨fd_is_tree, A_is_tree⟩ := c.def_ 32 (d := dd "is_tree" 43) rfl
  have g_is_tree := He.glo_ok X N (c.fact 32 (f := .glo "is_tree") rfl)
  obtain ⟨fd_has_value, A_has_value⟩ := c.def_ 33 (d := dd "has_value" 44) rfl
  have g_has_value := He.glo_ok X N (c.fact 33 (f := .glo "has_value") rfl)
  obtain ⟨fd_accepts_verdict, A_accepts_verdict⟩ := c.def_ 34 (d := dd "accepts_verdict" 45) rfl
  have g_accepts_verdict := He.glo_ok X N (c.fact 34 (f := .glo "accepts_verdict") rfl)
  obtain ⟨fd__law_stream, A__law_stream⟩ := c.def_ 35 (d := dd "_law_stream" 47) rfl
  have g__law_stream := He.glo_ok X N (c.fact 35 (f := .glo "_law_stream") rfl)
  obtain ⟨fd__law_next, A__law_next⟩ := c.def_ 36 (d := dd "_law_next" 48) rfl
  have g__law_next := He.glo_ok X N (c.fact 36 (f := .glo "_law_next") rfl)
  obtain ⟨fd__law_is_integer, A__law_is_integer⟩ := c.def_ 37 (d := dd "_law_is_integer" 49) rfl
  have g__law_is_integer := He.glo_ok X N (c.fact 37 (f := .glo "_law_is_integer") rfl)
  obtain ⟨fd__law_equal, A__law_equal⟩ := c.def_ 38 (d := dd "_law_equal" 50) rfl
  have g__law_equal := He.glo_ok X N (c.fact 38 (f := .glo "_law_equal") rfl)
  obtain ⟨fd__law_pick, A__law_pick⟩ := c.def_ 39 (d := dd "_law_pick" 51) rfl
  have g__law_pick := He.glo_ok X N (c.fact 39 (f := .glo "_law_pick") rfl)
  obtain ⟨fd__law_rows, A__law_rows⟩ := c.def_ 40 (d := dd "_law_rows" 52) rfl
  have g__law_rows := He.glo_ok X N (c.fact 40 (f := .glo "_law_rows") rfl)
  obtain ⟨fd__law_table, A__law_table⟩ := c.def_ 41 (d := dd "_law_table" 53) rfl
  have g__law_table := He.glo_ok X N (c.fact 41 (f := .glo "_law_table") rfl)
  obtain ⟨fd__law_part, A__law_part⟩ := c.def_ 42 (d := dd "_law_part" 54) rfl
  have g__law_part := He.glo_ok X N (c.fact 42 (f := .glo "_law_part") rfl)
  obtain ⟨fd__law_graph, A__law_graph⟩ := c.def_ 43 (d := dd "_law_graph" 55) rfl
  have g__law_graph := He.glo_ok X N (c.fact 43 (f := .glo "_law_graph") rfl)
  obtain ⟨fd__law_tables, A__law_tables⟩ := c.def_ 44 (d := dd "_law_tables" 56) rfl
  have g__law_tables := He.glo_ok X N (c.fact 44 (f := .glo "_law_tables") rfl)
  obtain ⟨fd__law_variables, A__law_variables⟩ := c.def_ 45 (d := dd "_law_variables" 57) rfl
  have g__law_variables := He.glo_ok X N (c.fact 45 (f := .glo "_law_variables") rfl)
  obtain ⟨fd__law_solutions, A__law_solutions⟩ := c.def_ 46 (d := dd "_law_solutions" 58) rfl
  have g__law_solutions := He.glo_ok X N (c.fact 46 (f := .glo "_law_solutions") rfl)
  obtain ⟨fd__law_every, A__law_every⟩ := c.def_ 47 (d := dd "_law_every" 59) rfl
  have g__law_every := He.glo_ok X N (c.fact 47 (f := .glo "_law_every") rfl)
  obtain ⟨fd__law_rejects, A__law_rejects⟩ := c.def_ 48 (d := dd "_law_rejects" 60) rfl
  have g__law_rejects := He.glo_ok X N (c.fact 48 (f := .glo "_law_rejects") rfl)
  obtain ⟨fd__law_with, A__law_with⟩ := c.def_ 49 (d := dd "_law_with" 61) rfl
  have g__law_with := He.glo_ok X N (c.fact 49 (f := .glo "_law_with") rfl)
  obtain ⟨fd__law_is_tree, A__law_is_tree⟩ := c.def_ 50 (d := dd "_law_is_tree" 62) rfl
  have g__law_is_tree := He.glo_ok X N (c.fact 50 (f := .glo "_law_is_tree") rfl)
  obtain ⟨fd__law_is_solution, A__law_is_solution⟩ := c.def_ 51 (d := dd "_law_is_solution" 63) rfl
  have g__law_is_solution := He.glo_ok X N (c.fact 51 (f := .glo "_law_is_solution") rfl)
  obtain ⟨fd__law_accepted, A__law_accepted⟩ := c.def_ 52 (d := dd "_law_accepted" 64) rfl
  have g__law_accepted := He.glo_ok X N (c.fact 52 (f := .glo "_law_accepted") rfl)
  obtain ⟨fd__law_made_tree, A__law_made_tree⟩ := c.def_ 53 (d := dd "_law_made_tree" 65) rfl
  have g__law_made_tree := He.glo_ok X N (c.fact 53 (f := .glo "_law_made_tree") rfl)
  obtain ⟨fd__law_bent, A__law_bent⟩ := c.def_ 54 (d := dd "_law_bent" 66) rfl
  have g__law_bent := He.glo_ok X N (c.fact 54 (f := .glo "_law_bent") rfl)
  obtain ⟨fd__law_changed, A__law_changed⟩ := c.def_ 55 (d := dd "_law_changed" 67) rfl
  have g__law_changed := He.glo_ok X N (c.fact 55 (f := .glo "_law_changed") rfl)
  obtain ⟨fd_law, A_law⟩ := c.def_ 56 (d := dd "law" 68) rfl
  have g_law := He.glo_ok X N (c.fact 56 (f := .glo "law") rfl)
  have e := hfa.symm.trans g_law
  cases e
  have b := FunD.bindsA (ps := ["_law_script"]) A_law fun _ _ _ _ _ _ us hl => match us, hl with | [_], _ => rfl
  refine ⟨fd_law, fun s v => b s [v] rfl, fun base _ _ => ?_⟩
  have o_is_whole := ok_is_whole (P := P) (w := w) (base := base) G A_is_whole g_is_whole 
  have o_is_climbing := ok_is_climbing (P := P) (w := w) (base := base) G A_is_climbing g_is_climbing 
  have o_are_variables := ok_are_variables (P := P) (w := w) (base := base) G A_are_variables g_are_variables o_is_whole o_is_climbing
  have o_is_scope := ok_is_scope (P := P) (w := w) (base := base) G A_is_scope g_is_scope o_are_variables
  have o_is_row := ok_is_row (P := P) (w := w) (base := base) G A_is_row g_is_row o_is_whole
  have o_is_table := ok_is_table (P := P) (w := w) (base := base) G A_is_table g_is_table o_is_row o_is_whole o_is_climbing
  have o_rows_of := ok_rows_of (P := P) (w := w) (base := base) G A_rows_of g_rows_of 
  have o_cut_to := ok_cut_to (P := P) (w := w) (base := base) G A_cut_to g_cut_to 
  have o_is_number := ok_is_number (P := P) (w := w) (base := base) G A_is_number g_is_number 
  have o_is_edge := ok_is_edge (P := P) (w := w) (base := base) G A_is_edge g_is_edge o_is_number
  have o_is_graph := ok_is_graph (P := P) (w := w) (base := base) G A_is_graph g_is_graph o_is_number o_is_scope o_is_edge
  have o_are_tables := ok_are_tables (P := P) (w := w) (base := base) G A_are_tables g_are_tables o_is_table
  have o_scope_of := ok_scope_of (P := P) (w := w) (base := base) G A_scope_of g_scope_of 
  have o_variables_of := ok_variables_of (P := P) (w := w) (base := base) G A_variables_of g_variables_of o_scope_of
  have o_check_graph := ok_check_graph (P := P) (w := w) (base := base) G A_check_graph g_check_graph o_is_graph
  have o_check_tables := ok_check_tables (P := P) (w := w) (base := base) G A_check_tables g_check_tables o_check_graph o_are_tables
  have o_is_row_of := ok_is_row_of (P := P) (w := w) (base := base) G A_is_row_of g_is_row_of o_is_number
  have o_first_rejecting := ok_first_rejecting (P := P) (w := w) (base := base) G A_first_rejecting g_first_rejecting o_scope_of o_cut_to
  have o_price_of := ok_price_of (P := P) (w := w) (base := base) G A_price_of g_price_of o_scope_of o_cut_to
  have o_solutions_by := ok_solutions_by (P := P) (w := w) (base := base) G A_solutions_by g_solutions_by o_rows_of o_scope_of o_first_rejecting o_price_of
  have o_solutions_of := ok_solutions_of (P := P) (w := w) (base := base) G A_solutions_of g_solutions_of o_solutions_by
  have o_check_variable := ok_check_variable (P := P) (w := w) (base := base) G A_check_variable g_check_variable o_check_tables o_is_whole o_variables_of
  have o_check_question := ok_check_question (P := P) (w := w) (base := base) G A_check_question g_check_question o_check_variable o_is_whole
  have o_having := ok_having (P := P) (w := w) (base := base) G A_having g_having o_variables_of o_solutions_of
  have o_told_by := ok_told_by (P := P) (w := w) (base := base) G A_told_by g_told_by o_having o_solutions_of
  have o_word_of := ok_word_of (P := P) (w := w) (base := base) G A_word_of g_word_of 
  have o_verdict := ok_verdict (P := P) (w := w) (base := base) G A_verdict g_verdict o_check_question o_told_by o_word_of
  have o_rejects := ok_rejects (P := P) (w := w) (base := base) G A_rejects g_rejects 
  have o_with_value := ok_with_value (P := P) (w := w) (base := base) G A_with_value g_with_value 
  have o_tree_for := ok_tree_for (P := P) (w := w) (base := base) G A_tree_for g_tree_for o_rejects o_variables_of o_with_value 7
  have o_verdict_evidence := ok_verdict_evidence (P := P) (w := w) (base := base) G A_verdict_evidence g_verdict_evidence o_check_question o_told_by o_word_of o_tree_for
  have o_is_solution := ok_is_solution (P := P) (w := w) (base := base) G A_is_solution g_is_solution o_variables_of o_is_row_of o_rejects
  have o_is_tree := ok_is_tree (P := P) (w := w) (base := base) G A_is_tree g_is_tree o_is_whole o_rejects o_variables_of o_with_value 7
  have o_has_value := ok_has_value (P := P) (w := w) (base := base) G A_has_value g_has_value o_variables_of
  have o_accepts_verdict := ok_accepts_verdict (P := P) (w := w) (base := base) G A_accepts_verdict g_accepts_verdict o_check_question o_is_tree o_is_solution o_has_value
  have o__law_stream := ok__law_stream (P := P) (w := w) (base := base) G A__law_stream g__law_stream 
  have o__law_next := ok__law_next (P := P) (w := w) (base := base) G A__law_next g__law_next 
  have o__law_is_integer := ok__law_is_integer (P := P) (w := w) (base := base) G A__law_is_integer g__law_is_integer 
  have o__law_equal := ok__law_equal (P := P) (w := w) (base := base) G A__law_equal g__law_equal o__law_is_integer 5
  have o__law_pick := ok__law_pick (P := P) (w := w) (base := base) G A__law_pick g__law_pick o__law_next
  have o__law_rows := ok__law_rows (P := P) (w := w) (base := base) G A__law_rows g__law_rows 
  have o__law_table := ok__law_table (P := P) (w := w) (base := base) G A__law_table g__law_table o__law_pick o__law_rows o__law_next
  have o__law_part := ok__law_part (P := P) (w := w) (base := base) G A__law_part g__law_part 
  have o__law_graph := ok__law_graph (P := P) (w := w) (base := base) G A__law_graph g__law_graph o__law_next o__law_pick
  have o__law_tables := ok__law_tables (P := P) (w := w) (base := base) G A__law_tables g__law_tables o__law_table
  have o__law_variables := ok__law_variables (P := P) (w := w) (base := base) G A__law_variables g__law_variables 
  have o__law_solutions := ok__law_solutions (P := P) (w := w) (base := base) G A__law_solutions g__law_solutions o__law_variables o__law_rows o__law_part
  have o__law_every := ok__law_every (P := P) (w := w) (base := base) G A__law_every g__law_every 
  have o__law_rejects := ok__law_rejects (P := P) (w := w) (base := base) G A__law_rejects g__law_rejects 
  have o__law_with := ok__law_with (P := P) (w := w) (base := base) G A__law_with g__law_with 
  have o__law_is_tree := ok__law_is_tree (P := P) (w := w) (base := base) G A__law_is_tree g__law_is_tree o__law_is_integer o__law_rejects o__law_variables o__law_every o__law_with 7
  have o__law_is_solution := ok__law_is_solution (P := P) (w := w) (base := base) G A__law_is_solution g__law_is_solution o__law_variables o__law_every o__law_is_integer o__law_solutions
  have o__law_accepted := ok__law_accepted (P := P) (w := w) (base := base) G A__law_accepted g__law_accepted o__law_is_tree o__law_variables o__law_every o__law_is_solution
  have o__law_made_tree := ok__law_made_tree (P := P) (w := w) (base := base) G A__law_made_tree g__law_made_tree o__law_every o__law_rejects o__law_variables o__law_next o__law_pick o__law_with 7
  have o__law_bent := ok__law_bent (P := P) (w := w) (base := base) G A__law_bent g__law_bent o__law_next o__law_pick 8
  have o__law_changed := ok__law_changed (P := P) (w := w) (base := base) G A__law_changed g__law_changed o__law_next o__law_rows o__law_variables o__law_every o__law_pick o__law_bent
  exact ok_law (P := P) (w := w) (base := base) G A_law o__law_stream o__law_graph o__law_tables o__law_variables o__law_every o__law_pick o__law_next o_verdict o_verdict_evidence o_accepts_verdict o__law_accepted o__law_rows o__law_made_tree o__law_changed o__law_equal
end Mir.K60
open PySem PySem.W PySem.Calls PyProof.Rows
theorem PySem.Challenge.cw_tabletalk_k60_whole_evidence_of_verdicts_holds : PySem.Challenge.rw_tabletalk_k60_whole_evidence_of_verdicts.Holds := by
  w_on; o_law
  refine HandSHeadRun.head_any (r := OpenLaw.row PySem.Challenge.rw_tabletalk_k60_whole_evidence_of_verdicts) (q := view (OpenLaw.row PySem.Challenge.rw_tabletalk_k60_whole_evidence_of_verdicts).prog [68]) (H := Mir.K60.hk) (ob := Mir.K60.ob) (M := 4000) (loose := Mir.K60.loose) (d := HandSHeadRun.topDef (OpenLaw.row PySem.Challenge.rw_tabletalk_k60_whole_evidence_of_verdicts).prog 68) (kwd := []) Mir.K60.ob_eq
    (by kernel_rfl) (fun s => by kernel_rfl) Mir.K60.run (by kernel_rfl) (by kernel_rfl) (by kernel_rfl) (by rfl) (by first | assumption | decide +kernel) (by decide +kernel) ⟨rfl, rfl, rfl, rfl, rfl, by decide +kernel⟩ ?hw ?hc
  case hw => w_witness2
  case hc =>
    refine Mir.walk_w (l := PySem.Challenge.rw_tabletalk_k60_whole_evidence_of_verdicts) (n := 63) (k := 13) (x := "_law_script") rfl (by decide) (by kernel_rfl) ⟨rfl, by decide, by decide⟩ ?F
    case F =>
      intro w mg fa h Y G hmg0
      obtain ⟨K, KX, c⟩ := Y
      have hmg : mg ("law" : PySem.Str) = some (.ref fa) := by
        have e : (HandSHeadRun.topDef (OpenLaw.row PySem.Challenge.rw_tabletalk_k60_whole_evidence_of_verdicts).prog 68).name = ("law" : PySem.Str) := by kernel_rfl
        rw [← e]
        exact hmg0
      obtain ⟨fd, hb, hF⟩ := Mir.K60.facts (P := (PySem.Challenge.rw_tabletalk_k60_whole_evidence_of_verdicts).prog) (w := w) KX G hmg c
      exact ⟨K, fd, Mir.SpF K Mir.K60.F_law 1, KX, hb, fun H a ns hl hS => Mir.law_sp Mir.K60.law_true H a ns hl hS, hF⟩


