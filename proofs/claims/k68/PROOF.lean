import PyProof.Rows.All
import Wide.All
import OpenK.AllK
import Wide.FinOn
import KE.KStateDown
import Lean
import HandS.ForMost
import HandS.ForExc
import HandS.More
import HandS.ExcInit
import HandS.IsInst
import HandS.Deep
import HandS.SetFor
import HandS.TupAny
import HandS.TupMul
import HandS.TupLe
import HandS.Style
import HandS.Zip
import HandS.DictTup
import HandS.Defaults
import HandS.Head0
import HandS.Head1
import HandS.Head2
import HandS.HeadEnd
import HandS.HeadHook1
import HandS.HeadHook2
import HandS.Conv
import KE.SortData
import HandS.Strs
import HandS.Dict
import HandS.DictComp
import KE.GoesMore
import KE.GoesZip
import HandS.ExcOwn
import HandS.ExcField
import HandS.TryOnly
import HandS.HeadHook4
import PySem.Challenge.RW_tabletalk_k68_whole_what_can_come
set_option Elab.async false
set_option linter.all false
set_option autoImplicit false
set_option maxRecDepth 100000
set_option maxHeartbeats 0
/-! # A mirror of a Python program as plain Lean functions over data, tied to the hand layer's judgements. -/
namespace Mir
open PySem PySem.Spec PyProof.Rows L2

/-! ### values, cells, results -/
inductive W where
  | p (d : PyData)
  | ro (ds : List PyData)
  | loc (n : Nat)
  | tw (ws : List W)
  | kt (ds : List PyData)
inductive Cell where
  | lst (ws : List W)
  | dct (kvs : List (Key × W))
  | dtt (kvs : List (List Key × W))
  | lck (kvs : List (Key × W))
  | ins (C : Str) (fs : List (Str × W))
abbrev Hm := List Cell
structure Exn where
  cls : Str
  fs : List (Str × W)
inductive Res (α : Type) where
  | stuck
  | ok (a : α) (m : Hm)
  | exc (x : Exn) (m : Hm)
abbrev Ev := List (Option W)
abbrev EX (α : Type) := Ev → Hm → Res α
def Res.bind {α β : Type} : Res α → (α → Hm → Res β) → Res β
  | .stuck, _ => .stuck
  | .ok a m, k => k a m
  | .exc x m, _ => .exc x m
@[simp] theorem bind_stuck {α β : Type} {k : α → Hm → Res β} : (Res.stuck : Res α).bind k = .stuck := rfl
@[simp] theorem bind_ok {α β : Type} {a : α} {m : Hm} {k : α → Hm → Res β} : (Res.ok a m).bind k = k a m := rfl
@[simp] theorem bind_exc {α β : Type} {x : Exn} {m : Hm} {k : α → Hm → Res β} : (Res.exc x m : Res α).bind k = .exc x m := rfl

/-- where the cells stand (rho), which further objects are out of reach, and what they hold (fb) -/
structure Cfg where
  fb : List (Addr × HO)
  rho : List Addr
abbrev Cfg.fa (c : Cfg) : List Addr := c.fb.map (·.1)

def TupAt (K : PySem.W.Frag) (c : Cfg) (H : Hp) (a : Addr) (xs : List V) : Prop :=
  (Rd H a (.tup xs) ∧ a ∉ c.fa ∧ a ∉ c.rho) ∨
    ∃ (o : Obj) (its : Array Value) (n : Nat), K.lookup a = some o ∧ o.cls = .type "tuple" ∧ o.data = .seq its n ∧ its.size ≤ sizeLine ∧ Vals xs its.toList
def LstAt (K : PySem.W.Frag) (c : Cfg) (H : Hp) (a : Addr) (xs : List V) : Prop :=
  (Rd H a (.lst xs) ∧ a ∉ c.fa ∧ a ∉ c.rho) ∨
    ∃ (o : Obj) (its : Array Value) (n : Nat), K.lookup a = some o ∧ o.cls = .type "list" ∧ o.dict = none ∧ o.data = .seq its n ∧ its.size ≤ sizeLine ∧ Vals xs its.toList

/-! ### what stands for what -/
mutual
inductive Rp (K : PySem.W.Frag) (c : Cfg) (H : Hp) : V → PyData → Prop
  | non : Rp K c H .non .none
  | bl (b : Bool) : Rp K c H (.bl b) (.bool b)
  | int (i : Int) : Rp K c H (.int i) (.int i)
  | str (x : Str) : Rp K c H (.str x) (.str x)
  | lst {a : Addr} {xs : List V} {ds : List PyData} : H a = some (.lst xs) → a ∉ c.fa → a ∉ c.rho → xs.length ≤ sizeLine → RpAll K c H xs ds → Rp K c H (.ref a) (.list ds)
  | tup {a : Addr} {xs : List V} {ds : List PyData} : TupAt K c H a xs → xs.length ≤ sizeLine → RpAll K c H xs ds → Rp K c H (.ref a) (.tuple ds)
inductive RpAll (K : PySem.W.Frag) (c : Cfg) (H : Hp) : List V → List PyData → Prop
  | nil : RpAll K c H [] []
  | cons {v : V} {vs : List V} {d : PyData} {ds : List PyData} : Rp K c H v d → RpAll K c H vs ds → RpAll K c H (v :: vs) (d :: ds)
end
mutual
inductive RpW (K : PySem.W.Frag) (c : Cfg) (H : Hp) : V → W → Prop
  | p {v : V} {d : PyData} : Rp K c H v d → RpW K c H v (.p d)
  | ro {a : Addr} {xs : List V} {ds : List PyData} : LstAt K c H a xs → xs.length ≤ sizeLine → RpAll K c H xs ds → RpW K c H (.ref a) (.ro ds)
  | loc {a : Addr} {n : Nat} : c.rho[n]? = some a → RpW K c H (.ref a) (.loc n)
  | tw {a : Addr} {xs : List V} {ws : List W} : TupAt K c H a xs → xs.length ≤ sizeLine → RpWs K c H xs ws → RpW K c H (.ref a) (.tw ws)
  | kt {a : Addr} {o : Obj} {xs : List V} {ds : List PyData} : H a = some (.frz o (.tup xs)) → o.dict = none → a ∉ c.fa → a ∉ c.rho → xs.length ≤ sizeLine → RpAll K c H xs ds → RpW K c H (.ref a) (.kt ds)
inductive RpWs (K : PySem.W.Frag) (c : Cfg) (H : Hp) : List V → List W → Prop
  | nil : RpWs K c H [] []
  | cons {v : V} {vs : List V} {d : W} {ds : List W} : RpW K c H v d → RpWs K c H vs ds → RpWs K c H (v :: vs) (d :: ds)
end

/-! ### growing -/
/-- what is needed for values to stay as they are -/
structure Sub (c : Cfg) (H : Hp) (c' : Cfg) (H' : Hp) : Prop where
  at_ : ∀ (n : Nat) (a : Addr), c.rho[n]? = some a → c'.rho[n]? = some a
  keep : ∀ a o, H a = some o → a ∉ c.fa → a ∉ c.rho → H' a = some o ∧ a ∉ c'.fa ∧ a ∉ c'.rho
structure Ext (c : Cfg) (H : Hp) (c' : Cfg) (H' : Hp) : Prop where
  fb : ∃ l, c'.fb = l ++ c.fb ∧ ∀ p ∈ l, H p.1 = none
  rho : ∃ l, c'.rho = c.rho ++ l ∧ ∀ a ∈ l, H a = none
  keep : ∀ a o, H a = some o → a ∉ c.fa → a ∉ c.rho → H' a = some o
  live : ∀ a, H' a = none → H a = none
theorem Ext.refl {c : Cfg} {H : Hp} : Ext c H c H := ⟨⟨[], by simp, fun _ h => nomatch h⟩, ⟨[], by simp, fun _ h => nomatch h⟩, fun _ _ h _ _ => h, fun _ h => h⟩
section
variable {K : PySem.W.Frag} {c c' c2 : Cfg} {H H' H2 : Hp} {m : Hm}
theorem Ext.notin (e : Ext c H c' H') {a : Addr} {o : HO} (h : H a = some o) (n : a ∉ c.rho) : a ∉ c'.rho := by
  obtain ⟨l, hl, hn⟩ := e.rho
  rw [hl]
  intro q
  rcases List.mem_append.mp q with q | q
  · exact n q
  · rw [hn a q] at h; cases h
theorem Ext.notfa (e : Ext c H c' H') {a : Addr} {o : HO} (h : H a = some o) (n : a ∉ c.fa) : a ∉ c'.fa := by
  obtain ⟨l, hl, hn⟩ := e.fb
  intro q
  obtain ⟨p, hp, rfl⟩ := List.mem_map.mp q
  rw [hl] at hp
  rcases List.mem_append.mp hp with q | q
  · rw [hn p q] at h; cases h
  · exact n (List.mem_map.mpr ⟨p, q, rfl⟩)
theorem Ext.sub_fb (e : Ext c H c' H') : ∀ p ∈ c.fb, p ∈ c'.fb := fun p hp => by
  obtain ⟨l, hl, hn⟩ := e.fb
  rw [hl]; exact List.mem_append_right _ hp
theorem Ext.at (e : Ext c H c' H') {n : Nat} {a : Addr} (h : c.rho[n]? = some a) : c'.rho[n]? = some a := by
  obtain ⟨l, hl, _⟩ := e.rho
  rw [hl, List.getElem?_append_left (List.getElem?_eq_some_iff.mp h).1]
  exact h
theorem Ext.sub (e : Ext c H c' H') : Sub c H c' H' := ⟨fun _ _ => e.at, fun a o h n n2 => ⟨e.keep a o h n n2, e.notfa h n, e.notin h n2⟩⟩
theorem Ext.trans (e : Ext c H c' H') (f : Ext c' H' c2 H2) : Ext c H c2 H2 := by
  obtain ⟨l, hl, hn⟩ := e.rho
  obtain ⟨l', hl', hn'⟩ := f.rho
  obtain ⟨k, hk, kn⟩ := e.fb
  obtain ⟨k', hk', kn'⟩ := f.fb
  refine ⟨⟨k' ++ k, by rw [hk', hk, List.append_assoc], fun p hp => ?_⟩, ⟨l ++ l', by rw [hl', hl, List.append_assoc], fun a ha => ?_⟩, fun a o h n n2 => f.keep a o (e.keep a o h n n2) (e.notfa h n) (e.notin h n2), fun a h => e.live a (f.live a h)⟩
  · rcases List.mem_append.mp hp with q | q
    · exact e.live _ (kn' p q)
    · exact kn p q
  · rcases List.mem_append.mp ha with q | q
    · exact hn a q
    · exact e.live a (hn' a q)
theorem Rd.some {H : Hp} {a : Addr} {u : HO} (h : Rd H a u) : ∃ o, H a = some o ∧ ∀ H' : Hp, H' a = some o → Rd H' a u := by
  rcases h with h | ⟨o, h⟩
  · exact ⟨_, h, fun _ q => .inl q⟩
  · exact ⟨_, h, fun _ q => .inr ⟨o, q⟩⟩
theorem TupAt.sub (e : Sub c H c' H') {a : Addr} {xs : List V} (h : TupAt K c H a xs) : TupAt K c' H' a xs := by
  rcases h with ⟨h, n, n2⟩ | h
  · obtain ⟨o, ho, hr⟩ := Mir.Rd.some h
    obtain ⟨q, n', n2'⟩ := e.keep a o ho n n2
    exact .inl ⟨hr _ q, n', n2'⟩
  · exact .inr h
theorem LstAt.sub (e : Sub c H c' H') {a : Addr} {xs : List V} (h : LstAt K c H a xs) : LstAt K c' H' a xs := by
  rcases h with ⟨h, n, n2⟩ | h
  · obtain ⟨o, ho, hr⟩ := Mir.Rd.some h
    obtain ⟨q, n', n2'⟩ := e.keep a o ho n n2
    exact .inl ⟨hr _ q, n', n2'⟩
  · exact .inr h
theorem TupAt.sq {a : Addr} {xs : List V} (h : TupAt K c H a xs) : SqT K H a xs := by
  rcases h with ⟨h, _⟩ | h
  · exact .inl h
  · exact .inr h
theorem LstAt.sq {a : Addr} {xs : List V} (h : LstAt K c H a xs) : SqL K H a xs := by
  rcases h with ⟨h, _⟩ | h
  · exact .inl h
  · exact .inr h
mutual
theorem Rp.sub (e : Sub c H c' H') : ∀ {v : V} {d : PyData}, Rp K c H v d → Rp K c' H' v d
  | _, _, .non => .non
  | _, _, .bl b => .bl b
  | _, _, .int i => .int i
  | _, _, .str x => .str x
  | _, _, .lst h n n2 z r => .lst (e.keep _ _ h n n2).1 (e.keep _ _ h n n2).2.1 (e.keep _ _ h n n2).2.2 z (RpAll.sub e r)
  | _, _, .tup h z r => .tup (h.sub e) z (RpAll.sub e r)
theorem RpAll.sub (e : Sub c H c' H') : ∀ {vs : List V} {ds : List PyData}, RpAll K c H vs ds → RpAll K c' H' vs ds
  | _, _, .nil => .nil
  | _, _, .cons r t => .cons (Rp.sub e r) (RpAll.sub e t)
end
mutual
theorem RpW.sub (e : Sub c H c' H') : ∀ {v : V} {w : W}, RpW K c H v w → RpW K c' H' v w
  | _, _, .p r => .p (r.sub e)
  | _, _, .ro h z r => .ro (h.sub e) z (r.sub e)
  | _, _, .loc h => .loc (e.at_ _ _ h)
  | _, _, .tw h z r => .tw (h.sub e) z (RpWs.sub e r)
  | _, _, .kt h d n n2 z r => .kt (e.keep _ _ h n n2).1 d (e.keep _ _ h n n2).2.1 (e.keep _ _ h n n2).2.2 z (r.sub e)
theorem RpWs.sub (e : Sub c H c' H') : ∀ {vs : List V} {ws : List W}, RpWs K c H vs ws → RpWs K c' H' vs ws
  | _, _, .nil => .nil
  | _, _, .cons r t => .cons (RpW.sub e r) (RpWs.sub e t)
end
theorem RpW.ktI {v : V} {ds : List PyData} (h : RpW K c H v (.kt ds)) : RpW K c H v (.p (.tuple ds)) := by
  cases h with | kt h d n n2 z r =>
  exact .p (.tup (.inl ⟨.inr ⟨_, h⟩, n, n2⟩) z r)
theorem Rp.mono (e : Ext c H c' H') {v : V} {d : PyData} (r : Rp K c H v d) : Rp K c' H' v d := r.sub e.sub
theorem RpAll.mono (e : Ext c H c' H') {v : List V} {d : List PyData} (r : RpAll K c H v d) : RpAll K c' H' v d := r.sub e.sub
theorem RpW.mono (e : Ext c H c' H') {v : V} {d : W} (r : RpW K c H v d) : RpW K c' H' v d := r.sub e.sub
theorem RpWs.mono (e : Ext c H c' H') {v : List V} {d : List W} (r : RpWs K c H v d) : RpWs K c' H' v d := r.sub e.sub
theorem RpAll.length : ∀ {vs : List V} {ds : List PyData}, RpAll K c H vs ds → vs.length = ds.length
  | _, _, .nil => rfl
  | _, _, .cons _ t => by simp [RpAll.length t]
theorem RpWs.length : ∀ {vs : List V} {ds : List W}, RpWs K c H vs ds → vs.length = ds.length
  | _, _, .nil => rfl
  | _, _, .cons _ t => by simp [RpWs.length t]
theorem RpAll.get : ∀ {vs : List V} {ds : List PyData} {i : Nat} {d : PyData}, RpAll K c H vs ds → ds[i]? = some d → ∃ v, vs[i]? = some v ∧ Rp K c H v d
  | _, _, _, _, .nil, h => by simp at h
  | _, _, 0, _, .cons r t, h => by simp at h; subst h; exact ⟨_, rfl, r⟩
  | _, _, i + 1, _, .cons r t, h => by
    obtain ⟨v, e, q⟩ := RpAll.get (i := i) t (by simpa using h)
    exact ⟨v, by simpa using e, q⟩
theorem RpWs.get : ∀ {vs : List V} {ds : List W} {i : Nat} {d : W}, RpWs K c H vs ds → ds[i]? = some d → ∃ v, vs[i]? = some v ∧ RpW K c H v d
  | _, _, _, _, .nil, h => by simp at h
  | _, _, 0, _, .cons r t, h => by simp at h; subst h; exact ⟨_, rfl, r⟩
  | _, _, i + 1, _, .cons r t, h => by
    obtain ⟨v, e, q⟩ := RpWs.get (i := i) t (by simpa using h)
    exact ⟨v, by simpa using e, q⟩
theorem RpAll.toWs : ∀ {vs : List V} {ds : List PyData}, RpAll K c H vs ds → RpWs K c H vs (ds.map W.p)
  | _, _, .nil => .nil
  | _, _, .cons r t => .cons (.p r) (RpAll.toWs t)
theorem RpAll.append : ∀ {vs vs' : List V} {ds ds' : List PyData}, RpAll K c H vs ds → RpAll K c H vs' ds' → RpAll K c H (vs ++ vs') (ds ++ ds')
  | _, _, _, _, .nil, t => t
  | _, _, _, _, .cons r t, t' => .cons r (RpAll.append t t')
theorem RpWs.append : ∀ {vs vs' : List V} {ds ds' : List W}, RpWs K c H vs ds → RpWs K c H vs' ds' → RpWs K c H (vs ++ vs') (ds ++ ds')
  | _, _, _, _, .nil, t => t
  | _, _, _, _, .cons r t, t' => .cons r (RpWs.append t t')
theorem RpAll.take : ∀ {vs : List V} {ds : List PyData} (n : Nat), RpAll K c H vs ds → RpAll K c H (vs.take n) (ds.take n)
  | _, _, 0, _ => .nil
  | _, _, _ + 1, .nil => .nil
  | _, _, n + 1, .cons r t => .cons r (RpAll.take n t)
theorem RpAll.drop : ∀ {vs : List V} {ds : List PyData} (n : Nat), RpAll K c H vs ds → RpAll K c H (vs.drop n) (ds.drop n)
  | _, _, 0, t => t
  | _, _, _ + 1, .nil => .nil
  | _, _, n + 1, .cons r t => RpAll.drop n t
theorem RpWs.take : ∀ {vs : List V} {ds : List W} (n : Nat), RpWs K c H vs ds → RpWs K c H (vs.take n) (ds.take n)
  | _, _, 0, _ => .nil
  | _, _, _ + 1, .nil => .nil
  | _, _, n + 1, .cons r t => .cons r (RpWs.take n t)
theorem RpWs.drop : ∀ {vs : List V} {ds : List W} (n : Nat), RpWs K c H vs ds → RpWs K c H (vs.drop n) (ds.drop n)
  | _, _, 0, t => t
  | _, _, _ + 1, .nil => .nil
  | _, _, n + 1, .cons r t => RpWs.drop n t
theorem RpWs.set : ∀ {vs : List V} {ds : List W} (n : Nat) {v : V} {d : W}, RpW K c H v d → RpWs K c H vs ds → RpWs K c H (vs.set n v) (ds.set n d)
  | _, _, _, _, _, _, .nil => .nil
  | _, _, 0, _, _, r, .cons _ t => .cons r t
  | _, _, n + 1, _, _, r, .cons q t => .cons q (RpWs.set n r t)
theorem RpWs.eraseIdx : ∀ {vs : List V} {ds : List W} (n : Nat), RpWs K c H vs ds → RpWs K c H (vs.eraseIdx n) (ds.eraseIdx n)
  | _, _, _, .nil => .nil
  | _, _, 0, .cons _ t => t
  | _, _, n + 1, .cons q t => .cons q (RpWs.eraseIdx n t)
theorem RpAll.reverse {vs : List V} {ds : List PyData} (h : RpAll K c H vs ds) : RpAll K c H vs.reverse ds.reverse := by
  induction vs generalizing ds with
  | nil => cases h; exact .nil
  | cons v vs ih =>
    cases h with
    | cons r t =>
      rw [List.reverse_cons, List.reverse_cons]
      exact RpAll.append (ih t) (.cons r .nil)
/-- plain data among values: all of it plain? -/
def allP : List W → Option (List PyData)
  | [] => some []
  | .p d :: r => (allP r).map (d :: ·)
  | _ :: _ => none
theorem allP_rp : ∀ {vs : List V} {ws : List W} {ds : List PyData}, RpWs K c H vs ws → allP ws = some ds → RpAll K c H vs ds
  | _, _, _, .nil, e => by cases e; exact .nil
  | _, _, ds, .cons (.p r) t, e => by
    unfold allP at e
    obtain ⟨ds', e', rfl⟩ := Option.map_eq_some_iff.mp e
    exact .cons r (allP_rp t e')
  | _, _, _, .cons (.ro _ _ _) t, e => by cases e
  | _, _, _, .cons (.loc _) t, e => by cases e
  | _, _, _, .cons (.tw _ _ _) t, e => by cases e
@[simp] theorem allP_nil : allP [] = some [] := rfl
@[simp] theorem allP_cons (d : PyData) (r : List W) : allP (.p d :: r) = (allP r).map (d :: ·) := rfl
@[simp] theorem allP_map (ds : List PyData) : allP (ds.map W.p) = some ds := by
  induction ds with
  | nil => rfl
  | cons d r ih => simp [ih]

/-! ### the cells -/
def CellOk (K : PySem.W.Frag) (c : Cfg) (H : Hp) (a : Addr) : Cell → Prop
  | .lst ws => ∃ xs, H a = some (.lst xs) ∧ xs.length ≤ sizeLine ∧ RpWs K c H xs ws
  | .dct kvs => ∃ vs : List (Key × V), H a = some (.dK vs) ∧ vs.length ≤ sizeLine ∧ vs.map (·.1) = kvs.map (·.1) ∧ RpWs K c H (vs.map (·.2)) (kvs.map (·.2))
  | .dtt kvs => ∃ vs : List (List Key × V), H a = some (.dT vs) ∧ vs.length ≤ sizeLine ∧ vs.map (·.1) = kvs.map (·.1) ∧ RpWs K c H (vs.map (·.2)) (kvs.map (·.2))
  | .lck kvs => ∃ (o : Obj) (vs : List (Key × V)), H a = some (.frz o (.dK vs)) ∧ vs.length ≤ sizeLine ∧ vs.map (·.1) = kvs.map (·.1) ∧ RpWs K c H (vs.map (·.2)) (kvs.map (·.2))
  | .ins C fs => ∃ (dx : Addr) (vs : List (Str × V)), H a = some (.ins (He.ga K C) dx vs) ∧ vs.map (·.1) = fs.map (·.1) ∧ RpWs K c H (vs.map (·.2)) (fs.map (·.2))
structure HRel (K : PySem.W.Frag) (c : Cfg) (m : Hm) (H : Hp) : Prop where
  len : c.rho.length = m.length
  nd : c.rho.Nodup
  fb : ∀ p ∈ c.fb, H p.1 = some p.2
  dj : ∀ a ∈ c.fa, a ∉ c.rho
  at_ : ∀ (n : Nat) (x : Cell), m[n]? = some x → ∃ a, c.rho[n]? = some a ∧ CellOk K c H a x
def SRel (K : PySem.W.Frag) (c : Cfg) (H : Hp) (s : Ev) (σ : L2.St) : Prop :=
  s.length = σ.length ∧ ∀ (i : Nat) (w : W), s[i]? = some (some w) → ∃ v, σ[i]? = some (some v) ∧ RpW K c H v w
theorem CellOk.live {a : Addr} {x : Cell} (h : CellOk K c H a x) : H a ≠ none := by
  cases x with
  | lst ws => obtain ⟨xs, e, _⟩ := h; rw [e]; simp
  | dct kvs => obtain ⟨vs, e, _⟩ := h; rw [e]; simp
  | dtt kvs => obtain ⟨vs, e, _⟩ := h; rw [e]; simp
  | lck kvs => obtain ⟨o, vs, e, _⟩ := h; rw [e]; simp
  | ins C fs => obtain ⟨dx, vs, e, _⟩ := h; rw [e]; simp
theorem HRel.live (h : HRel K c m H) {a : Addr} (ha : a ∈ c.rho) : H a ≠ none := by
  obtain ⟨n, hn, e⟩ := List.mem_iff_getElem.mp ha
  have hm : n < m.length := by rw [← h.len]; exact hn
  obtain ⟨b, hb, ok⟩ := h.at_ n _ (List.getElem?_eq_getElem hm)
  rw [List.getElem?_eq_getElem hn, e] at hb
  cases hb
  exact ok.live
theorem HRel.fas (h : HRel K c m H) {a : Addr} (ha : a ∈ c.fa) : ∃ o, H a = some o := by
  obtain ⟨p, hp, rfl⟩ := List.mem_map.mp ha
  exact ⟨_, h.fb p hp⟩
theorem SRel.sub (e : Sub c H c' H') {s : Ev} {σ : L2.St} (h : SRel K c H s σ) : SRel K c' H' s σ :=
  ⟨h.1, fun i w q => let ⟨v, e1, r⟩ := h.2 i w q; ⟨v, e1, r.sub e⟩⟩
theorem SRel.mono (e : Ext c H c' H') {s : Ev} {σ : L2.St} (h : SRel K c H s σ) : SRel K c' H' s σ := h.sub e.sub
theorem SRel.set {s : Ev} {σ : L2.St} (h : SRel K c H s σ) {i : Nat} {w : W} {v : V} (r : RpW K c H v w) : SRel K c H (s.set i (some w)) (σ.set i (some v)) := by
  refine ⟨by simp [h.1], fun j w' q => ?_⟩
  by_cases e : i = j
  · subst e
    by_cases hi : i < s.length
    · rw [List.getElem?_set_self hi] at q
      cases q
      exact ⟨v, by rw [List.getElem?_set_self (by rw [← h.1]; exact hi)], r⟩
    · rw [List.getElem?_eq_none (by simpa using hi)] at q; cases q
  · rw [List.getElem?_set_ne e] at q
    obtain ⟨v', e1, r'⟩ := h.2 j w' q
    exact ⟨v', by rw [List.getElem?_set_ne e]; exact e1, r'⟩
theorem SRel.forget {s s' : Ev} {σ : L2.St} (h : SRel K c H s σ) (hl : s'.length = s.length) (hf : ∀ (i : Nat) (w : W), s'[i]? = some (some w) → s[i]? = some (some w)) : SRel K c H s' σ :=
  ⟨hl.trans h.1, fun i w q => h.2 i w (hf i w q)⟩
/-- a new object that is out of the cells -/
theorem Ext.new {p : Addr} {o : HO} (hp : H p = none) : Ext c H c (upd H p o) := by
  refine ⟨⟨[], by simp, fun _ h => nomatch h⟩, ⟨[], by simp, fun _ h => nomatch h⟩, fun a u h _ _ => ?_, fun a h => ?_⟩
  · rw [upd_ne (ne_of_none h hp)]; exact h
  · by_cases e : a = p
    · subst e; exact hp
    · rw [upd_ne e] at h; exact h
theorem CellOk.sub (e : Sub c H c' H') {a : Addr} {x : Cell} (h : CellOk K c H a x) (ha : H' a = H a) : CellOk K c' H' a x := by
  cases x with
  | lst ws => obtain ⟨xs, e1, z, r⟩ := h; exact ⟨xs, ha.trans e1, z, r.sub e⟩
  | dct kvs => obtain ⟨vs, e1, z, k, r⟩ := h; exact ⟨vs, ha.trans e1, z, k, r.sub e⟩
  | dtt kvs => obtain ⟨vs, e1, z, k, r⟩ := h; exact ⟨vs, ha.trans e1, z, k, r.sub e⟩
  | lck kvs => obtain ⟨o, vs, e1, z, k, r⟩ := h; exact ⟨o, vs, ha.trans e1, z, k, r.sub e⟩
  | ins C fs => obtain ⟨dx, vs, e1, k, r⟩ := h; exact ⟨dx, vs, ha.trans e1, k, r.sub e⟩
/-- the cells stay, the rest may grow -/
theorem HRel.sub (h : HRel K c m H) (e : Sub c H c' H') (er : c'.rho = c.rho) (same : ∀ a ∈ c.rho, H' a = H a) (fb : ∀ p ∈ c'.fb, H' p.1 = some p.2) (dj : ∀ a ∈ c'.fa, a ∉ c.rho) : HRel K c' m H' := by
  refine ⟨by rw [er]; exact h.len, by rw [er]; exact h.nd, fb, by rw [er]; exact dj, fun n x hx => ?_⟩
  obtain ⟨a, ha, ok⟩ := h.at_ n x hx
  exact ⟨a, by rw [er]; exact ha, ok.sub e (same a (List.mem_of_getElem? ha))⟩
theorem HRel.new (h : HRel K c m H) {p : Addr} {o : HO} (hp : H p = none) : HRel K c m (upd H p o) :=
  h.sub (Ext.new hp).sub rfl (fun a ha => upd_ne fun e => by subst e; exact h.live ha hp) (fun q hq => by
    rw [upd_ne fun e => by have := h.fb q hq; rw [e, hp] at this; cases this]
    exact h.fb q hq) h.dj
theorem HRel.free (h : HRel K c m H) {p : Addr} (hp : H p = none) : p ∉ c.fa ∧ p ∉ c.rho := by
  refine ⟨fun q => ?_, fun q => h.live q hp⟩
  obtain ⟨o, e⟩ := h.fas q
  rw [hp] at e
  cases e
/-- a new cell -/
theorem Ext.cell {p : Addr} {o : HO} (hp : H p = none) : Ext c H ⟨c.fb, c.rho ++ [p]⟩ (upd H p o) := by
  refine ⟨⟨[], by simp, fun _ h => nomatch h⟩, ⟨[p], rfl, fun a ha => by simp at ha; subst ha; exact hp⟩, fun a u h _ _ => ?_, fun a h => ?_⟩
  · rw [upd_ne (ne_of_none h hp)]; exact h
  · by_cases e : a = p
    · subst e; exact hp
    · rw [upd_ne e] at h; exact h
theorem HRel.cell (h : HRel K c m H) {p : Addr} {o : HO} {x : Cell} (hp : H p = none) (ok : CellOk K ⟨c.fb, c.rho ++ [p]⟩ (upd H p o) p x) : HRel K ⟨c.fb, c.rho ++ [p]⟩ (m ++ [x]) (upd H p o) := by
  have e : Ext c H ⟨c.fb, c.rho ++ [p]⟩ (upd H p o) := Ext.cell hp
  have fr := h.free hp
  refine ⟨by simp [h.len], ?_, fun q hq => ?_, fun a ha q => ?_, fun n y hy => ?_⟩
  · rw [List.nodup_append]
    exact ⟨h.nd, by simp, fun a ha b hb => by simp at hb; subst hb; intro q; subst q; exact fr.2 ha⟩
  · rw [upd_ne fun e => by have := h.fb q hq; rw [e, hp] at this; cases this]
    exact h.fb q hq
  · rcases List.mem_append.mp q with q | q
    · exact h.dj a ha q
    · simp at q; subst q; exact fr.1 ha
  · by_cases hn : n < m.length
    · rw [List.getElem?_append_left hn] at hy
      obtain ⟨a, ha, ok'⟩ := h.at_ n y hy
      exact ⟨a, e.at ha, ok'.sub e.sub (upd_ne fun q => by subst q; exact ok'.live hp)⟩
    · rw [List.getElem?_append_right (by omega)] at hy
      have hl : n - m.length = 0 := by
        cases q : n - m.length with
        | zero => rfl
        | succ k => rw [q] at hy; simp at hy
      rw [hl] at hy
      simp at hy
      subst hy
      have hn' : n = c.rho.length := by have := h.len; omega
      exact ⟨p, by subst hn'; simp, ok⟩
/-- a cell is written -/
theorem Ext.write {a : Addr} {o : HO} {n : Nat} (ha : c.rho[n]? = some a) : Ext c H c (upd H a o) := by
  refine ⟨⟨[], by simp, fun _ h => nomatch h⟩, ⟨[], by simp, fun _ h => nomatch h⟩, fun b u h _ nb => ?_, fun b h => ?_⟩
  · rw [upd_ne fun e => by subst e; exact nb (List.mem_of_getElem? ha)]; exact h
  · by_cases e : b = a
    · subst e; rw [upd_same] at h; cases h
    · rw [upd_ne e] at h; exact h
theorem HRel.write (h : HRel K c m H) {a : Addr} {o : HO} {n : Nat} {x : Cell} (ha : c.rho[n]? = some a) (ok : CellOk K c (upd H a o) a x) : HRel K c (m.set n x) (upd H a o) := by
  have e : Ext c H c (upd H a o) := Ext.write ha
  refine ⟨by simp [h.len], h.nd, fun p hp => ?_, h.dj, fun k y hy => ?_⟩
  · rw [upd_ne fun e => h.dj p.1 (List.mem_map.mpr ⟨p, hp, rfl⟩) (by rw [e]; exact List.mem_of_getElem? ha)]
    exact h.fb p hp
  · by_cases hk : n = k
    · subst hk
      have hn : n < m.length := by rw [← h.len]; exact (List.getElem?_eq_some_iff.mp ha).1
      rw [List.getElem?_set_self hn] at hy
      cases hy
      exact ⟨a, ha, ok⟩
    · rw [List.getElem?_set_ne hk] at hy
      obtain ⟨b, hb, ok'⟩ := h.at_ k y hy
      refine ⟨b, hb, ok'.sub e.sub (upd_ne fun q => ?_)⟩
      subst q
      exact hk ((List.getElem?_inj (List.getElem?_eq_some_iff.mp ha).1 h.nd).mp (ha.trans hb.symm))
end

/-! ### readings -/
/-- what stands of an exception -/
def XRel (K : PySem.W.Frag) (c : Cfg) (H : Hp) (x : Exn) (cls : Value) (dx : Option Addr) : Prop :=
  cls = .ref (He.ga K x.cls) ∧ ∃ (d : Addr) (fs : List (Str × V)), dx = some d ∧ H d = some (.xd fs) ∧ fs.map (·.1) = x.fs.map (·.1) ∧ RpWs K c H (fs.map (·.2)) (x.fs.map (·.2))
def Post (K : PySem.W.Frag) (U : WX) (σ : L2.St) (c : Cfg) (H : Hp) {α : Type} (R : Cfg → Hp → α → Hm → Prop) : Res α → Prop
  | .stuck => False
  | .ok a m' => ∀ c' H', Ext c H c' H' → HRel K c' m' H' → R c' H' a m'
  | .exc x m' => ∀ c' H' cls dx, Ext c H c' H' → HRel K c' m' H' → XRel K c' H' x cls dx → U cls dx σ H'
/-- the wish of a value -/
abbrev RQ (K : PySem.W.Frag) (Q : VK) : Cfg → Hp → W → Hm → Prop := fun c' H' w _ => ∀ v, RpW K c' H' v w → Q v H'
def T (K : PySem.W.Frag) (U : WX) (f : EX W) : TE := fun σ H Q => ∃ c s m, SRel K c H s σ ∧ HRel K c m H ∧ Post K U σ c H (RQ K Q) (f s m)
def TB (K : PySem.W.Frag) (U : WX) (f : EX Bool) : TT := fun σ H Q => ∃ c s m, SRel K c H s σ ∧ HRel K c m H ∧ Post K U σ c H (fun _ H' b _ => Q b H') (f s m)
def TL (K : PySem.W.Frag) (U : WX) (f : EX (List W)) : TA := fun σ H Q => ∃ c s m, SRel K c H s σ ∧ HRel K c m H ∧ Post K U σ c H (fun c' H' ws _ => ∀ vs, RpWs K c' H' vs ws → Q vs H') (f s m)
section
variable {K : PySem.W.Frag} {U : WX} {σ : L2.St} {c c1 : Cfg} {H H1 : Hp} {m : Hm} {s : Ev} {α : Type}
theorem Post.ext {R : Cfg → Hp → α → Hm → Prop} {r : Res α} (e : Ext c H c1 H1) (h : Post K U σ c H R r) : Post K U σ c1 H1 R r := by
  cases r with
  | stuck => exact h
  | ok a m' => exact fun c' H' e' hm => h c' H' (e.trans e') hm
  | exc x m' => exact fun c' H' cls dx e' hm xr => h c' H' cls dx (e.trans e') hm xr
theorem Post.ok {R : Cfg → Hp → α → Hm → Prop} {a : α} (h : Post K U σ c H R (.ok a m)) (hm : HRel K c m H) : R c H a m := h c H Ext.refl hm
theorem T.run {f : EX W} {k : W → Hm → Res α} {R : Cfg → Hp → α → Hm → Prop} {Z : VK} (hs : SRel K c H s σ) (hm : HRel K c m H) (hp : Post K U σ c H R ((f s m).bind k))
    (h : ∀ c1 H1 w m1 v, Ext c H c1 H1 → SRel K c1 H1 s σ → HRel K c1 m1 H1 → RpW K c1 H1 v w → Post K U σ c1 H1 R (k w m1) → Z v H1) : T K U f σ H Z := by
  refine ⟨c, s, m, hs, hm, ?_⟩
  cases e : f s m with
  | stuck => rw [e] at hp; exact hp
  | ok a m' =>
    rw [e] at hp
    exact fun c' H' e' hm' v rv => h c' H' a m' v e' (hs.mono e') hm' rv (hp.ext e')
  | exc x m' => rw [e] at hp; exact hp
theorem TB.run {f : EX Bool} {k : Bool → Hm → Res α} {R : Cfg → Hp → α → Hm → Prop} {Z : Bool → Hp → Prop} (hs : SRel K c H s σ) (hm : HRel K c m H) (hp : Post K U σ c H R ((f s m).bind k))
    (h : ∀ c1 H1 b m1, Ext c H c1 H1 → SRel K c1 H1 s σ → HRel K c1 m1 H1 → Post K U σ c1 H1 R (k b m1) → Z b H1) : TB K U f σ H Z := by
  refine ⟨c, s, m, hs, hm, ?_⟩
  cases e : f s m with
  | stuck => rw [e] at hp; exact hp
  | ok a m' =>
    rw [e] at hp
    exact fun c' H' e' hm' => h c' H' a m' e' (hs.mono e') hm' (hp.ext e')
  | exc x m' => rw [e] at hp; exact hp
theorem TL.run {f : EX (List W)} {k : List W → Hm → Res α} {R : Cfg → Hp → α → Hm → Prop} {Z : List V → Hp → Prop} (hs : SRel K c H s σ) (hm : HRel K c m H) (hp : Post K U σ c H R ((f s m).bind k))
    (h : ∀ c1 H1 ws m1 vs, Ext c H c1 H1 → SRel K c1 H1 s σ → HRel K c1 m1 H1 → RpWs K c1 H1 vs ws → Post K U σ c1 H1 R (k ws m1) → Z vs H1) : TL K U f σ H Z := by
  refine ⟨c, s, m, hs, hm, ?_⟩
  cases e : f s m with
  | stuck => rw [e] at hp; exact hp
  | ok a m' =>
    rw [e] at hp
    exact fun c' H' e' hm' vs rv => h c' H' a m' vs e' (hs.mono e') hm' rv (hp.ext e')
  | exc x m' => rw [e] at hp; exact hp
end
section
variable {X : Cx} {e : Expr}
theorem imp {t t' : TE} (h : PE X e t) (i : ∀ σ H Q, t' σ H Q → t σ H Q) : PE X e t' := ⟨fun pins s σ H Q I hw => h.run pins s σ H Q I (i σ H Q hw)⟩
theorem impT {t t' : TT} (h : PT X e t) (i : ∀ σ H Q, t' σ H Q → t σ H Q) : PT X e t' := ⟨fun pins s σ H Q I hw => h.run pins s σ H Q I (i σ H Q hw)⟩
theorem impA {es : List Expr} {t t' : TA} (h : PA X es t) (i : ∀ σ H Q, t' σ H Q → t σ H Q) : PA X es t' := ⟨fun pos pins s σ H Q I hw => h.run pos pins s σ H Q I (i σ H Q hw)⟩
theorem impS {st : Stmt} {t t' : TS} (h : PS X st t) (i : ∀ D σ H, t' D σ H → t D σ H) : PS X st t' := ⟨fun pins s σ H D I hw => h.run pins s σ H D I (i D σ H hw)⟩
theorem impSs {st : List Stmt} {t t' : TS} (h : PSs X st t) (i : ∀ D σ H, t' D σ H → t D σ H) : PSs X st t' := ⟨fun pins s σ H D I hw => h.run pins s σ H D I (i D σ H hw)⟩
end
end Mir

namespace Mir
open PySem PySem.Spec PyProof.Rows L2

/-! ### equality of data, decided -/
mutual
def beqP : PyData → PyData → Bool
  | .none, .none => true
  | .bool a, .bool b => a == b
  | .int i, .int j => i == j
  | .str x, .str y => x == y
  | .list xs, .list ys => beqPs xs ys
  | .tuple xs, .tuple ys => beqPs xs ys
  | .dict xs, .dict ys => beqKs xs ys
  | _, _ => false
def beqPs : List PyData → List PyData → Bool
  | [], [] => true
  | x :: xs, y :: ys => beqP x y && beqPs xs ys
  | _, _ => false
def beqKs : List (PyData × PyData) → List (PyData × PyData) → Bool
  | [], [] => true
  | (k, x) :: xs, (l, y) :: ys => beqP k l && (beqP x y && beqKs xs ys)
  | _, _ => false
end
mutual
theorem beqP_eq : ∀ (a b : PyData), beqP a b = true → a = b
  | .none, b, h => by cases b <;> simp_all [beqP]
  | .bool a, b, h => by cases b <;> simp_all [beqP]
  | .int i, b, h => by cases b <;> simp_all [beqP]
  | .str x, b, h => by cases b <;> simp_all [beqP]
  | .list xs, b, h => by
    cases b with
    | list ys => rw [beqPs_eq xs ys (by simpa [beqP] using h)]
    | _ => simp [beqP] at h
  | .tuple xs, b, h => by
    cases b with
    | tuple ys => rw [beqPs_eq xs ys (by simpa [beqP] using h)]
    | _ => simp [beqP] at h
  | .dict xs, b, h => by
    cases b with
    | dict ys => rw [beqKs_eq xs ys (by simpa [beqP] using h)]
    | _ => simp [beqP] at h
theorem beqPs_eq : ∀ (a b : List PyData), beqPs a b = true → a = b
  | [], b, h => by cases b <;> simp_all [beqPs]
  | x :: xs, b, h => by
    cases b with
    | nil => simp [beqPs] at h
    | cons y ys =>
      simp only [beqPs, Bool.and_eq_true] at h
      rw [beqP_eq x y h.1, beqPs_eq xs ys h.2]
theorem beqKs_eq : ∀ (a b : List (PyData × PyData)), beqKs a b = true → a = b
  | [], b, h => by cases b <;> simp_all [beqKs]
  | (k, x) :: xs, b, h => by
    cases b with
    | nil => simp [beqKs] at h
    | cons y ys =>
      obtain ⟨l, y⟩ := y
      simp only [beqKs, Bool.and_eq_true] at h
      rw [beqP_eq k l h.1, beqP_eq x y h.2.1, beqKs_eq xs ys h.2.2]
end
mutual
@[simp] theorem beqP_refl : ∀ (a : PyData), beqP a a = true
  | .none => rfl
  | .bool a => by simp [beqP]
  | .int i => by simp [beqP]
  | .str x => by simp [beqP]
  | .list xs => by simp only [beqP]; exact beqPs_refl xs
  | .tuple xs => by simp only [beqP]; exact beqPs_refl xs
  | .dict xs => by simp only [beqP]; exact beqKs_refl xs
@[simp] theorem beqPs_refl : ∀ (a : List PyData), beqPs a a = true
  | [] => rfl
  | x :: xs => by simp only [beqPs, beqP_refl x, beqPs_refl xs, Bool.and_self]
@[simp] theorem beqKs_refl : ∀ (a : List (PyData × PyData)), beqKs a a = true
  | [] => rfl
  | (k, x) :: xs => by simp only [beqKs, beqP_refl k, beqP_refl x, beqKs_refl xs, Bool.and_self]
end
mutual
def beqW : W → W → Bool
  | .p a, .p b => beqP a b
  | .ro a, .ro b => beqPs a b
  | .loc n, .loc k => n == k
  | .tw a, .tw b => beqWs a b
  | .kt a, .kt b => beqPs a b
  | _, _ => false
def beqWs : List W → List W → Bool
  | [], [] => true
  | x :: xs, y :: ys => beqW x y && beqWs xs ys
  | _, _ => false
end
mutual
theorem beqW_eq : ∀ (a b : W), beqW a b = true → a = b
  | .p d, b, h => by
    cases b with
    | p e => rw [beqP_eq d e (by simpa [beqW] using h)]
    | _ => simp [beqW] at h
  | .ro d, b, h => by
    cases b with
    | ro e => rw [beqPs_eq d e (by simpa [beqW] using h)]
    | _ => simp [beqW] at h
  | .loc n, b, h => by cases b <;> simp_all [beqW]
  | .tw d, b, h => by
    cases b with
    | tw e => rw [beqWs_eq d e (by simpa [beqW] using h)]
    | _ => simp [beqW] at h
  | .kt d, b, h => by
    cases b with
    | kt e => rw [beqPs_eq d e (by simpa [beqW] using h)]
    | _ => simp [beqW] at h
theorem beqWs_eq : ∀ (a b : List W), beqWs a b = true → a = b
  | [], b, h => by cases b <;> simp_all [beqWs]
  | x :: xs, b, h => by
    cases b with
    | nil => simp [beqWs] at h
    | cons y ys =>
      simp only [beqWs, Bool.and_eq_true] at h
      rw [beqW_eq x y h.1, beqWs_eq xs ys h.2]
end
mutual
@[simp] theorem beqW_refl : ∀ (a : W), beqW a a = true
  | .p d => by simp [beqW]
  | .ro d => by simp [beqW]
  | .loc n => by simp [beqW]
  | .tw d => by simp only [beqW]; exact beqWs_refl d
  | .kt d => by simp [beqW]
@[simp] theorem beqWs_refl : ∀ (a : List W), beqWs a a = true
  | [] => rfl
  | x :: xs => by simp only [beqWs, beqW_refl x, beqWs_refl xs, Bool.and_self]
end

/-! ### what may be read -/
def rd (m : Hm) : W → Option PyData
  | .p d => some d
  | .ro ds => some (.list ds)
  | .loc n => match m[n]? with
    | some (.lst ws) => (allP ws).map .list
    | _ => none
  | .tw ws => (allP ws).map .tuple
  | .kt ds => some (.tuple ds)
@[simp] theorem rd_p {m : Hm} {d : PyData} : rd m (.p d) = some d := rfl
section
variable {K : PySem.W.Frag} {c : Cfg} {H : Hp} {m : Hm}
mutual
theorem Rp.dp : ∀ {v : V} {d : PyData}, Rp K c H v d → Dp K H v d
  | _, _, .non => .non
  | _, _, .bl b => .bl b
  | _, _, .int i => .int i
  | _, _, .str x => .str x
  | _, _, .lst h _ _ _ r => .lst (SqL.of h) (RpAll.dp r)
  | _, _, .tup h _ r => .tup h.sq (RpAll.dp r)
theorem RpAll.dp : ∀ {vs : List V} {ds : List PyData}, RpAll K c H vs ds → DpAll K H vs ds
  | _, _, .nil => .nil
  | _, _, .cons r t => .cons (Rp.dp r) (RpAll.dp t)
end
/-- a list that is read, with its items -/
theorem rd_list {v : V} {w : W} {ds : List PyData} (hm : HRel K c m H) (r : RpW K c H v w) (e : rd m w = some (.list ds)) : ∃ a xs, v = .ref a ∧ SqL K H a xs ∧ RpAll K c H xs ds ∧ xs.length ≤ sizeLine := by
  cases r with
  | p r =>
    cases e
    cases r with
    | lst h n n2 z r => exact ⟨_, _, rfl, SqL.of h, r, z⟩
  | ro h z r => cases e; exact ⟨_, _, rfl, h.sq, r, z⟩
  | @loc a n h =>
    simp only [rd] at e
    cases q : m[n]? with
    | none => rw [q] at e; cases e
    | some x =>
      rw [q] at e
      cases x with
      | lst ws =>
        obtain ⟨ds', e', q'⟩ := Option.map_eq_some_iff.mp e
        cases q'
        obtain ⟨b, hb, xs, hx, z, rr⟩ := hm.at_ n _ q
        rw [h] at hb; cases hb
        exact ⟨_, _, rfl, SqL.of hx, allP_rp rr e', z⟩
      | _ => cases e
  | tw h z r =>
    simp only [rd] at e
    obtain ⟨ds', e', q'⟩ := Option.map_eq_some_iff.mp e
    cases q'
  | kt h d n n2 z r => cases e
theorem rd_tuple {v : V} {w : W} {ds : List PyData} (hm : HRel K c m H) (r : RpW K c H v w) (e : rd m w = some (.tuple ds)) : ∃ a xs, v = .ref a ∧ TupAt K c H a xs ∧ RpAll K c H xs ds ∧ xs.length ≤ sizeLine := by
  cases r with
  | p r =>
    cases e
    cases r with
    | tup h z r => exact ⟨_, _, rfl, h, r, z⟩
  | ro h z r => cases e
  | @loc a n h =>
    simp only [rd] at e
    cases q : m[n]? with
    | none => rw [q] at e; cases e
    | some x =>
      rw [q] at e
      cases x with
      | lst ws =>
        obtain ⟨ds', e', q'⟩ := Option.map_eq_some_iff.mp e
        cases q'
      | _ => cases e
  | tw h z r =>
    simp only [rd] at e
    obtain ⟨ds', e', q'⟩ := Option.map_eq_some_iff.mp e
    cases q'
    exact ⟨_, _, rfl, h, allP_rp r e', z⟩
  | kt h d n n2 z r => cases e; exact ⟨_, _, rfl, .inl ⟨.inr ⟨_, h⟩, n, n2⟩, r, z⟩
theorem rd_dp {v : V} {w : W} {d : PyData} (hm : HRel K c m H) (r : RpW K c H v w) (e : rd m w = some d) : Dp K H v d := by
  cases r with
  | p r => cases e; exact r.dp
  | ro h z r => cases e; exact .lst h.sq r.dp
  | @loc a n h =>
    have e0 := e
    simp only [rd] at e
    cases q : m[n]? with
    | none => rw [q] at e; cases e
    | some x =>
      rw [q] at e
      cases x with
      | lst ws =>
        obtain ⟨ds', e', q'⟩ := Option.map_eq_some_iff.mp e
        subst q'
        obtain ⟨a', xs, e1, h1, r1, _⟩ := rd_list hm (.loc h) e0
        cases e1
        exact .lst h1 r1.dp
      | _ => cases e
  | tw h z r =>
    have e0 := e
    simp only [rd] at e
    obtain ⟨ds', e', q'⟩ := Option.map_eq_some_iff.mp e
    subst q'
    exact .tup h.sq (allP_rp r e').dp
  | kt h d n n2 z r => cases e; exact .tup (.inl (.inr ⟨_, h⟩)) r.dp
end

/-! ### names, constants -/
def eVar (i : Nat) : EX W := fun s m => match s[i]? with
  | some (some w) => .ok w m
  | _ => .stuck
def eC (d : PyData) : EX W := fun _ m => .ok (.p d) m
section
variable {X : Cx} {U : WX} {pos : Pos}
theorem x_var (i : Nat) {x : Str} (hN : X.N[i]? = some x := by rfl) (hv : Vis X.env.scope x := by first | exact Or.inl rfl | exact Or.inr (Or.inl rfl) | exact Or.inr (Or.inr rfl)) (hd : (x == ("__debug__" : Str)) = false := by decide)
    (hcd : (x == ("__classdict__" : Str)) = false := by decide) : PE X (.Name x pos) (T X.K U (eVar i)) := by
  refine imp (pv i hN hv hd hcd) ?_
  rintro σ H Q ⟨c, s, m, hs, hm, hp⟩
  unfold eVar at hp
  split at hp
  · rename_i w e
    obtain ⟨v, hv, r⟩ := hs.2 i w e
    exact ⟨v, hv, hp.ok hm v r⟩
  · exact hp.elim
theorem x_const {d : PyData} {v : V} {e : Expr} (h : PE X e (tC v)) (r : ∀ c H, Rp X.K c H v d) : PE X e (T X.K U (eC d)) := by
  refine imp h ?_
  rintro σ H Q ⟨c, s, m, hs, hm, hp⟩
  exact hp.ok hm v (.p (r c H))
theorem x_int {i : Int} {j : Nat} : PE X (.Constant (.int i) j pos) (T X.K U (eC (.int i))) := x_const pe_int fun _ _ => .int i
theorem x_bl {b : Bool} {j : Nat} : PE X (.Constant (.bool b) j pos) (T X.K U (eC (.bool b))) := x_const pe_bl fun _ _ => .bl b
theorem x_non {j : Nat} : PE X (.Constant .none j pos) (T X.K U (eC .none)) := x_const pe_non fun _ _ => .non
theorem x_str {x : Str} {j : Nat} : PE X (.Constant (.str x) j pos) (T X.K U (eC (.str x))) := x_const pe_str fun _ _ => .str x
theorem x_gint {x : Str} {i : Int} (hm : ∃ t, X.mg x = some (.int i t)) (hg : Gl X x := by rfl) (hd : (x == ("__debug__" : Str)) = false := by decide) : PE X (.Name x pos) (T X.K U (eC (.int i))) := by
  obtain ⟨t, hm⟩ := hm
  exact x_const (pe_glob (v := .int i) hg hm ⟨t, rfl⟩ hd) fun _ _ => .int i
theorem x_gstr {x z : Str} (hm : ∃ t, X.mg x = some (.str z t)) (hg : Gl X x := by rfl) (hd : (x == ("__debug__" : Str)) = false := by decide) : PE X (.Name x pos) (T X.K U (eC (.str z))) := by
  obtain ⟨t, hm⟩ := hm
  exact x_const (pe_glob (v := .str z) hg hm ⟨t, rfl⟩ hd) fun _ _ => .str z
end

/-! ### two-place operations -/
def eOp2 (g : W → W → Hm → Res W) (f1 f2 : EX W) : EX W := fun s m => (f1 s m).bind fun a m1 => (f2 s m1).bind fun b m2 => g a b m2
def OpM (K : PySem.W.Frag) (r : R2) (g : W → W → Hm → Res W) : Prop := ∀ (U : WX) (σ : L2.St) (c : Cfg) (H : Hp) (m : Hm) (v1 v2 : V) (w1 w2 : W) (Q : VK),
  HRel K c m H → RpW K c H v1 w1 → RpW K c H v2 w2 → Post K U σ c H (RQ K Q) (g w1 w2 m) → r v1 v2 H Q
section
variable {X : Cx} {U : WX} {pos : Pos} {a b : Expr} {f1 f2 : EX W}
theorem t_op2 {K : PySem.W.Frag} {r : R2} {g : W → W → Hm → Res W} (hg : OpM K r g) {σ : L2.St} {H : Hp} {Q : VK} (h : T K U (eOp2 g f1 f2) σ H Q) : tOp r (T K U f1) (T K U f2) σ H Q := by
  obtain ⟨c, s, m, hs, hm, hp⟩ := h
  exact T.run hs hm hp fun c1 H1 w1 m1 v1 e1 hs1 hm1 r1 hp1 => T.run hs1 hm1 hp1 fun c2 H2 w2 m2 v2 e2 hs2 hm2 r2 hp2 => hg U σ c2 H2 m2 v1 v2 w1 w2 Q hm2 (r1.mono e2) r2 hp2
theorem x_op {op : Operator} {r : R2} {g : W → W → Hm → Res W} (ho : OpR X (binaryOp op) r) (hg : OpM X.K r g) (ha : PE X a (T X.K U f1)) (hb : PE X b (T X.K U f2)) : PE X (.BinOp a op b pos) (T X.K U (eOp2 g f1 f2)) :=
  imp (pe_op ho ha hb) fun _ _ _ h => t_op2 hg h
theorem x_cmp {op : CmpOp} {r : R2} {g : W → W → Hm → Res W} (ho : OpR X (compareOp op) r) (hg : OpM X.K r g) (ha : PE X a (T X.K U f1)) (hb : PE X b (T X.K U f2)) (hm : behindInMarks op b = false := by first | exact nomark _ | rfl | with_unfolding_all rfl) :
    PE X (.Compare a [op] [b] pos) (T X.K U (eOp2 g f1 f2)) := imp (pe_cmpR ho ha hb hm) fun _ _ _ h => t_op2 hg h
/-- by cases of the values: two rules for one operation -/
theorem OpM.or {K : PySem.W.Frag} {r r' : R2} {g : W → W → Hm → Res W} (h : ∀ (U : WX) (σ : L2.St) (c : Cfg) (H : Hp) (m : Hm) (v1 v2 : V) (w1 w2 : W) (Q : VK), HRel K c m H → RpW K c H v1 w1 → RpW K c H v2 w2 → Post K U σ c H (RQ K Q) (g w1 w2 m) → r v1 v2 H Q ∨ r' v1 v2 H Q) :
    OpM K (fun x y H Q => r x y H Q ∨ r' x y H Q) g := h
end
/-- ints in, an int out -/
def intM (C : Int → Int → Bool) (g : Int → Int → PyData) : W → W → Hm → Res W
  | .p (.int i), .p (.int j), m => if C i j = true then .ok (.p (g i j)) m else .stuck
  | _, _, _ => .stuck
@[simp] theorem intM_ii {C : Int → Int → Bool} {g : Int → Int → PyData} {i j : Int} {m : Hm} : intM C g (.p (.int i)) (.p (.int j)) m = if C i j = true then .ok (.p (g i j)) m else .stuck := rfl
theorem intM_ok {K : PySem.W.Frag} {C : Int → Int → Bool} {CP : Int → Int → Prop} {g : Int → Int → PyData} {gv : Int → Int → V} (hC : ∀ i j, C i j = true → CP i j) (hr : ∀ c H i j, Rp K c H (gv i j) (g i j)) : OpM K (rI CP gv) (intM C g) := by
  intro U σ c H m v1 v2 w1 w2 Q hm r1 r2 hp
  unfold intM at hp
  split at hp
  · rename_i i j
    cases r1 with | p r1 => cases r2 with | p r2 =>
    cases r1; cases r2
    split at hp
    · rename_i hc
      exact ⟨i, j, rfl, rfl, hC i j hc, hp.ok hm _ (.p (hr c H i j))⟩
    · exact hp.elim
  · exact hp.elim
theorem intM0_ok {K : PySem.W.Frag} {g : Int → Int → PyData} {gv : Int → Int → V} (hr : ∀ c H i j, Rp K c H (gv i j) (g i j)) : OpM K (rI0 gv) (intM (fun _ _ => true) g) := by
  intro U σ c H m v1 v2 w1 w2 Q hm r1 r2 hp
  obtain ⟨i, j, e1, e2, _, q⟩ := intM_ok (CP := fun _ _ => True) (fun _ _ _ => trivial) hr U σ c H m v1 v2 w1 w2 Q hm r1 r2 hp
  exact ⟨i, j, e1, e2, q⟩
def subM := intM (fun _ _ => true) fun i j => .int (i - j)
def smallI (i : Int) : Bool := decide (-(2 ^ 64) < i) && decide (i < 2 ^ 64)
def mulI := intM (fun i j => smallI i || smallI j) fun i j => .int (i * j)
def modM := intM (fun _ j => decide (0 < j)) fun i j => .int (i % j)
def divM := intM (fun _ j => decide (0 < j) && decide (j < 1073741824)) fun i j => .int (i / j)
def powM := intM (fun i j => decide (0 ≤ j) && (decide (j ≤ 1000000) && decide (i.natAbs < 2 ^ 64))) fun i j => .int (i ^ j.toNat)
theorem subM_ok {K : PySem.W.Frag} : OpM K (rI0 fun i j => .int (i - j)) subM := intM0_ok fun _ _ _ _ => .int _
theorem mulI_ok {K : PySem.W.Frag} : OpM K (rI CMul fun i j => .int (i * j)) mulI := intM_ok (fun i j h => by
  simp only [smallI, Bool.or_eq_true, Bool.and_eq_true, decide_eq_true_eq] at h
  exact h) fun _ _ _ _ => .int _
theorem modM_ok {K : PySem.W.Frag} : OpM K (rI (fun _ j => 0 < j) fun i j => .int (i % j)) modM := intM_ok (fun i j h => by simpa using h) fun _ _ _ _ => .int _
theorem divM_ok {K : PySem.W.Frag} : OpM K (rI CDiv fun i j => .int (i / j)) divM := intM_ok (fun i j h => by
  simp only [Bool.and_eq_true, decide_eq_true_eq] at h
  exact h) fun _ _ _ _ => .int _
theorem powM_ok {K : PySem.W.Frag} : OpM K (rI CPow fun i j => .int (i ^ j.toNat)) powM := intM_ok (fun i j h => by
  simp only [Bool.and_eq_true, decide_eq_true_eq] at h
  exact h) fun _ _ _ _ => .int _
def negM : W → Hm → Res W
  | .p (.int i), m => .ok (.p (.int (-i))) m
  | _, _ => .stuck
def eOp1 (g : W → Hm → Res W) (f : EX W) : EX W := fun s m => (f s m).bind g
theorem x_neg {X : Cx} {U : WX} {pos : Pos} {a : Expr} {f : EX W} (ha : PE X a (T X.K U f)) : PE X (.UnaryOp .USub a pos) (T X.K U (eOp1 negM f)) := by
  refine imp (pe_un un_neg ha) ?_
  rintro σ H Q ⟨c, s, m, hs, hm, hp⟩
  refine T.run hs hm hp fun c1 H1 w1 m1 v1 e1 hs1 hm1 r1 hp1 => ?_
  unfold negM at hp1
  split at hp1
  · rename_i i
    cases r1 with | p r1 =>
    cases r1
    exact ⟨i, rfl, hp1.ok hm1 _ (.p (.int _))⟩
  · exact hp1.elim

/-! ### + : ints, texts, tuples, lists -/
def seqT : W → Option (List W)
  | .p (.tuple ds) => some (ds.map .p)
  | .tw ws => some ws
  | _ => none
/-- a tuple of values -/
def mkTup (ws : List W) : W := match allP ws with
  | some ds => .p (.tuple ds)
  | none => .tw ws
@[simp] theorem mkTup_map (ds : List PyData) : mkTup (ds.map .p) = .p (.tuple ds) := by simp [mkTup]
def addM : W → W → Hm → Res W
  | .p (.int i), .p (.int j), m => .ok (.p (.int (i + j))) m
  | .p (.str x), .p (.str y), m => if x.length + y.length ≤ sizeLine then .ok (.p (.str (x ++ y))) m else .stuck
  | .p (.tuple xs), .p (.tuple ys), m => if xs.length + ys.length ≤ sizeLine then .ok (.p (.tuple (xs ++ ys))) m else .stuck
  | .p (.list xs), .p (.list ys), m => if xs.length + ys.length ≤ sizeLine then .ok (.p (.list (xs ++ ys))) m else .stuck
  | _, _, _ => .stuck
section
variable {K : PySem.W.Frag} {c : Cfg} {H : Hp} {m : Hm}
theorem Rp.tupI {v : V} {ds : List PyData} (r : Rp K c H v (.tuple ds)) : ∃ a xs, v = .ref a ∧ TupAt K c H a xs ∧ xs.length ≤ sizeLine ∧ RpAll K c H xs ds := by
  cases r with | tup h z r => exact ⟨_, _, rfl, h, z, r⟩
theorem Rp.lstI {v : V} {ds : List PyData} (r : Rp K c H v (.list ds)) : ∃ a xs, v = .ref a ∧ H a = some (.lst xs) ∧ a ∉ c.fa ∧ a ∉ c.rho ∧ xs.length ≤ sizeLine ∧ RpAll K c H xs ds := by
  cases r with | lst h n n2 z r => exact ⟨_, _, rfl, h, n, n2, z, r⟩
theorem RpAll.nil_iff {xs : List V} {ds : List PyData} (r : RpAll K c H xs ds) : xs = [] ↔ ds = [] := by cases r <;> simp
/-- a new tuple, a new list -/
theorem Rp.newT {p : Addr} {xs : List V} {ds : List PyData} (hm : HRel K c m H) (hp : H p = none) (z : xs.length ≤ sizeLine) (r : RpAll K c H xs ds) : Rp K c (upd H p (.tup xs)) (.ref p) (.tuple ds) :=
  .tup (.inl ⟨.inl upd_same, (hm.free hp).1, (hm.free hp).2⟩) z (r.mono (Ext.new hp))
theorem Rp.newL {p : Addr} {xs : List V} {ds : List PyData} (hm : HRel K c m H) (hp : H p = none) (z : xs.length ≤ sizeLine) (r : RpAll K c H xs ds) : Rp K c (upd H p (.lst xs)) (.ref p) (.list ds) :=
  .lst upd_same (hm.free hp).1 (hm.free hp).2 z (r.mono (Ext.new hp))
end
abbrev rAddAll (K : PySem.W.Frag) : R2 := fun x y H Q => (rI0 (fun i j => .int (i + j))) x y H Q ∨ ((fun x y H Q => ∃ i j, x = V.str i ∧ y = V.str j ∧ i.length + j.length ≤ sizeLine ∧ Q (V.str (i ++ j)) H) x y H Q ∨ (rCatA K x y H Q ∨ rCat x y H Q))
theorem op_addAll {X : Cx} : OpR X (binaryOp .Add) (rAddAll X.K) := op_add.or (op_add_str.or (op_catA.or op_cat))
theorem addM_ok {K : PySem.W.Frag} : OpM K (rAddAll K) addM := by
  intro U σ c H m v1 v2 w1 w2 Q hm r1 r2 hp
  unfold addM at hp
  split at hp
  · cases r1 with | p r1 => cases r2 with | p r2 =>
    cases r1; cases r2
    exact .inl ⟨_, _, rfl, rfl, hp.ok hm _ (.p (.int _))⟩
  · cases r1 with | p r1 => cases r2 with | p r2 =>
    cases r1; cases r2
    split at hp
    · rename_i hz
      exact .inr (.inl ⟨_, _, rfl, rfl, hz, hp.ok hm _ (.p (.str _))⟩)
    · exact hp.elim
  · cases r1 with | p r1 => cases r2 with | p r2 =>
    split at hp
    · rename_i hz
      obtain ⟨a, xs, rfl, h1, z1, q1⟩ := r1.tupI
      obtain ⟨b, ys, rfl, h2, z2, q2⟩ := r2.tupI
      have l1 := q1.length
      have l2 := q2.length
      refine .inr (.inr (.inl ⟨a, b, xs, ys, rfl, rfl, h1.sq, h2.sq, by omega, fun e => ?_, fun _ e => ?_, fun _ _ p hpn => ?_⟩))
      · have e' := q1.nil_iff.mp e
        subst e'
        exact hp.ok hm _ (.p (by simpa using r2))
      · have e' := q2.nil_iff.mp e
        subst e'
        exact hp.ok hm _ (.p (by simpa using r1))
      · exact hp c (upd H p _) (Ext.new hpn) (hm.new hpn) _ (.p (Rp.newT hm hpn (by simp only [List.length_append]; omega) (RpAll.append q1 q2)))
    · exact hp.elim
  · cases r1 with | p r1 => cases r2 with | p r2 =>
    split at hp
    · rename_i hz
      obtain ⟨a, xs, rfl, h1, _, _, z1, q1⟩ := r1.lstI
      obtain ⟨b, ys, rfl, h2, _, _, z2, q2⟩ := r2.lstI
      have l1 := q1.length
      have l2 := q2.length
      refine .inr (.inr (.inr ⟨a, b, xs, ys, rfl, rfl, h1, h2, by omega, fun p hpn => ?_⟩))
      exact hp c (upd H p _) (Ext.new hpn) (hm.new hpn) _ (.p (Rp.newL hm hpn (by simp only [List.length_append]; omega) (RpAll.append q1 q2)))
    · exact hp.elim
  · exact hp.elim

/-! ### == and its kin -/
def eqM (neg : Bool) (a b : W) (m : Hm) : Res W := match rd m a, rd m b with
  | some d, some e => if (SeqAt.shaped d && SeqAt.shaped e) = true then .ok (.p (.bool (if neg = true then !PyData.eqv d e else PyData.eqv d e))) m else .stuck
  | _, _ => .stuck
theorem eqM_ok {K : PySem.W.Frag} : OpM K (rEqD K) (eqM false) := by
  intro U σ c H m v1 v2 w1 w2 Q hm r1 r2 hp
  unfold eqM at hp
  split at hp
  · rename_i d e e1 e2
    split at hp
    · rename_i hz
      rw [Bool.and_eq_true] at hz
      exact ⟨d, e, rd_dp hm r1 e1, rd_dp hm r2 e2, hz.1, hz.2, hp.ok hm _ (.p (.bl _))⟩
    · exact hp.elim
  · exact hp.elim
theorem neM_ok {K : PySem.W.Frag} : OpM K (rNeD K) (eqM true) := by
  intro U σ c H m v1 v2 w1 w2 Q hm r1 r2 hp
  unfold eqM at hp
  split at hp
  · rename_i d e e1 e2
    split at hp
    · rename_i hz
      rw [Bool.and_eq_true] at hz
      exact ⟨d, e, rd_dp hm r1 e1, rd_dp hm r2 e2, hz.1, hz.2, hp.ok hm _ (.p (.bl _))⟩
    · exact hp.elim
  · exact hp.elim
/-- ints of data -/
def intsOf : List PyData → Option (List Int)
  | [] => some []
  | .int i :: r => (intsOf r).map (i :: ·)
  | _ :: _ => none
theorem intsOf_eq : ∀ {ds : List PyData} {ns : List Int}, intsOf ds = some ns → ds = ns.map PyData.int
  | [], _, h => by cases h; rfl
  | d :: r, ns, h => by
    cases d with
    | int i =>
      obtain ⟨ns', e, rfl⟩ := Option.map_eq_some_iff.mp (show (intsOf r).map (i :: ·) = some ns from h)
      rw [intsOf_eq e]
      rfl
    | _ => cases h
@[simp] theorem intsOf_map (ns : List Int) : intsOf (ns.map PyData.int) = some ns := by
  induction ns with
  | nil => rfl
  | cons n r ih => simp [intsOf, ih]
@[simp] theorem intsOf_nil : intsOf [] = some [] := rfl
@[simp] theorem intsOf_cons (i : Int) (r : List PyData) : intsOf (.int i :: r) = (intsOf r).map (i :: ·) := rfl
theorem RpAll.ints {K : PySem.W.Frag} {c : Cfg} {H : Hp} : ∀ {xs : List V} {ns : List Int}, RpAll K c H xs (ns.map PyData.int) → xs = ns.map V.int
  | _, [], h => by cases h; rfl
  | _, n :: ns, h => by
    cases h with
    | cons r t =>
      cases r
      rw [RpAll.ints t]
      rfl
def ltM : W → W → Hm → Res W
  | .p (.int i), .p (.int j), m => .ok (.p (.bool (decide (i < j)))) m
  | .p (.tuple xs), .p (.tuple ys), m => match intsOf xs, intsOf ys with
    | some ns, some ms => .ok (.p (.bool (HT.lexLt ns ms))) m
    | _, _ => .stuck
  | _, _, _ => .stuck
abbrev rLtAll (K : PySem.W.Frag) : R2 := fun x y H Q => (rI0 (fun i j => .bl (decide (i < j)))) x y H Q ∨ rLtT K x y H Q
theorem op_ltAll {X : Cx} (hu : X.A.units < cLine) : OpR X (compareOp .Lt) (rLtAll X.K) := op_lt.or (op_ltT hu)
theorem ltM_ok {K : PySem.W.Frag} : OpM K (rLtAll K) ltM := by
  intro U σ c H m v1 v2 w1 w2 Q hm r1 r2 hp
  unfold ltM at hp
  split at hp
  · cases r1 with | p r1 => cases r2 with | p r2 =>
    cases r1; cases r2
    exact .inl ⟨_, _, rfl, rfl, hp.ok hm _ (.p (.bl _))⟩
  · cases r1 with | p r1 => cases r2 with | p r2 =>
    split at hp
    · rename_i ns ms e1 e2
      obtain ⟨a, xs, rfl, h1, z1, q1⟩ := r1.tupI
      obtain ⟨b, ys, rfl, h2, z2, q2⟩ := r2.tupI
      rw [intsOf_eq e1] at q1
      rw [intsOf_eq e2] at q2
      have l1 := q1.ints
      have l2 := q2.ints
      subst l1 l2
      exact .inr ⟨a, b, ns, ms, rfl, rfl, h1.sq, h2.sq, hp.ok hm _ (.p (.bl _))⟩
    · exact hp.elim
  · exact hp.elim
def leM := intM (fun _ _ => true) fun i j => .bool (decide (i ≤ j))
def gtM := intM (fun _ _ => true) fun i j => .bool (decide (j < i))
def geM := intM (fun _ _ => true) fun i j => .bool (decide (j ≤ i))
theorem leM_ok {K : PySem.W.Frag} : OpM K (rI0 fun i j => .bl (decide (i ≤ j))) leM := intM0_ok fun _ _ _ _ => .bl _
theorem gtM_ok {K : PySem.W.Frag} : OpM K (rI0 fun i j => .bl (decide (j < i))) gtM := intM0_ok fun _ _ _ _ => .bl _
theorem geM_ok {K : PySem.W.Frag} : OpM K (rI0 fun i j => .bl (decide (j ≤ i))) geM := intM0_ok fun _ _ _ _ => .bl _
/-- is None, is not None -/
def isNone : W → Bool
  | .p .none => true
  | _ => false
def isNoneM (neg : Bool) (a b : W) (m : Hm) : Res W := match b with
  | .p .none => .ok (.p (.bool (if neg = true then !isNone a else isNone a))) m
  | _ => .stuck
theorem RpW.isNone {K : PySem.W.Frag} {c : Cfg} {H : Hp} {v : V} {w : W} (r : RpW K c H v w) : decide (v = .non) = Mir.isNone w := by
  cases r with
  | p r => cases r <;> simp [Mir.isNone]
  | ro => simp [Mir.isNone]
  | loc => simp [Mir.isNone]
  | tw => simp [Mir.isNone]
  | kt => simp [Mir.isNone]
theorem isNoneM_ok {K : PySem.W.Frag} : OpM K (fun x y H Q => y = .non ∧ Q (.bl (decide (x = .non))) H) (isNoneM false) := by
  intro U σ c H m v1 v2 w1 w2 Q hm r1 r2 hp
  unfold isNoneM at hp
  split at hp
  · cases r2 with | p r2 =>
    cases r2
    exact ⟨rfl, by rw [r1.isNone]; exact hp.ok hm _ (.p (.bl _))⟩
  · exact hp.elim
theorem notNoneM_ok {K : PySem.W.Frag} : OpM K (fun x y H Q => y = .non ∧ Q (.bl (!decide (x = .non))) H) (isNoneM true) := by
  intro U σ c H m v1 v2 w1 w2 Q hm r1 r2 hp
  unfold isNoneM at hp
  split at hp
  · cases r2 with | p r2 =>
    cases r2
    exact ⟨rfl, by rw [r1.isNone]; exact hp.ok hm _ (.p (.bl _))⟩
  · exact hp.elim
/-- is, is not of bools -/
def isBlM (neg : Bool) : W → W → Hm → Res W
  | .p (.bool a), .p (.bool b), m => .ok (.p (.bool (if neg = true then !decide (a = b) else decide (a = b)))) m
  | _, _, _ => .stuck
theorem isBlM_ok {K : PySem.W.Frag} : OpM K (fun x y H Q => ∃ a b, x = .bl a ∧ y = .bl b ∧ Q (.bl (decide (a = b))) H) (isBlM false) := by
  intro U σ c H m v1 v2 w1 w2 Q hm r1 r2 hp
  unfold isBlM at hp
  split at hp
  · cases r1 with | p r1 => cases r2 with | p r2 =>
    cases r1; cases r2
    exact ⟨_, _, rfl, rfl, hp.ok hm _ (.p (.bl _))⟩
  · exact hp.elim
theorem isntBlM_ok {K : PySem.W.Frag} : OpM K (fun x y H Q => ∃ a b, x = .bl a ∧ y = .bl b ∧ Q (.bl (!decide (a = b))) H) (isBlM true) := by
  intro U σ c H m v1 v2 w1 w2 Q hm r1 r2 hp
  unfold isBlM at hp
  split at hp
  · cases r1 with | p r1 => cases r2 with | p r2 =>
    cases r1; cases r2
    exact ⟨_, _, rfl, rfl, hp.ok hm _ (.p (.bl _))⟩
  · exact hp.elim
/-- in, not in: a list of data; a tuple of flat data -/
def flatP : PyData → Bool
  | .none => true
  | .bool _ => true
  | .int _ => true
  | .str _ => true
  | _ => false
def inM (neg : Bool) (a b : W) (m : Hm) : Res W := match rd m a, rd m b with
  | some d, some (.list ds) => if (SeqAt.shaped d && SeqAt.shaped (.list ds)) = true then .ok (.p (.bool (if neg = true then !(ds.any fun z => PyData.eqv z d) else ds.any fun z => PyData.eqv z d))) m else .stuck
  | some d, some (.tuple ds) => if (flatP d && ds.all flatP) = true then .ok (.p (.bool (if neg = true then !(ds.any fun z => PyData.eqv z d) else ds.any fun z => PyData.eqv z d))) m else .stuck
  | _, _ => .stuck
theorem flat_of {K : PySem.W.Frag} {H : Hp} {v : V} {d : PyData} (h : Dp K H v d) (f : flatP d = true) : flatV v = true := by
  cases h with
  | lst => cases f
  | tup => cases f
  | _ => rfl
theorem flats_of {K : PySem.W.Frag} {H : Hp} : ∀ {vs : List V} {ds : List PyData}, DpAll K H vs ds → ds.all flatP = true → vs.all flatV = true
  | _, _, .nil, _ => rfl
  | _, _, .cons r t, f => by
    rw [List.all_cons, Bool.and_eq_true] at f
    rw [List.all_cons, flat_of r f.1, flats_of t f.2]
    rfl
theorem eqV_of {K : PySem.W.Frag} {H : Hp} {v u : V} {d e : PyData} (h : Dp K H v d) (h' : Dp K H u e) (f : flatP d = true) (f' : flatP e = true) : eqV v u = PyData.eqv d e := by
  cases h with
  | lst => cases f
  | tup => cases f
  | non => cases h' with
    | lst => cases f'
    | tup => cases f'
    | _ => rfl
  | bl b => cases h' with
    | lst => cases f'
    | tup => cases f'
    | _ => rfl
  | int i => cases h' with
    | lst => cases f'
    | tup => cases f'
    | _ => rfl
  | str x => cases h' with
    | lst => cases f'
    | tup => cases f'
    | _ => rfl
theorem inV_of {K : PySem.W.Frag} {H : Hp} {v : V} {d : PyData} (h : Dp K H v d) (f : flatP d = true) : ∀ {vs : List V} {ds : List PyData}, DpAll K H vs ds → ds.all flatP = true → inV v vs = ds.any fun z => PyData.eqv z d
  | _, _, .nil, _ => rfl
  | _, _, .cons r t, g => by
    rw [List.all_cons, Bool.and_eq_true] at g
    show (eqV _ v || inV v _) = _
    rw [eqV_of r h g.1 f, inV_of h f t g.2, List.any_cons]
theorem DpAll.inv {K : PySem.W.Frag} {H : Hp} {v : V} {ds : List PyData} (h : Dp K H v (.tuple ds)) : ∃ a xs, v = .ref a ∧ SqT K H a xs ∧ DpAll K H xs ds := by
  cases h with | tup h r => exact ⟨_, _, rfl, h, r⟩
theorem op_inAll {X : Cx} (hu : X.A.units + 65 < cLine) : OpR X (compareOp .In) (fun x y H Q => rInD X.K x y H Q ∨ rIn X.K false x y H Q) := (op_inD hu).or op_in_seq
theorem op_notInAll {X : Cx} (hu : X.A.units + 65 < cLine) : OpR X (compareOp .NotIn) (fun x y H Q => rNotInD X.K x y H Q ∨ rIn X.K true x y H Q) := (op_notInD hu).or op_notIn_seq
theorem inM_ok {K : PySem.W.Frag} : OpM K (fun x y H Q => rInD K x y H Q ∨ rIn K false x y H Q) (inM false) := by
  intro U σ c H m v1 v2 w1 w2 Q hm r1 r2 hp
  unfold inM at hp
  split at hp
  · rename_i d ds e1 e2
    split at hp
    · rename_i hz
      rw [Bool.and_eq_true] at hz
      exact .inl ⟨d, ds, rd_dp hm r1 e1, rd_dp hm r2 e2, hz.1, hz.2, hp.ok hm _ (.p (.bl _))⟩
    · exact hp.elim
  · rename_i d ds e1 e2
    split at hp
    · rename_i hz
      rw [Bool.and_eq_true] at hz
      have h1 := rd_dp hm r1 e1
      obtain ⟨a, xs, rfl, h2, q⟩ := DpAll.inv (rd_dp hm r2 e2)
      refine .inr ⟨a, xs, rfl, .inr h2, flat_of h1 hz.1, flats_of q hz.2, ?_⟩
      rw [inV_of h1 hz.1 q hz.2]
      exact hp.ok hm _ (.p (.bl _))
    · exact hp.elim
  · exact hp.elim
theorem notInM_ok {K : PySem.W.Frag} : OpM K (fun x y H Q => rNotInD K x y H Q ∨ rIn K true x y H Q) (inM true) := by
  intro U σ c H m v1 v2 w1 w2 Q hm r1 r2 hp
  unfold inM at hp
  split at hp
  · rename_i d ds e1 e2
    split at hp
    · rename_i hz
      rw [Bool.and_eq_true] at hz
      exact .inl ⟨d, ds, rd_dp hm r1 e1, rd_dp hm r2 e2, hz.1, hz.2, hp.ok hm _ (.p (.bl _))⟩
    · exact hp.elim
  · rename_i d ds e1 e2
    split at hp
    · rename_i hz
      rw [Bool.and_eq_true] at hz
      have h1 := rd_dp hm r1 e1
      obtain ⟨a, xs, rfl, h2, q⟩ := DpAll.inv (rd_dp hm r2 e2)
      refine .inr ⟨a, xs, rfl, .inr h2, flat_of h1 hz.1, flats_of q hz.2, ?_⟩
      rw [inV_of h1 hz.1 q hz.2]
      exact hp.ok hm _ (.p (.bl _))
    · exact hp.elim
  · exact hp.elim

/-! ### a chain of two comparisons -/
def eChain (g g' : W → W → Hm → Res W) (f1 f2 f3 : EX W) : EX W := fun s m => (f1 s m).bind fun a m1 => (f2 s m1).bind fun b m2 => (g a b m2).bind fun r m3 => match r with
  | .p (.bool true) => (f3 s m3).bind fun d m4 => g' b d m4
  | .p (.bool false) => .ok (.p (.bool false)) m3
  | _ => .stuck
/-- the operation leaves the state as it is and answers a bool (as the comparisons of ints do) -/
def Quiet (g : W → W → Hm → Res W) : Prop := ∀ a b m, g a b m = .stuck ∨ ∃ k, g a b m = .ok (.p (.bool k)) m
theorem intM_quiet {C : Int → Int → Bool} {g : Int → Int → Bool} : Quiet (intM C fun i j => .bool (g i j)) := fun a b m => by
  unfold intM
  split
  · split
    · exact .inr ⟨_, rfl⟩
    · exact .inl rfl
  · exact .inl rfl
theorem ltM_quiet : Quiet ltM := fun a b m => by
  unfold ltM
  split
  · exact .inr ⟨_, rfl⟩
  · split
    · exact .inr ⟨_, rfl⟩
    · exact .inl rfl
  · exact .inl rfl
theorem x_chain {X : Cx} {U : WX} {pos : Pos} {a b c : Expr} {f1 f2 f3 : EX W} {op op' : CmpOp} {r r' : R2} {g g' : W → W → Hm → Res W} (ho : OpR X (compareOp op) r) (hg : OpM X.K r g) (hq : Quiet g) (ho' : OpR X (compareOp op') r') (hg' : OpM X.K r' g')
    (ha : PE X a (T X.K U f1)) (hb : PE X b (T X.K U f2)) (hc : PE X c (T X.K U f3)) (hm : lastMarks [op, op'] [b, c] = false := by with_unfolding_all rfl) : PE X (.Compare a [op, op'] [b, c] pos) (T X.K U (eChain g g' f1 f2 f3)) := by
  refine imp (pe_chain ho ho' ha hb hc hm) ?_
  rintro σ H Q ⟨c, s, m, hs, hm, hp⟩
  refine T.run hs hm hp fun c1 H1 w1 m1 v1 e1 hs1 hm1 r1 hp1 => T.run hs1 hm1 hp1 fun c2 H2 w2 m2 v2 e2 hs2 hm2 r2 hp2 => ?_
  rcases hq w1 w2 m2 with z | ⟨k, z⟩
  · rw [z] at hp2; exact hp2.elim
  · rw [z] at hp2
    refine hg U σ c2 H2 m2 v1 v2 w1 w2 _ hm2 (r1.mono e2) r2 ?_
    rw [z]
    intro c3 H3 e3 hm3 v rv
    cases rv with | p rv =>
    cases rv
    refine ⟨k, rfl, ?_⟩
    have hp3 := hp2.ext e3
    cases k with
    | true =>
      rw [if_pos rfl]
      exact T.run (hs2.mono e3) hm3 hp3 fun c4 H4 w4 m4 v4 e4 hs4 hm4 r4 hp4 => hg' U σ c4 H4 m4 v2 v4 w2 w4 Q hm4 ((r2.mono e3).mono e4) r4 hp4
    | false =>
      rw [if_neg Bool.false_ne_true]
      exact hp3.ok hm3 _ (.p (.bl _))
end Mir

namespace Mir
open PySem PySem.Spec PyProof.Rows L2

/-! ### truth -/
def truth (m : Hm) : W → Option Bool
  | .p .none => some false
  | .p (.bool b) => some b
  | .p (.int i) => some (i != 0)
  | .p (.str x) => if x.length ≤ sizeLine then some ((x.length : Int) != 0) else none
  | .p (.list ds) => some (!ds.isEmpty)
  | .p (.tuple ds) => some (!ds.isEmpty)
  | .tw ws => some (!ws.isEmpty)
  | .loc n => match m[n]? with
    | some (.lst ws) => some (!ws.isEmpty)
    | _ => none
  | _ => none
section
variable {K : PySem.W.Frag} {c : Cfg} {H : Hp} {m : Hm}
theorem isEmptyA : ∀ {xs : List V} {ds : List PyData}, RpAll K c H xs ds → xs.isEmpty = ds.isEmpty
  | _, _, .nil => rfl
  | _, _, .cons _ _ => rfl
theorem isEmptyW : ∀ {xs : List V} {ds : List W}, RpWs K c H xs ds → xs.isEmpty = ds.isEmpty
  | _, _, .nil => rfl
  | _, _, .cons _ _ => rfl
theorem truth_ok {v : V} {w : W} {b : Bool} (hm : HRel K c m H) (r : RpW K c H v w) (e : truth m w = some b) : TruV K v H b := by
  cases r with
  | p r =>
    cases r with
    | non => cases e; rfl
    | bl => cases e; rfl
    | int => cases e; rfl
    | str x =>
      simp only [truth] at e
      split at e
      · cases e; rename_i h; exact ⟨h, rfl⟩
      · cases e
    | lst h n n2 z r => cases e; exact .inl ⟨_, SqL.of h, by rw [isEmptyA r]⟩
    | tup h z r => cases e; exact .inr (.inl ⟨_, h.sq, by rw [isEmptyA r]⟩)
  | ro h z r => cases e
  | @loc a n h =>
    simp only [truth] at e
    cases q : m[n]? with
    | none => rw [q] at e; cases e
    | some x =>
      rw [q] at e
      cases x with
      | lst ws =>
        cases e
        obtain ⟨b, hb, xs, hx, z, rr⟩ := hm.at_ n _ q
        rw [h] at hb; cases hb
        exact .inl ⟨_, SqL.of hx, by rw [isEmptyW rr]⟩
      | _ => cases e
  | tw h z r => cases e; exact .inr (.inl ⟨_, h.sq, by rw [isEmptyW r]⟩)
  | kt => cases e
end
def tru (w : W) (m : Hm) : Res Bool := match truth m w with
  | some b => .ok b m
  | none => .stuck
def bTru (f : EX W) : EX Bool := fun s m => (f s m).bind tru
def boolOf (w : W) (m : Hm) : Res Bool := match w with
  | .p (.bool b) => .ok b m
  | _ => .stuck
@[simp] theorem boolOf_b {b : Bool} {m : Hm} : boolOf (.p (.bool b)) m = .ok b m := rfl
def bVal (f : EX W) : EX Bool := fun s m => (f s m).bind boolOf
section
variable {X : Cx} {U : WX} {pos : Pos} {a b : Expr} {f f1 f2 : EX W} {g g1 g2 : EX Bool} {rest : List Expr}
/-- any expression as a test -/
theorem b_tru (ha : PE X a (T X.K U f)) (he : ∀ whole, isTrue a X.env whole = (do let v ← whole; standAt a.pos; holding [v] (truthy v)) := by intro _; rfl) : PT X a (TB X.K U (bTru f)) := by
  refine impT (pt_truth ha he) ?_
  rintro σ H Q ⟨c, s, m, hs, hm, hp⟩
  refine T.run hs hm hp fun c1 H1 w1 m1 v1 e1 hs1 hm1 r1 hp1 => ?_
  unfold tru at hp1
  split at hp1
  · rename_i b e
    exact ⟨b, truth_ok hm1 r1 e, hp1.ok hm1⟩
  · exact hp1.elim
/-- a comparison as a test -/
theorem b_cmp {op : CmpOp} {r : R2} {h : W → W → Hm → Res W} (ho : OpR X (compareOp op) r) (hg : OpM X.K r h) (ha : PE X a (T X.K U f1)) (hb : PE X b (T X.K U f2)) (hm : behindInMarks op b = false := by first | exact nomark _ | rfl | with_unfolding_all rfl) :
    PT X (.Compare a [op] [b] pos) (TB X.K U (bVal (eOp2 h f1 f2))) := by
  refine impT (pt_cmpR ho ha hb hm) ?_
  rintro σ H Q ⟨c, s, m, hs, hm, hp⟩
  show T X.K U f1 σ H _
  have hp' : Post X.K U σ c H (fun c' H' b _ => Q b H') ((f1 s m).bind fun a m1 => (f2 s m1).bind fun b m2 => (h a b m2).bind boolOf) := by
    have e : (f1 s m).bind (fun a m1 => (f2 s m1).bind fun b m2 => (h a b m2).bind boolOf) = bVal (eOp2 h f1 f2) s m := by
      unfold bVal eOp2
      cases f1 s m with
      | ok a m1 =>
        show (f2 s m1).bind _ = ((f2 s m1).bind _).bind boolOf
        cases f2 s m1 <;> rfl
      | _ => rfl
    rw [e]
    exact hp
  refine T.run hs hm hp' fun c1 H1 w1 m1 v1 e1 hs1 hm1 r1 hp1 => T.run hs1 hm1 hp1 fun c2 H2 w2 m2 v2 e2 hs2 hm2 r2 hp2 => ?_
  refine hg U σ c2 H2 m2 v1 v2 w1 w2 _ hm2 (r1.mono e2) r2 ?_
  cases e : h w1 w2 m2 with
  | stuck => rw [e] at hp2; exact hp2
  | exc x m' => rw [e] at hp2; exact hp2
  | ok y m3 =>
    rw [e] at hp2
    intro c3 H3 e3 hm3 v rv
    simp only [bind_ok, boolOf] at hp2
    split at hp2
    · cases rv with | p rv =>
      cases rv
      exact ⟨_, rfl, (hp2.ext e3).ok hm3⟩
    · exact hp2.elim
theorem b_chain {c : Expr} {f3 : EX W} {op op' : CmpOp} {r r' : R2} {h h' : W → W → Hm → Res W} (ho : OpR X (compareOp op) r) (hg : OpM X.K r h) (hq : Quiet h) (ho' : OpR X (compareOp op') r') (hg' : OpM X.K r' h')
    (ha : PE X a (T X.K U f1)) (hb : PE X b (T X.K U f2)) (hc : PE X c (T X.K U f3)) (hm : lastMarks [op, op'] [b, c] = false := by with_unfolding_all rfl) : PT X (.Compare a [op, op'] [b, c] pos) (TB X.K U (bVal (eChain h h' f1 f2 f3))) := by
  refine impT (pt_chain ho ho' ha hb hc hm) ?_
  rintro σ H Q ⟨c, s, m, hs, hm, hp⟩
  show tChain _ _ _ _ _ σ H _
  have hp' : Post X.K U σ c H (fun c' H' b _ => Q b H') ((f1 s m).bind fun a m1 => (f2 s m1).bind fun b m2 => (h a b m2).bind fun r m3 => (match r with
      | .p (.bool true) => (f3 s m3).bind fun d m4 => h' b d m4
      | .p (.bool false) => .ok (.p (.bool false)) m3
      | _ => .stuck : Res W).bind boolOf) := by
    have e : ((f1 s m).bind fun a m1 => (f2 s m1).bind fun b m2 => (h a b m2).bind fun r m3 => (match r with
      | .p (.bool true) => (f3 s m3).bind fun d m4 => h' b d m4
      | .p (.bool false) => .ok (.p (.bool false)) m3
      | _ => .stuck : Res W).bind boolOf) = bVal (eChain h h' f1 f2 f3) s m := by
      unfold bVal eChain
      cases f1 s m with
      | ok a m1 =>
        simp only [bind_ok]
        cases f2 s m1 with
        | ok b m2 =>
          simp only [bind_ok]
          cases h a b m2 <;> rfl
        | _ => rfl
      | _ => rfl
    rw [e]
    exact hp
  refine T.run hs hm hp' fun c1 H1 w1 m1 v1 e1 hs1 hm1 r1 hp1 => T.run hs1 hm1 hp1 fun c2 H2 w2 m2 v2 e2 hs2 hm2 r2 hp2 => ?_
  rcases hq w1 w2 m2 with z | ⟨k, z⟩
  · rw [z] at hp2; exact hp2.elim
  · rw [z] at hp2
    refine hg U σ c2 H2 m2 v1 v2 w1 w2 _ hm2 (r1.mono e2) r2 ?_
    rw [z]
    intro c3 H3 e3 hm3 v rv
    cases rv with | p rv =>
    cases rv
    refine ⟨k, rfl, ?_⟩
    have hp3 := hp2.ext e3
    cases k with
    | true =>
      rw [if_pos rfl]
      have hp4 : Post X.K U σ c3 H3 (fun c' H' b _ => Q b H') ((f3 s m2).bind fun d m4 => (h' w2 d m4).bind boolOf) := by
        have e : ((f3 s m2).bind fun d m4 => (h' w2 d m4).bind boolOf) = ((f3 s m2).bind fun d m4 => h' w2 d m4).bind boolOf := by cases f3 s m2 <;> rfl
        rw [e]
        exact hp3
      refine T.run (hs2.mono e3) hm3 hp4 fun c4 H4 w4 m4 v4 e4 hs4 hm4 r4 hp5 => hg' U σ c4 H4 m4 v2 v4 w2 w4 _ hm4 ((r2.mono e3).mono e4) r4 ?_
      cases e : h' w2 w4 m4 with
      | stuck => rw [e] at hp5; exact hp5
      | exc x m' => rw [e] at hp5; exact hp5
      | ok y m5 =>
        rw [e] at hp5
        intro c5 H5 e5 hm5 v rv
        simp only [bind_ok, boolOf] at hp5
        split at hp5
        · cases rv with | p rv =>
          cases rv
          exact ⟨_, rfl, (hp5.ext e5).ok hm5⟩
        · exact hp5.elim
    | false =>
      rw [if_neg Bool.false_ne_true]
      exact ⟨false, rfl, hp3.ok hm3⟩
/-! ### not, and, or -/
def bNot (g : EX Bool) : EX Bool := fun s m => (g s m).bind fun b m1 => .ok (!b) m1
def bAnd (g1 g2 : EX Bool) : EX Bool := fun s m => (g1 s m).bind fun b m1 => if b = true then g2 s m1 else .ok false m1
def bOr (g1 g2 : EX Bool) : EX Bool := fun s m => (g1 s m).bind fun b m1 => if b = true then .ok true m1 else g2 s m1
theorem b_not (ha : PT X a (TB X.K U g)) : PT X (.UnaryOp .Not a pos) (TB X.K U (bNot g)) := by
  refine impT (pt_not ha) ?_
  rintro σ H Q ⟨c, s, m, hs, hm, hp⟩
  exact TB.run hs hm hp fun c1 H1 b m1 e1 hs1 hm1 hp1 => hp1.ok hm1
theorem impW {e : Expr} {t t' : TT} (h : PW X e t) (i : ∀ σ H Q, t' σ H Q → t σ H Q) : PW X e t' := ⟨fun wh pins s σ H Q I hw => h.run wh pins s σ H Q I (i σ H Q hw)⟩
theorem b_and1 (ha : PT X a (TB X.K U g)) : PW X (.BoolOp .And [a] pos) (TB X.K U g) := pw_and1 ha
theorem b_or1 (ha : PT X a (TB X.K U g)) : PW X (.BoolOp .Or [a] pos) (TB X.K U g) := pw_or1 ha
theorem b_and (ha : PT X a (TB X.K U g1)) (hb : PW X (.BoolOp .And (b :: rest) pos) (TB X.K U g2)) : PW X (.BoolOp .And (a :: b :: rest) pos) (TB X.K U (bAnd g1 g2)) := by
  refine impW (pw_and ha hb) ?_
  rintro σ H Q ⟨c, s, m, hs, hm, hp⟩
  refine TB.run hs hm hp fun c1 H1 b m1 e1 hs1 hm1 hp1 => ?_
  cases b with
  | true => exact ⟨c1, s, m1, hs1, hm1, hp1⟩
  | false => exact hp1.ok hm1
theorem b_or (ha : PT X a (TB X.K U g1)) (hb : PW X (.BoolOp .Or (b :: rest) pos) (TB X.K U g2)) : PW X (.BoolOp .Or (a :: b :: rest) pos) (TB X.K U (bOr g1 g2)) := by
  refine impW (pw_or ha hb) ?_
  rintro σ H Q ⟨c, s, m, hs, hm, hp⟩
  refine TB.run hs hm hp fun c1 H1 b m1 e1 hs1 hm1 hp1 => ?_
  cases b with
  | true => exact hp1.ok hm1
  | false => exact ⟨c1, s, m1, hs1, hm1, hp1⟩
/-! the same as values; all but the last give bools -/
def eNot (f : EX W) : EX W := fun s m => (f s m).bind fun w m1 => match w with
  | .p (.bool b) => .ok (.p (.bool (!b))) m1
  | _ => .stuck
def eAnd (f1 f2 : EX W) : EX W := fun s m => (f1 s m).bind fun w m1 => match w with
  | .p (.bool true) => f2 s m1
  | .p (.bool false) => .ok (.p (.bool false)) m1
  | _ => .stuck
def eOr (f1 f2 : EX W) : EX W := fun s m => (f1 s m).bind fun w m1 => match w with
  | .p (.bool true) => .ok (.p (.bool true)) m1
  | .p (.bool false) => f2 s m1
  | _ => .stuck
theorem x_one {op : BoolOp} (ha : PE X a (T X.K U f)) : PE X (.BoolOp op [a] pos) (T X.K U f) := pe_one ha
theorem x_not (ha : PE X a (T X.K U f)) : PE X (.UnaryOp .Not a pos) (T X.K U (eNot f)) := by
  refine imp (pe_not ha) ?_
  rintro σ H Q ⟨c, s, m, hs, hm, hp⟩
  refine T.run hs hm hp fun c1 H1 w1 m1 v1 e1 hs1 hm1 r1 hp1 => ?_
  split at hp1
  · cases r1 with | p r1 =>
    cases r1
    exact ⟨_, rfl, hp1.ok hm1 _ (.p (.bl _))⟩
  · exact hp1.elim
theorem x_and (ha : PE X a (T X.K U f1)) (hb : PE X (.BoolOp .And (b :: rest) pos) (T X.K U f2)) : PE X (.BoolOp .And (a :: b :: rest) pos) (T X.K U (eAnd f1 f2)) := by
  refine imp (pe_and ha hb) ?_
  rintro σ H Q ⟨c, s, m, hs, hm, hp⟩
  refine T.run hs hm hp fun c1 H1 w1 m1 v1 e1 hs1 hm1 r1 hp1 => ?_
  split at hp1
  · cases r1 with | p r1 =>
    cases r1
    exact ⟨true, rfl, by rw [if_pos rfl]; exact ⟨c1, s, m1, hs1, hm1, hp1⟩⟩
  · cases r1 with | p r1 =>
    cases r1
    exact ⟨false, rfl, by rw [if_neg Bool.false_ne_true]; exact hp1.ok hm1 _ (.p (.bl _))⟩
  · exact hp1.elim
theorem x_or (ha : PE X a (T X.K U f1)) (hb : PE X (.BoolOp .Or (b :: rest) pos) (T X.K U f2)) : PE X (.BoolOp .Or (a :: b :: rest) pos) (T X.K U (eOr f1 f2)) := by
  refine imp (pe_or ha hb) ?_
  rintro σ H Q ⟨c, s, m, hs, hm, hp⟩
  refine T.run hs hm hp fun c1 H1 w1 m1 v1 e1 hs1 hm1 r1 hp1 => ?_
  split at hp1
  · cases r1 with | p r1 =>
    cases r1
    exact ⟨true, rfl, by rw [if_pos rfl]; exact hp1.ok hm1 _ (.p (.bl _))⟩
  · cases r1 with | p r1 =>
    cases r1
    exact ⟨false, rfl, by rw [if_neg Bool.false_ne_true]; exact ⟨c1, s, m1, hs1, hm1, hp1⟩⟩
  · exact hp1.elim
def eIf (g : EX Bool) (f1 f2 : EX W) : EX W := fun s m => (g s m).bind fun b m1 => if b = true then f1 s m1 else f2 s m1
theorem x_if {t : Expr} (ht : PT X t (TB X.K U g)) (ha : PE X a (T X.K U f1)) (hb : PE X b (T X.K U f2)) : PE X (.IfExp t a b pos) (T X.K U (eIf g f1 f2)) := by
  refine imp (pe_ifExp ht ha hb) ?_
  rintro σ H Q ⟨c, s, m, hs, hm, hp⟩
  refine TB.run hs hm hp fun c1 H1 b m1 e1 hs1 hm1 hp1 => ?_
  cases b with
  | true => exact ⟨c1, s, m1, hs1, hm1, hp1⟩
  | false => exact ⟨c1, s, m1, hs1, hm1, hp1⟩
end

/-! ### argument lists, displays -/
def aNil : EX (List W) := fun _ m => .ok [] m
def aCons (f : EX W) (r : EX (List W)) : EX (List W) := fun s m => (f s m).bind fun w m1 => (r s m1).bind fun ws m2 => .ok (w :: ws) m2
section
variable {X : Cx} {U : WX} {pos : Pos} {e : Expr} {es : List Expr} {f : EX W} {fs : EX (List W)}
theorem a_nil : PA X [] (TL X.K U aNil) := by
  refine impA pa_nil ?_
  rintro σ H Q ⟨c, s, m, hs, hm, hp⟩
  exact hp.ok hm [] .nil
theorem a_cons (ha : PE X e (T X.K U f)) (hr : PA X es (TL X.K U fs)) (hs : starEach (e :: es) X.env = (false, eval e X.env) :: starEach es X.env := by rfl) : PA X (e :: es) (TL X.K U (aCons f fs)) := by
  refine impA (pa_cons ha hr hs) ?_
  rintro σ H Q ⟨c, s, m, hs, hm, hp⟩
  exact T.run hs hm hp fun c1 H1 w1 m1 v1 e1 hs1 hm1 r1 hp1 => TL.run hs1 hm1 hp1 fun c2 H2 ws m2 vs e2 hs2 hm2 r2 hp2 => hp2.ok hm2 _ (.cons (r1.mono e2) r2)
def eTup (fs : EX (List W)) : EX W := fun s m => (fs s m).bind fun ws m1 => if ws.length ≤ sizeLine then .ok (mkTup ws) m1 else .stuck
/-- a written list that nobody changes -/
def eLst (fs : EX (List W)) : EX W := fun s m => (fs s m).bind fun ws m1 => if ws.length ≤ sizeLine then (match allP ws with
  | some ds => .ok (.p (.list ds)) m1
  | none => .stuck) else .stuck
/-- a written list, a cell -/
def eLstL (fs : EX (List W)) : EX W := fun s m => (fs s m).bind fun ws m1 => if ws.length ≤ sizeLine then .ok (.loc m1.length) (m1 ++ [.lst ws]) else .stuck
end
section
variable {K : PySem.W.Frag} {c : Cfg} {H : Hp} {m : Hm}
theorem RpW.newT {p : Addr} {xs : List V} {ws : List W} (hm : HRel K c m H) (hp : H p = none) (z : xs.length ≤ sizeLine) (r : RpWs K c H xs ws) : RpW K c (upd H p (.tup xs)) (.ref p) (mkTup ws) := by
  unfold mkTup
  split
  · rename_i ds e
    exact .p (Rp.newT hm hp z (allP_rp r e))
  · exact .tw (.inl ⟨.inl upd_same, (hm.free hp).1, (hm.free hp).2⟩) z (r.mono (Ext.new hp))
theorem RpW.newC {p : Addr} {xs : List V} {ws : List W} (hm : HRel K c m H) (hp : H p = none) (z : xs.length ≤ sizeLine) (r : RpWs K c H xs ws) :
    HRel K ⟨c.fb, c.rho ++ [p]⟩ (m ++ [.lst ws]) (upd H p (.lst xs)) ∧ RpW K ⟨c.fb, c.rho ++ [p]⟩ (upd H p (.lst xs)) (.ref p) (.loc m.length) :=
  ⟨hm.cell hp ⟨xs, upd_same, z, r.mono (Ext.cell hp)⟩, .loc (by rw [← hm.len]; simp)⟩
end
section
variable {X : Cx} {U : WX} {pos : Pos} {e : Expr} {es : List Expr} {f : EX W} {fs : EX (List W)}
theorem x_tup {k : Nat} (h : PA X es (TL X.K U fs)) : PE X (.Tuple es k pos) (T X.K U (eTup fs)) := by
  refine imp (pe_tup h) ?_
  rintro σ H Q ⟨c, s, m, hs, hm, hp⟩
  refine TL.run hs hm hp fun c1 H1 ws m1 vs e1 hs1 hm1 r1 hp1 => ?_
  have l := r1.length
  split at hp1
  · rename_i hz
    refine ⟨by omega, fun p hpn => ?_⟩
    exact hp1 c1 _ (Ext.new hpn) (hm1.new hpn) _ (RpW.newT hm1 hpn (by omega) r1)
  · exact hp1.elim
theorem x_lst (h : PA X es (TL X.K U fs)) : PE X (.List es pos) (T X.K U (eLst fs)) := by
  refine imp (pe_lst h) ?_
  rintro σ H Q ⟨c, s, m, hs, hm, hp⟩
  refine TL.run hs hm hp fun c1 H1 ws m1 vs e1 hs1 hm1 r1 hp1 => ?_
  have l := r1.length
  split at hp1
  · rename_i hz
    refine ⟨by omega, fun p hpn => ?_⟩
    split at hp1
    · rename_i ds e
      exact hp1 c1 _ (Ext.new hpn) (hm1.new hpn) _ (.p (Rp.newL hm1 hpn (by omega) (allP_rp r1 e)))
    · exact hp1.elim
  · exact hp1.elim
theorem x_lstL (h : PA X es (TL X.K U fs)) : PE X (.List es pos) (T X.K U (eLstL fs)) := by
  refine imp (pe_lst h) ?_
  rintro σ H Q ⟨c, s, m, hs, hm, hp⟩
  refine TL.run hs hm hp fun c1 H1 ws m1 vs e1 hs1 hm1 r1 hp1 => ?_
  have l := r1.length
  split at hp1
  · rename_i hz
    refine ⟨by omega, fun p hpn => ?_⟩
    obtain ⟨q1, q2⟩ := RpW.newC hm1 hpn (by omega) r1
    exact hp1 _ _ (Ext.cell hpn) q1 _ q2
  · exact hp1.elim
end

/-! ### built-in functions by their values -/
def CallM (K : PySem.W.Frag) (r : List V → Hp → VK → Prop) (g : List W → Hm → Res W) : Prop := ∀ (U : WX) (σ : L2.St) (c : Cfg) (H : Hp) (m : Hm) (vs : List V) (ws : List W) (Q : VK),
  HRel K c m H → RpWs K c H vs ws → Post K U σ c H (RQ K Q) (g ws m) → r vs H Q
def eCB (g : List W → Hm → Res W) (fs : EX (List W)) : EX W := fun s m => (fs s m).bind g
section
variable {X : Cx} {U : WX} {x : Str} {p pos : Pos} {e : Expr} {es : List Expr} {fs : EX (List W)} {id T' : String} {r : List V → Hp → VK → Prop} {g : List W → Hm → Res W}
theorem t_cb (hg : CallM X.K r g) {σ : L2.St} {H : Hp} {Q : VK} (h : T X.K U (eCB g fs) σ H Q) : tCB r (TL X.K U fs) σ H Q := by
  obtain ⟨c, s, m, hs, hm, hp⟩ := h
  exact TL.run hs hm hp fun c1 H1 ws m1 vs e1 hs1 hm1 r1 hp1 => hg U σ c1 H1 m1 vs ws Q hm1 r1 hp1
theorem x_callB (hc : CallR X (.builtin id) r) (hg : CallM X.K r g) (hmg : X.mg x = none) (hv : bootBuiltins x = some (.builtin id)) (ha : PA X (e :: es) (TL X.K U fs)) (hgl : Gl X x := by rfl) (hn : x ≠ "__name__" := by decide) (hdb : (x == ("__debug__" : Str)) = false := by decide)
    (he : starEach (e :: es) X.env = (false, eval e X.env) :: starEach es X.env := by rfl) (hpl : (backTo pos (starEach es X.env)).any (·.1) = false := by rfl) : PE X (.Call (.Name x p) (e :: es) [] pos) (T X.K U (eCB g fs)) :=
  imp (pe_callB hc hgl hmg hv ha hn hdb he hpl) fun _ _ _ h => t_cb hg h
theorem x_callTy (hc : CallR X (.type T') r) (hg : CallM X.K r g) (hmg : X.mg x = none) (hv : bootBuiltins x = some (.type T')) (ha : PA X (e :: es) (TL X.K U fs)) (hgl : Gl X x := by rfl) (hn : x ≠ "__name__" := by decide) (hdb : (x == ("__debug__" : Str)) = false := by decide)
    (he : starEach (e :: es) X.env = (false, eval e X.env) :: starEach es X.env := by rfl) (hpl : (backTo pos (starEach es X.env)).any (·.1) = false := by rfl) : PE X (.Call (.Name x p) (e :: es) [] pos) (T X.K U (eCB g fs)) :=
  imp (pe_callTy hc hgl hmg hv ha hn hdb he hpl) fun _ _ _ h => t_cb hg h
end
section
variable {K : PySem.W.Frag} {c : Cfg} {H : Hp} {m : Hm}
theorem RpWs.oneI {vs : List V} {w : W} (r : RpWs K c H vs [w]) : ∃ v, vs = [v] ∧ RpW K c H v w := by
  cases r with | cons r t => cases t; exact ⟨_, rfl, r⟩
theorem RpWs.twoI {vs : List V} {w w' : W} (r : RpWs K c H vs [w, w']) : ∃ v v', vs = [v, v'] ∧ RpW K c H v w ∧ RpW K c H v' w' := by
  cases r with | cons r t => cases t with | cons r' t => cases t; exact ⟨_, _, rfl, r, r'⟩
/-- the items of a list or tuple, read -/
def seqW (m : Hm) : W → Option (List W)
  | .p (.list ds) => some (ds.map .p)
  | .p (.tuple ds) => some (ds.map .p)
  | .ro ds => some (ds.map .p)
  | .tw ws => some ws
  | .loc n => match m[n]? with
    | some (.lst ws) => some ws
    | _ => none
  | _ => none
theorem seqW_ok {v : V} {w : W} {ws : List W} (hm : HRel K c m H) (r : RpW K c H v w) (e : seqW m w = some ws) : ∃ a xs, v = .ref a ∧ (SqL K H a xs ∨ SqT K H a xs) ∧ xs.length ≤ sizeLine ∧ RpWs K c H xs ws := by
  cases r with
  | p r =>
    cases r with
    | lst h n n2 z r => cases e; exact ⟨_, _, rfl, .inl (SqL.of h), z, r.toWs⟩
    | tup h z r => cases e; exact ⟨_, _, rfl, .inr h.sq, z, r.toWs⟩
    | _ => cases e
  | ro h z r => cases e; exact ⟨_, _, rfl, .inl h.sq, z, r.toWs⟩
  | @loc a n h =>
    simp only [seqW] at e
    cases q : m[n]? with
    | none => rw [q] at e; cases e
    | some x =>
      rw [q] at e
      cases x with
      | lst ws =>
        cases e
        obtain ⟨b, hb, xs, hx, z, rr⟩ := hm.at_ n _ q
        rw [h] at hb; cases hb
        exact ⟨_, _, rfl, .inl (SqL.of hx), z, rr⟩
      | _ => cases e
  | tw h z r => cases e; exact ⟨_, _, rfl, .inr h.sq, z, r⟩
  | kt => cases e
end
def lenM : List W → Hm → Res W
  | [.p (.str x)], m => if x.length ≤ sizeLine then .ok (.p (.int x.length)) m else .stuck
  | [w], m => match seqW m w with
    | some ws => .ok (.p (.int ws.length)) m
    | none => .stuck
  | _, _ => .stuck
theorem lenM_ok {K : PySem.W.Frag} : CallM K (fun xs H Q => ∃ x n, xs = [x] ∧ LenV K x H n ∧ Q (.int n) H) lenM := by
  intro U σ c H m vs ws Q hm r hp
  unfold lenM at hp
  split at hp
  · obtain ⟨v, rfl, r1⟩ := r.oneI
    have r := r1
    cases r with | p r =>
    cases r
    split at hp
    · rename_i hz
      exact ⟨_, _, rfl, ⟨hz, rfl⟩, hp.ok hm _ (.p (.int _))⟩
    · exact hp.elim
  · obtain ⟨v, rfl, r1⟩ := r.oneI
    have r := r1
    split at hp
    · rename_i ws' e
      obtain ⟨a, xs, rfl, h, z, q⟩ := seqW_ok hm r e
      have l := q.length
      refine ⟨_, xs.length, rfl, ?_, by rw [l]; exact hp.ok hm _ (.p (.int _))⟩
      rcases h with h | h
      · exact .inl ⟨xs, h, rfl⟩
      · exact .inr ⟨xs, h, rfl⟩
    · exact hp.elim
  · exact hp.elim
/-- bools of data -/
def boolsOf : List W → Option (List Bool)
  | [] => some []
  | .p (.bool b) :: r => (boolsOf r).map (b :: ·)
  | _ :: _ => none
@[simp] theorem boolsOf_nil : boolsOf [] = some [] := rfl
@[simp] theorem boolsOf_cons (b : Bool) (r : List W) : boolsOf (.p (.bool b) :: r) = (boolsOf r).map (b :: ·) := rfl
@[simp] theorem boolsOf_map (bs : List Bool) : boolsOf ((bs.map PyData.bool).map W.p) = some bs := by
  induction bs with
  | nil => rfl
  | cons n r ih => rw [List.map_cons, List.map_cons, boolsOf_cons, ih]; rfl
theorem RpWs.bools {K : PySem.W.Frag} {c : Cfg} {H : Hp} : ∀ {xs : List V} {ws : List W} {bs : List Bool}, RpWs K c H xs ws → boolsOf ws = some bs → xs = bs.map V.bl
  | _, [], _, h, e => by cases h; cases e; rfl
  | _, w :: ws, bs, h, e => by
    cases h with
    | cons r t =>
      cases w with
      | p d =>
        cases d with
        | bool b =>
          obtain ⟨bs', e', rfl⟩ := Option.map_eq_some_iff.mp (show (boolsOf ws).map (b :: ·) = some bs from e)
          cases r with | p r =>
          cases r
          rw [RpWs.bools t e']
          rfl
        | _ => cases e
      | _ => cases e
def isL (w : W) : Bool := match w with
  | .p (.list _) => true
  | .loc _ => true
  | .ro _ => true
  | _ => false
theorem seqW_list {K : PySem.W.Frag} {c : Cfg} {H : Hp} {m : Hm} {v : V} {w : W} {ws : List W} (hm : HRel K c m H) (r : RpW K c H v w) (e : seqW m w = some ws) (hl : isL w = true) : ∃ a xs, v = .ref a ∧ SqL K H a xs ∧ xs.length ≤ sizeLine ∧ RpWs K c H xs ws := by
  cases r with
  | p r =>
    cases r with
    | lst h n n2 z r => cases e; exact ⟨_, _, rfl, SqL.of h, z, r.toWs⟩
    | tup h z r => cases hl
    | _ => cases e
  | ro h z r => cases e; exact ⟨_, _, rfl, h.sq, z, r.toWs⟩
  | @loc a n h =>
    simp only [seqW] at e
    cases q : m[n]? with
    | none => rw [q] at e; cases e
    | some x =>
      rw [q] at e
      cases x with
      | lst ws =>
        cases e
        obtain ⟨b, hb, xs, hx, z, rr⟩ := hm.at_ n _ q
        rw [h] at hb; cases hb
        exact ⟨_, _, rfl, SqL.of hx, z, rr⟩
      | _ => cases e
  | tw h z r => cases hl
  | kt => cases e
/-- all, any of a list of bools -/
def allM (k : Bool) : List W → Hm → Res W
  | [w], m => if isL w = true then (match (seqW m w).bind boolsOf with
    | some bs => .ok (.p (.bool (if k = true then bs.all id else bs.any id))) m
    | none => .stuck) else .stuck
  | _, _ => .stuck
theorem allM_ok {K : PySem.W.Frag} : CallM K (rAll K) (allM true) := by
  intro U σ c H m vs ws Q hm r hp
  unfold allM at hp
  split at hp
  · obtain ⟨v, rfl, r1⟩ := r.oneI
    have r := r1
    split at hp
    · rename_i hl
      split at hp
      · rename_i bs e
        obtain ⟨ws', e1, e2⟩ := Option.bind_eq_some_iff.mp e
        obtain ⟨a, xs, rfl, h, z, q⟩ := seqW_list hm r e1 hl
        have := q.bools e2
        subst this
        exact ⟨a, bs, rfl, h, hp.ok hm _ (.p (.bl _))⟩
      · exact hp.elim
    · exact hp.elim
  · exact hp.elim
theorem anyM_ok {K : PySem.W.Frag} : CallM K (rAny K) (allM false) := by
  intro U σ c H m vs ws Q hm r hp
  unfold allM at hp
  split at hp
  · obtain ⟨v, rfl, r1⟩ := r.oneI
    have r := r1
    split at hp
    · rename_i hl
      split at hp
      · rename_i bs e
        obtain ⟨ws', e1, e2⟩ := Option.bind_eq_some_iff.mp e
        obtain ⟨a, xs, rfl, h, z, q⟩ := seqW_list hm r e1 hl
        have := q.bools e2
        subst this
        exact ⟨a, bs, rfl, h, hp.ok hm _ (.p (.bl _))⟩
      · exact hp.elim
    · exact hp.elim
  · exact hp.elim
/-- abs, int -/
def absM : List W → Hm → Res W
  | [.p (.int i)], m => .ok (.p (.int (if i < 0 then -i else i))) m
  | _, _ => .stuck
theorem absM_ok {K : PySem.W.Frag} : CallM K (fun xs H Q => ∃ i, xs = [.int i] ∧ Q (.int (if i < 0 then -i else i)) H) absM := by
  intro U σ c H m vs ws Q hm r hp
  unfold absM at hp
  split at hp
  · obtain ⟨v, rfl, r1⟩ := r.oneI
    have r := r1
    cases r with | p r =>
    cases r
    exact ⟨_, rfl, hp.ok hm _ (.p (.int _))⟩
  · exact hp.elim
def intM1 : List W → Hm → Res W
  | [.p (.int i)], m => .ok (.p (.int i)) m
  | [.p (.bool k)], m => .ok (.p (.int (if k = true then 1 else 0))) m
  | _, _ => .stuck
theorem intM1_ok {K : PySem.W.Frag} : CallM K (fun xs H Q => (∃ i, xs = [.int i] ∧ Q (.int i) H) ∨ ∃ k, xs = [.bl k] ∧ Q (.int (if k = true then 1 else 0)) H) intM1 := by
  intro U σ c H m vs ws Q hm r hp
  unfold intM1 at hp
  split at hp
  · obtain ⟨v, rfl, r1⟩ := r.oneI
    have r := r1
    cases r with | p r =>
    cases r
    exact .inl ⟨_, rfl, hp.ok hm _ (.p (.int _))⟩
  · obtain ⟨v, rfl, r1⟩ := r.oneI
    have r := r1
    cases r with | p r =>
    cases r
    exact .inr ⟨_, rfl, hp.ok hm _ (.p (.int _))⟩
  · exact hp.elim
/-- list(x): a list that nobody changes; a cell -/
def listM : List W → Hm → Res W
  | [w], m => match (seqW m w).bind allP with
    | some ds => .ok (.p (.list ds)) m
    | none => .stuck
  | _, _ => .stuck
def listML : List W → Hm → Res W
  | [w], m => match seqW m w with
    | some ws => .ok (.loc m.length) (m ++ [.lst ws])
    | none => .stuck
  | _, _ => .stuck
abbrev rListOf (K : PySem.W.Frag) : List V → Hp → VK → Prop := fun xs H Q => ∃ p ys, xs = [.ref p] ∧ (SqL K H p ys ∨ SqT K H p ys) ∧ ∀ l, H l = none → Q (.ref l) (upd H l (.lst ys))
theorem listM_ok {K : PySem.W.Frag} : CallM K (rListOf K) listM := by
  intro U σ c H m vs ws Q hm r hp
  unfold listM at hp
  split at hp
  · obtain ⟨v, rfl, r1⟩ := r.oneI
    have r := r1
    split at hp
    · rename_i ds e
      obtain ⟨ws', e1, e2⟩ := Option.bind_eq_some_iff.mp e
      obtain ⟨a, xs, rfl, h, z, q⟩ := seqW_ok hm r e1
      exact ⟨a, xs, rfl, h, fun l hl => hp c _ (Ext.new hl) (hm.new hl) _ (.p (Rp.newL hm hl z (allP_rp q e2)))⟩
    · exact hp.elim
  · exact hp.elim
theorem listML_ok {K : PySem.W.Frag} : CallM K (rListOf K) listML := by
  intro U σ c H m vs ws Q hm r hp
  unfold listML at hp
  split at hp
  · obtain ⟨v, rfl, r1⟩ := r.oneI
    have r := r1
    split at hp
    · rename_i ws' e1
      obtain ⟨a, xs, rfl, h, z, q⟩ := seqW_ok hm r e1
      refine ⟨a, xs, rfl, h, fun l hl => ?_⟩
      obtain ⟨q1, q2⟩ := RpW.newC hm hl z q
      exact hp _ _ (Ext.cell hl) q1 _ q2
    · exact hp.elim
  · exact hp.elim
/-- tuple(x) -/
def tupleM : List W → Hm → Res W
  | [w], m => match seqW m w with
    | some ws => .ok (mkTup ws) m
    | none => .stuck
  | _, _ => .stuck
abbrev rTupleOf (K : PySem.W.Frag) : List V → Hp → VK → Prop := fun xs H Q => ∃ p ys, xs = [.ref p] ∧ ((SqL K H p ys ∧ ∀ l, H l = none → Q (.ref l) (upd H l (.tup ys))) ∨ (SqT K H p ys ∧ Q (.ref p) H))
theorem RpW.tupE {K : PySem.W.Frag} {c : Cfg} {H : Hp} {m : Hm} {v : V} {w : W} {ws : List W} (r : RpW K c H v w) (e : seqW m w = some ws) (hl : isL w = false) : ∃ a xs, v = .ref a ∧ SqT K H a xs ∧ RpW K c H v (mkTup ws) := by
  cases r with
  | p r =>
    cases r with
    | lst h n n2 z r => cases hl
    | tup h z r => cases e; exact ⟨_, _, rfl, h.sq, by rw [mkTup_map]; exact .p (.tup h z r)⟩
    | _ => cases e
  | ro h z r => cases hl
  | loc h => cases hl
  | tw h z r =>
    cases e
    refine ⟨_, _, rfl, h.sq, ?_⟩
    unfold mkTup
    split
    · rename_i ds e
      exact .p (.tup h z (allP_rp r e))
    · exact .tw h z r
  | kt => cases e
theorem tupleM_ok {K : PySem.W.Frag} : CallM K (rTupleOf K) tupleM := by
  intro U σ c H m vs ws Q hm r hp
  unfold tupleM at hp
  split at hp
  · obtain ⟨v, rfl, r1⟩ := r.oneI
    have r := r1
    split at hp
    · rename_i ws' e1
      cases hl : isL _ with
      | true =>
        obtain ⟨a, xs, rfl, h, z, q⟩ := seqW_list hm r e1 hl
        exact ⟨a, xs, rfl, .inl ⟨h, fun l hl => hp c _ (Ext.new hl) (hm.new hl) _ (RpW.newT hm hl z q)⟩⟩
      | false =>
        obtain ⟨a, xs, rfl, h, q⟩ := r.tupE e1 hl
        exact ⟨a, xs, rfl, .inr ⟨h, hp.ok hm _ q⟩⟩
    · exact hp.elim
  · exact hp.elim

/-! ### isinstance -/
def tyN (m : Hm) : W → Option String
  | .p .none => some "NoneType"
  | .p (.bool _) => some "bool"
  | .p (.int _) => some "int"
  | .p (.str _) => some "str"
  | .p (.list _) => some "list"
  | .p (.tuple _) => some "tuple"
  | .tw _ => some "tuple"
  | .loc n => match m[n]? with
    | some (.lst _) => some "list"
    | _ => none
  | _ => none
theorem tyN_ok {K : PySem.W.Frag} {c : Cfg} {H : Hp} {m : Hm} {v : V} {w : W} {t : String} (hm : HRel K c m H) (r : RpW K c H v w) (e : tyN m w = some t) : TyX K H v (.type t) := by
  have tup : ∀ {a : Addr} {xs : List V}, TupAt K c H a xs → TyX K H (.ref a) (.type "tuple") := fun {a xs} h => by
    rcases h with ⟨h | ⟨o, h⟩, _⟩ | ⟨o, its, n, h, hc, _⟩
    · exact .base (.tup h)
    · exact .fTuple h
    · exact .kTuple h hc
  cases r with
  | p r =>
    cases r with
    | non => cases e; exact .base .non
    | bl b => cases e; exact .base (.bl b)
    | int i => cases e; exact .base (.int i)
    | str x => cases e; exact .base (.str x)
    | lst h => cases e; exact .base (.lst h)
    | tup h => cases e; exact tup h
  | ro => cases e
  | @loc a n h =>
    simp only [tyN] at e
    cases q : m[n]? with
    | none => rw [q] at e; cases e
    | some x =>
      rw [q] at e
      cases x with
      | lst ws =>
        cases e
        obtain ⟨b, hb, xs, hx, z, rr⟩ := hm.at_ n _ q
        rw [h] at hb; cases hb
        exact .base (.lst hx)
      | _ => cases e
  | tw h => cases e; exact tup h
  | kt => cases e
/-- isinstance(x, C), C one of int, bool, str, tuple, list -/
def isiA (t C : String) : Bool := (t == C) || ((t == "bool") && (C == "int"))
def isiM (C : String) : W → Hm → Res W := fun w m => match tyN m w with
  | some t => .ok (.p (.bool (isiA t C))) m
  | none => .stuck
theorem kit_isi {K : PySem.W.Frag} {t C : String} (ht : t ∈ ["NoneType", "bool", "int", "str", "list", "tuple"]) (hC : C ∈ ["bool", "int", "str", "list", "tuple"]) : PySem.W.kitOne K (.type t) (.type C) = some (isiA t C) := by
  simp only [List.mem_cons, List.not_mem_nil, or_false] at ht hC
  rcases ht with rfl | rfl | rfl | rfl | rfl | rfl <;> rcases hC with rfl | rfl | rfl | rfl | rfl <;> exact kit_ty (by decide +kernel)
theorem tyN_mem {m : Hm} {w : W} {t : String} (e : tyN m w = some t) : t ∈ ["NoneType", "bool", "int", "str", "list", "tuple"] := by
  unfold tyN at e
  split at e <;> first | (cases e; simp; done) | skip
  · split at e
    · cases e; simp
    · cases e
  · cases e
theorem x_isi {X : Cx} {U : WX} {p p2 pos : Pos} {e : Expr} {f : EX W} {C : Str} {C' : String} (hC : C' ∈ ["bool", "int", "str", "list", "tuple"]) (hmi : X.mg "isinstance" = none) (hmC : X.mg C = none) (hv : bootBuiltins C = some (.type C')) (he : PE X e (T X.K U f))
    (hgi : Gl X "isinstance" := by rfl) (hgC : Gl X C := by rfl) (hn : C ≠ "__name__" := by decide) (hdb : (C == ("__debug__" : Str)) = false := by decide)
    (h1 : starEach (e :: [.Name C p2]) X.env = (false, eval e X.env) :: starEach [.Name C p2] X.env := by rfl) (h2 : starEach [.Name C p2] X.env = (false, eval (.Name C p2) X.env) :: starEach [] X.env := by rfl) (hpl : (backTo pos (starEach [.Name C p2] X.env)).any (·.1) = false := by rfl) :
    PE X (.Call (.Name "isinstance" p) [e, .Name C p2] [] pos) (T X.K U (eOp1 (isiM C') f)) := by
  refine imp (pe_callB call_isi hgi hmi (by decide +kernel) (pa_cons he (pa_cons (pe_bltn (v := .ty C') hgC hmC hv rfl hn hdb) pa_nil h2) h1) (by decide) (by decide) h1 hpl) ?_
  rintro σ H Q ⟨c, s, m, hs, hm, hp⟩
  refine T.run hs hm hp fun c1 H1 w1 m1 v1 e1 hs1 hm1 r1 hp1 => ?_
  unfold isiM at hp1
  split at hp1
  · rename_i t e
    exact ⟨v1, .ty C', .type t, .type C', _, rfl, .ty C', tyN_ok hm1 r1 e, kit_isi (tyN_mem e) hC, hp1.ok hm1 _ (.p (.bl _))⟩
  · exact hp1.elim
end Mir

namespace Mir
open PySem PySem.Spec PyProof.Rows L2

/-! ### list(range(..)), tuple(range(..)) -/
def rgP (a b : Int) : List PyData := (List.range (b - a).toNat).map fun i => PyData.int (a + (i : Nat))
theorem rgP_rp {K : PySem.W.Frag} {c : Cfg} {H : Hp} (a b : Int) : RpAll K c H (rgV a b) (rgP a b) := by
  unfold rgV rgP
  generalize List.range (b - a).toNat = l
  induction l with
  | nil => exact .nil
  | cons i r ih => exact .cons (.int _) ih
def rgOk (a b : Int) : Bool := decide (0 ≤ a) && (decide (a ≤ 1000000) && (decide (0 ≤ b) && decide (b ≤ 1000000)))
theorem rgOk_of {a b : Int} (h : rgOk a b = true) : RgOk a b := by
  simp only [rgOk, Bool.and_eq_true, decide_eq_true_eq] at h
  exact RgOk.of_le (by omega) (by omega) (by omega) (by omega)
theorem rgV_len {a b : Int} (h : rgOk a b = true) : (rgV a b).length ≤ sizeLine := by
  have := (rgOk_of h).2.2.2.2
  rw [rgV_length]
  exact this
inductive RK where | l | c | t
def RK.o : RK → List V → HO
  | .t, xs => .tup xs
  | _, xs => .lst xs
def rgMk (k : RK) (a b : Int) (m : Hm) : Res W := if rgOk a b = true then (match k with
  | .l => .ok (.p (.list (rgP a b))) m
  | .c => .ok (.loc m.length) (m ++ [.lst ((rgP a b).map .p)])
  | .t => .ok (.p (.tuple (rgP a b))) m) else .stuck
def eRg1 (k : RK) (f : EX W) : EX W := fun s m => (f s m).bind fun w m1 => match w with
  | .p (.int n) => rgMk k 0 n m1
  | _ => .stuck
def eRg2 (k : RK) (f g : EX W) : EX W := fun s m => (f s m).bind fun w m1 => (g s m1).bind fun w' m2 => match w, w' with
  | .p (.int a), .p (.int b) => rgMk k a b m2
  | _, _ => .stuck
section
variable {X : Cx} {U : WX} {p p2 pos pos2 : Pos} {a b : Expr} {f g : EX W}
theorem rg_fin {K : PySem.W.Frag} {σ : L2.St} {c : Cfg} {H : Hp} {m : Hm} {Q : VK} {k : RK} {a b : Int} (hm : HRel K c m H) (hp : Post K U σ c H (RQ K Q) (rgMk k a b m)) :
    RgOk a b ∧ ∀ q, H q = none → Q (.ref q) (upd H q (k.o (rgV a b))) := by
  unfold rgMk at hp
  split at hp
  · rename_i h
    refine ⟨rgOk_of h, fun q hq => ?_⟩
    cases k with
    | l => exact hp c _ (Ext.new hq) (hm.new hq) _ (.p (Rp.newL hm hq (rgV_len h) (rgP_rp a b)))
    | t => exact hp c _ (Ext.new hq) (hm.new hq) _ (.p (Rp.newT hm hq (rgV_len h) (rgP_rp a b)))
    | c =>
      obtain ⟨q1, q2⟩ := RpW.newC hm hq (rgV_len h) (rgP_rp a b).toWs
      exact hp _ _ (Ext.cell hq) q1 _ q2
  · exact hp.elim
theorem x_rg1 (hc : X.calm = true) (hr : X.mg "range" = none) {k : RK} (ha : PE X a (T X.K U f)) (hgr : Gl X "range" := by rfl) (na : starEach [a] X.env = (false, eval a X.env) :: starEach [] X.env := by rfl) :
    ∀ {σ : L2.St} {H : Hp} {Q : VK}, T X.K U (eRg1 k f) σ H Q → tRg1 (T X.K U f) σ H fun a b H1 => RgOk a b ∧ ∀ q, H1 q = none → Q (.ref q) (upd H1 q (k.o (rgV a b))) := by
  rintro σ H Q ⟨c, s, m, hs, hm, hp⟩
  refine T.run hs hm hp fun c1 H1 w1 m1 v1 e1 hs1 hm1 r1 hp1 => ?_
  split at hp1
  · cases r1 with | p r1 =>
    cases r1
    exact ⟨_, rfl, rg_fin hm1 hp1⟩
  · exact hp1.elim
theorem x_listRg1 (hc : X.calm = true) (hl : X.mg "list" = none) (hr : X.mg "range" = none) (ha : PE X a (T X.K U f)) (hgl : Gl X "list" := by rfl) (hgr : Gl X "range" := by rfl) (na : starEach [a] X.env = (false, eval a X.env) :: starEach [] X.env := by rfl)
    (nb : starEach [.Call (.Name "range" p) [a] [] pos] X.env = (false, eval (.Call (.Name "range" p) [a] [] pos) X.env) :: starEach [] X.env := by rfl) :
    PE X (.Call (.Name "list" p2) [.Call (.Name "range" p) [a] [] pos] [] pos2) (T X.K U (eRg1 .l f)) :=
  imp (pe_listRg hc hgl hl (prg_1 hgr hr ha na) nb) fun _ _ _ h => x_rg1 hc hr (k := .l) ha hgr na h
theorem x_listRg1L (hc : X.calm = true) (hl : X.mg "list" = none) (hr : X.mg "range" = none) (ha : PE X a (T X.K U f)) (hgl : Gl X "list" := by rfl) (hgr : Gl X "range" := by rfl) (na : starEach [a] X.env = (false, eval a X.env) :: starEach [] X.env := by rfl)
    (nb : starEach [.Call (.Name "range" p) [a] [] pos] X.env = (false, eval (.Call (.Name "range" p) [a] [] pos) X.env) :: starEach [] X.env := by rfl) :
    PE X (.Call (.Name "list" p2) [.Call (.Name "range" p) [a] [] pos] [] pos2) (T X.K U (eRg1 .c f)) :=
  imp (pe_listRg hc hgl hl (prg_1 hgr hr ha na) nb) fun _ _ _ h => x_rg1 hc hr (k := .c) ha hgr na h
theorem x_tupRg1 (hc : X.calm = true) (hl : X.mg "tuple" = none) (hr : X.mg "range" = none) (ha : PE X a (T X.K U f)) (hgl : Gl X "tuple" := by rfl) (hgr : Gl X "range" := by rfl) (na : starEach [a] X.env = (false, eval a X.env) :: starEach [] X.env := by rfl)
    (nb : starEach [.Call (.Name "range" p) [a] [] pos] X.env = (false, eval (.Call (.Name "range" p) [a] [] pos) X.env) :: starEach [] X.env := by rfl) :
    PE X (.Call (.Name "tuple" p2) [.Call (.Name "range" p) [a] [] pos] [] pos2) (T X.K U (eRg1 .t f)) :=
  imp (pe_tupRg hc hgl hl (prg_1 hgr hr ha na) nb) fun _ _ _ h => x_rg1 hc hr (k := .t) ha hgr na h
end

/-! ### subscripts -/
def idxM : W → W → Hm → Res W
  | .p (.tuple ds), .p (.int i), m => match atI ds i with
    | some d => .ok (.p d) m
    | none => .stuck
  | .p (.list ds), .p (.int i), m => match atI ds i with
    | some d => .ok (.p d) m
    | none => .stuck
  | .tw ws, .p (.int i), m => match atI ws i with
    | some w => .ok w m
    | none => .stuck
  | .loc n, .p (.int i), m => match m[n]? with
    | some (.lst ws) => (match atI ws i with
      | some w => .ok w m
      | none => .stuck)
    | _ => .stuck
  | .p (.str z), .p (.int i), m => if z.length ≤ sizeLine then (match atI z.cps.toList i with
    | some c => .ok (.p (.str ⟨#[c]⟩)) m
    | none => .stuck) else .stuck
  | _, _, _ => .stuck
section
variable {K : PySem.W.Frag} {c : Cfg} {H : Hp} {m : Hm}
theorem atI_rpA {xs : List V} {ds : List PyData} {i : Int} {d : PyData} (r : RpAll K c H xs ds) (e : atI ds i = some d) : ∃ v, atI xs i = some v ∧ Rp K c H v d := by
  unfold atI at e ⊢
  rw [r.length]
  obtain ⟨j, e1, e2⟩ := Option.bind_eq_some_iff.mp e
  rw [e1]
  exact r.get e2
theorem atI_rpW {xs : List V} {ds : List W} {i : Int} {d : W} (r : RpWs K c H xs ds) (e : atI ds i = some d) : ∃ v, atI xs i = some v ∧ RpW K c H v d := by
  unfold atI at e ⊢
  rw [r.length]
  obtain ⟨j, e1, e2⟩ := Option.bind_eq_some_iff.mp e
  rw [e1]
  exact r.get e2
end
theorem idxM_ok {K : PySem.W.Frag} : OpM K (rIx K) idxM := by
  intro U σ c H m v1 v2 w1 w2 Q hm r1 r2 hp
  unfold idxM at hp
  split at hp
  · cases r1 with | p r1 => cases r2 with | p r2 =>
    cases r2
    obtain ⟨a, xs, rfl, h, z, q⟩ := r1.tupI
    split at hp
    · rename_i d e
      obtain ⟨v, e', r⟩ := atI_rpA q e
      exact .inr (.inl ⟨a, xs, _, v, rfl, rfl, h.sq, e', hp.ok hm v (.p r)⟩)
    · exact hp.elim
  · cases r1 with | p r1 => cases r2 with | p r2 =>
    cases r2
    obtain ⟨a, xs, rfl, h, _, _, z, q⟩ := r1.lstI
    split at hp
    · rename_i d e
      obtain ⟨v, e', r⟩ := atI_rpA q e
      exact .inl ⟨a, xs, _, v, rfl, rfl, SqL.of h, e', hp.ok hm v (.p r)⟩
    · exact hp.elim
  · cases r2 with | p r2 =>
    cases r2
    cases r1 with
    | tw h z q =>
      split at hp
      · rename_i d e
        obtain ⟨v, e', r⟩ := atI_rpW q e
        exact .inr (.inl ⟨_, _, _, v, rfl, rfl, h.sq, e', hp.ok hm v r⟩)
      · exact hp.elim
  · cases r2 with | p r2 =>
    cases r2
    split at hp
    · rename_i ws q
      cases r1 with
      | loc h =>
        obtain ⟨b, hb, xs, hx, z, rr⟩ := hm.at_ _ _ q
        rw [h] at hb; cases hb
        split at hp
        · rename_i d e
          obtain ⟨v, e', r⟩ := atI_rpW rr e
          exact .inl ⟨_, _, _, v, rfl, rfl, SqL.of hx, e', hp.ok hm v r⟩
        · exact hp.elim
    · exact hp.elim
  · cases r1 with | p r1 => cases r2 with | p r2 =>
    cases r1; cases r2
    split at hp
    · rename_i hz
      split at hp
      · rename_i c e
        exact .inr (.inr ⟨_, _, _, rfl, rfl, hz, e, hp.ok hm _ (.p (.str _))⟩)
      · exact hp.elim
    · exact hp.elim
  · exact hp.elim
section
variable {X : Cx} {U : WX} {pos : Pos} {a b : Expr} {f1 f2 : EX W}
theorem x_ix (ha : PE X a (T X.K U f1)) (hb : PE X b (T X.K U f2)) (hs : PlainIx b := by intro _ _; rfl) : PE X (.Subscript a b pos) (T X.K U (eOp2 idxM f1 f2)) := imp (pe_ix ix_seq ha hb hs) fun _ _ _ h => t_op2 idxM_ok h
end

/-! ### slices -/
/-- the items of xs[lo:hi] -/
def cutA {α : Type} (xs : List α) (lo hi : Option Int) : List α := (xs.drop (HT.sIx xs.length 0 lo)).take (HT.sIx xs.length xs.length hi - HT.sIx xs.length 0 lo)
theorem cut_rpA {K : PySem.W.Frag} {c : Cfg} {H : Hp} {xs : List V} {ds : List PyData} (r : RpAll K c H xs ds) (lo hi : Option Int) : RpAll K c H (cutV xs lo hi) (cutA ds lo hi) := by
  unfold cutV cutA
  rw [r.length]
  exact RpAll.take _ (RpAll.drop _ r)
theorem cutA_all {α : Type} {ds : List α} {lo hi : Option Int} (h1 : HT.sIx ds.length 0 lo = 0) (h2 : HT.sIx ds.length ds.length hi = ds.length) : cutA ds lo hi = ds := by
  unfold cutA
  rw [h1, h2, List.drop_zero, Nat.sub_zero]
  exact List.take_length
abbrev PX := Ev → Hm → Res (Option Int)
def oNone : PX := fun _ m => .ok none m
def oSome (f : EX W) : PX := fun s m => (f s m).bind fun w m1 => match w with
  | .p (.int i) => .ok (some i) m1
  | _ => .stuck
def TO' (K : PySem.W.Frag) (U : WX) (f : PX) : TO := fun σ H Q => ∃ c s m, SRel K c H s σ ∧ HRel K c m H ∧ Post K U σ c H (fun _ H' o _ => Q o H') (f s m)
theorem TO'.run {K : PySem.W.Frag} {U : WX} {σ : L2.St} {c : Cfg} {H : Hp} {m : Hm} {s : Ev} {α : Type} {f : PX} {k : Option Int → Hm → Res α} {R : Cfg → Hp → α → Hm → Prop} {Z : Option Int → Hp → Prop} (hs : SRel K c H s σ) (hm : HRel K c m H) (hp : Post K U σ c H R ((f s m).bind k))
    (h : ∀ c1 H1 b m1, Ext c H c1 H1 → SRel K c1 H1 s σ → HRel K c1 m1 H1 → Post K U σ c1 H1 R (k b m1) → Z b H1) : TO' K U f σ H Z := by
  refine ⟨c, s, m, hs, hm, ?_⟩
  cases e : f s m with
  | stuck => rw [e] at hp; exact hp
  | ok a m' =>
    rw [e] at hp
    exact fun c' H' e' hm' => h c' H' a m' e' (hs.mono e') hm' (hp.ext e')
  | exc x m' => rw [e] at hp; exact hp
theorem impO {X : Cx} {e : Option Expr} {t t' : TO} (h : PO X e t) (i : ∀ σ H Q, t' σ H Q → t σ H Q) : PO X e t' := ⟨fun pins s σ H Q I hw => h.run pins s σ H Q I (i σ H Q hw)⟩
section
variable {X : Cx} {U : WX} {pos p2 : Pos} {a : Expr} {f : EX W} {fl fh : PX} {lo hi : Option Expr}
theorem o_none : PO X none (TO' X.K U oNone) := impO po_none fun σ H Q ⟨c, s, m, hs, hm, hp⟩ => hp.ok hm
theorem o_some (ha : PE X a (T X.K U f)) : PO X (some a) (TO' X.K U (oSome f)) := by
  refine impO (po_some ha) ?_
  rintro σ H Q ⟨c, s, m, hs, hm, hp⟩
  refine T.run hs hm hp fun c1 H1 w1 m1 v1 e1 hs1 hm1 r1 hp1 => ?_
  split at hp1
  · cases r1 with | p r1 =>
    cases r1
    exact ⟨_, rfl, hp1.ok hm1⟩
  · exact hp1.elim
def cutM (w : W) (lo hi : Option Int) (m : Hm) : Res W := match w with
  | .p (.tuple ds) => .ok (.p (.tuple (cutA ds lo hi))) m
  | .p (.list ds) => .ok (.p (.list (cutA ds lo hi))) m
  | .p (.str z) => if z.length ≤ sizeLine then .ok (.p (.str (cutS z lo hi))) m else .stuck
  | .loc n => match m[n]? with
    | some (.lst ws) => (match allP (cutA ws lo hi) with
      | some ds => .ok (.p (.list ds)) m
      | none => .stuck)
    | _ => .stuck
  | _ => .stuck
def eCut (f : EX W) (fl fh : PX) : EX W := fun s m => (f s m).bind fun w m1 => (fl s m1).bind fun lo m2 => (fh s m2).bind fun hi m3 => cutM w lo hi m3
abbrev rCutAll (K : PySem.W.Frag) : V → Option Int → Option Int → Hp → VK → Prop := fun x lo hi H Q => rSlA K x lo hi H Q ∨ (rSlL K x lo hi H Q ∨ rSlS x lo hi H Q)
theorem x_cut (ha : PE X a (T X.K U f)) (hl : PO X lo (TO' X.K U fl)) (hh : PO X hi (TO' X.K U fh)) : PE X (.Subscript a (.Slice lo hi none p2) pos) (T X.K U (eCut f fl fh)) := by
  refine imp (pe_slice (r := rCutAll X.K) (sl_tupA.or (sl_list.or sl_str)) ha hl hh) ?_
  rintro σ H Q ⟨c, s, m, hs, hm, hp⟩
  refine T.run hs hm hp fun c1 H1 w1 m1 v1 e1 hs1 hm1 r1 hp1 => TO'.run hs1 hm1 hp1 fun c2 H2 l m2 e2 hs2 hm2 hp2 => TO'.run hs2 hm2 hp2 fun c3 H3 h m3 e3 hs3 hm3 hp3 => ?_
  have r := (r1.mono e2).mono e3
  unfold cutM at hp3
  split at hp3
  · cases r with | p r =>
    obtain ⟨a, xs, rfl, hT, z, q⟩ := r.tupI
    refine .inl ⟨a, xs, rfl, hT.sq, fun hw => ?_, fun _ p hpn => ?_⟩
    · refine hp3.ok hm3 _ (.p ?_)
      have l := q.length
      rw [l] at hw
      rw [cutA_all hw.1 hw.2]
      exact .tup hT z q
    · have z' := cutV_length xs l h
      exact hp3 c3 _ (Ext.new hpn) (hm3.new hpn) _ (.p (Rp.newT hm3 hpn (by omega) (cut_rpA q l h)))
  · cases r with | p r =>
    obtain ⟨a, xs, rfl, hT, _, _, z, q⟩ := r.lstI
    refine .inr (.inl ⟨a, xs, rfl, SqL.of hT, fun p hpn => ?_⟩)
    have z' := cutV_length xs l h
    exact hp3 c3 _ (Ext.new hpn) (hm3.new hpn) _ (.p (Rp.newL hm3 hpn (by omega) (cut_rpA q l h)))
  · cases r with | p r =>
    cases r
    split at hp3
    · rename_i hz
      exact .inr (.inr ⟨_, rfl, hz, hp3.ok hm3 _ (.p (.str _))⟩)
    · exact hp3.elim
  · split at hp3
    · rename_i ws q
      cases r with
      | loc h' =>
        obtain ⟨b, hb, xs, hx, z, rr⟩ := hm3.at_ _ _ q
        rw [h'] at hb; cases hb
        split at hp3
        · rename_i ds e
          refine .inr (.inl ⟨_, xs, rfl, SqL.of hx, fun p hpn => ?_⟩)
          have z' := cutV_length xs l h
          have rr' : RpWs X.K c3 H3 (cutV xs l h) (cutA ws l h) := by
            unfold cutV cutA
            rw [rr.length]
            exact RpWs.take _ (RpWs.drop _ rr)
          exact hp3 c3 _ (Ext.new hpn) (hm3.new hpn) _ (.p (Rp.newL hm3 hpn (by omega) (allP_rp rr' e)))
        · exact hp3.elim
    · exact hp3.elim
  · exact hp3.elim
end
end Mir

namespace Mir
open PySem PySem.Spec PyProof.Rows L2 HT

/-! ### t[::-1], t[:0:-1] -/
section
variable {prog : Program} {w : World} {A : Around} {E : Value → Shared → Prop} {s : Shared}
theorem pick_back (xs : Array Value) (k : Nat) (hk : k ≤ xs.size) : ((List.range k).filterMap fun (m : Nat) => xs[(((xs.size : Int) - 1) + (m : Int) * (-1)).toNat]?).toArray = (xs.toList.reverse.take k).toArray := by
  congr 1
  induction k with
  | zero => simp
  | succ k ih =>
    rw [List.range_succ, List.filterMap_append, ih (by omega)]
    have e : (((xs.size : Int) - 1) + (k : Int) * (-1)).toNat = xs.size - 1 - k := by omega
    have hlt : xs.size - 1 - k < xs.size := by omega
    have h1 : xs[xs.size - 1 - k]? = some xs[xs.size - 1 - k] := Array.getElem?_eq_getElem hlt
    simp only [List.filterMap_cons, List.filterMap_nil, e, h1]
    rw [List.take_succ]
    have h2 : xs.toList.reverse[k]? = some xs[xs.size - 1 - k] := by
      rw [List.getElem?_reverse (by simpa using (by omega : k < xs.size))]
      simp [h1]
    rw [h2]
    rfl
/-- the number of places -/
def backN (n : Nat) : Option Int → Nat
  | none => n
  | some _ => n - 1
def backS (n : Nat) : Option Int → Int
  | none => -1
  | some _ => min 0 ((n : Int) - 1)
theorem sliceApplied_back {sl : Addr} {vl vu vs : Value} {hi : Option Int} {n : Nat} {Q : Int × Int × Nat → Shared → Prop} (hs : s.heap.IsSliceOf sl vl vu vs) (pl : IsPart vl none) (pu : IsPart vu hi) (ps : IsPart vs (some (-1))) (hh : hi = none ∨ hi = some 0)
    (h : Q ((n : Int) - 1, -1, backN n hi) s) : wpAny (model prog w) A (Builtin.Slice.sliceApplied (.ref sl) (pure (n : Int))) Q E s := by
  obtain ⟨os, hos, hcs, hds⟩ := id hs
  unfold Builtin.Slice.sliceApplied Builtin.Slice.sliceFields
  refine wpAny_bind (wpAny_bind (wpAny_field hos hds (x := vl) rfl (wpAny_bind (wpAny_field hos hds (x := vu) rfl (wpAny_bind (wpAny_field hos hds (x := vs) rfl (wpAny_pure ?_)))))))
  refine wpAny_bind (slicePart_ ps ?_)
  show wpAny _ _ (if ((-1 : Int) == 0) = true then _ else _) _ _ s
  rw [if_neg (by decide)]
  refine wpAny_bind (slicePart_ pl (wpAny_bind (slicePart_ pu (wpAny_bind (wpAny_pure ?_)))))
  show wpAny _ _ (match Builtin.Slice.sliceAdjust none hi (-1) (n : Int) with | (lo, hi) => pure (lo, (-1 : Int), Builtin.Slice.slicePlaces lo hi (-1))) _ _ s
  have e : Builtin.Slice.sliceAdjust none hi (-1) (n : Int) = ((n : Int) - 1, backS n hi) := by
    rcases hh with rfl | rfl
    · rfl
    · show ((n : Int) - 1, (if (0 : Int) < 0 then max ((0 : Int) + n) (-1) else min 0 ((n : Int) - 1))) = _
      rw [if_neg (by omega)]
      rfl
  rw [e]
  show wpAny _ _ (pure ((n : Int) - 1, (-1 : Int), Builtin.Slice.slicePlaces ((n : Int) - 1) (backS n hi) (-1))) _ _ s
  have e2 : Builtin.Slice.slicePlaces ((n : Int) - 1) (backS n hi) (-1) = backN n hi := by
    unfold Builtin.Slice.slicePlaces
    rw [if_neg (by decide)]
    rcases hh with rfl | rfl
    · show (if (n : Int) - 1 > -1 then ((n : Int) - 1 - -1 - 1) / (- -1) + 1 else 0).toNat = n
      rw [show (- -1 : Int) = 1 by decide]
      split <;> omega
    · show (if (n : Int) - 1 > min 0 ((n : Int) - 1) then ((n : Int) - 1 - min 0 ((n : Int) - 1) - 1) / (- -1) + 1 else 0).toNat = n - 1
      rw [show (- -1 : Int) = 1 by decide]
      split <;> omega
  rw [e2]
  exact wpAny_pure h
theorem getItem_tuple_back {t sl : Addr} {items : Array Value} {vl vu vs : Value} {hi : Option Int} {Q : Value → Shared → Prop} (ht : IsTup s.heap t items) (hs : s.heap.IsSliceOf sl vl vu vs) (pl : IsPart vl none) (pu : IsPart vu hi) (ps : IsPart vs (some (-1))) (hh : hi = none ∨ hi = some 0)
    (h : Q (.ref s.heap.objs.size) { s with heap := s.heap.push { cls := .type "tuple", data := .seq ((items.toList.reverse.take (backN items.size hi))).toArray } })
    (hsz : items.size ≤ sizeLine) : wpAny (model prog w) A (getItem (.ref t) (.ref sl)) Q E s := by
  have hk : backN items.size hi ≤ items.size := by cases hi <;> simp [backN]
  have htake : sizeOk (.seq (items.toList.reverse.take (backN items.size hi)).toArray) := by
    show (items.toList.reverse.take (backN items.size hi)).toArray.size ≤ sizeLine
    rw [List.size_toArray, List.length_take, List.length_reverse, Array.length_toList]
    omega
  obtain ⟨os, hos, hcs, hds⟩ := id hs
  have hTs : s.TypeIs (.ref sl) "slice" := ⟨os, hos, hcs⟩
  unfold getItem
  try with_reducible refine wpAny_holding ?_
  first | refine wpAny_bind (wpAny_pure ?_) | skip
  refine wpAny_bind (wpAny_sequenceKey ht.typeIs (by decide) ?_)
  refine wpAny_bind (wpAny_callSpecial?_slot (name := Str.ofString "__getitem__") ht.typeIs PyProof.Rows.slot_tuple_getitem
    (wpAny_call_entry PyProof.Rows.slot_tuple_getitem ht.typeIs entry_tuple_getitem ?_ (args_tuple_getitem _ _)))
  show wpAny _ _ (Builtin.Tuple.tupleItemsOf (.ref t) >>= _) _ _ s
  refine wpAny_bind (tupleItemsOf_ ht ?_)
  refine wpAny_bind (wpAny_typeOf hTs ?_)
  rw [if_pos (by decide)]
  refine wpAny_bind (sliceApplied_back hs pl pu ps hh ?_)
  have hno : ¬ ((((items.size : Int) - 1) == 0 && (-1 : Int) == 1 && (backN items.size hi) == items.size) = true) := by
    intro q
    rw [Bool.and_eq_true, Bool.and_eq_true] at q
    exact absurd q.1.2 (by decide)
  show wpAny _ _ (if (((items.size : Int) - 1) == 0 && (-1 : Int) == 1 && (backN items.size hi) == items.size) = true then _ else _) _ _ s
  rw [if_neg hno, pick_back _ _ hk]
  first
    | exact wpAny_bind (m := Builtin.Tuple.tupleExact _) (wpAny_newObj_type (wpAny_pure ⟨_, rfl, wpAny_pure h⟩) htake)
    | exact wpAny_bind (m := Builtin.Tuple.tupleExact _) (wpAny_newObj_type (wpAny_bind (wpAny_pure (wpAny_pure ⟨_, rfl, wpAny_pure h⟩))) htake)
    | exact wpAny_bind (wpAny_bind (m := Builtin.Tuple.tupleExact _) (wpAny_newObj_type (wpAny_pure (wpAny_pure ⟨_, rfl, wpAny_pure h⟩)) htake))
    | exact wpAny_bind (wpAny_bind (m := Builtin.Tuple.tupleExact _) (wpAny_newObj_type (wpAny_pure ⟨_, rfl, wpAny_pure h⟩) htake))
end
section
variable {X : Cx} {U : WX} {e : Expr} {te : TE} {f : EX W} {k k2 : Nat} {p1 p2 p3 p4 pos : Pos}
def tRevT (K : PySem.W.Frag) (hi : Option Int) (te : TE) : TE := fun σ H Q => te σ H fun x H1 => ∃ a xs, x = .ref a ∧ SqT K H1 a xs ∧ ∀ p, H1 p = none → Q (.ref p) (upd H1 p (.tup (xs.reverse.take (backN xs.length hi))))
theorem Vals.takeN {xs : List V} {us : List Value} (n : Nat) (r : Vals xs us) : Vals (xs.take n) (us.take n) := Vals.take n r
theorem pe_revT {hiE : Option Expr} {hi : Option Int} {th : TO} (hth : PO X hiE th) (hx : ∀ σ H Q, Q hi H → th σ H Q) (hh : hi = none ∨ hi = some 0) (he : PE X e te) : PE X (.Subscript e (.Slice none hiE (some (.UnaryOp .USub (.Constant (.int 1) k p1) p2)) p3) pos) (tRevT X.K hi te) := by
  refine ⟨fun pins s σ H Q I h => ?_⟩
  refine Subscript_ (thn (he.run pins s σ H _ I h) fun v s1 ⟨x, H1, I1, r1, q1⟩ => ?_)
  obtain ⟨a, xs, ex, hx', q⟩ := q1
  subst ex
  cases r1
  have hst : PO X (some (.UnaryOp .USub (.Constant (.int 1) k p1) p2)) (tPart (tUn (rU fun i => .int (-i)) (tC (.int 1)))) := po_some (pe_un un_neg pe_int)
  refine wpAny_Slice (thn (po_none.run pins s1 σ H1 (fun o H2 => o = none ∧ H2 = H1) I1 ⟨rfl, rfl⟩) fun vl s2 ⟨l, H2, I2, pl, el, e2⟩ => ?_)
  subst el e2
  refine thn (hth.run pins s2 σ H2 (fun o H3 => o = hi ∧ H3 = H2) I2 (hx _ _ _ ⟨rfl, rfl⟩)) fun vu s3 ⟨u, H3, I3, pu, eu, e3⟩ => ?_
  subst eu e3
  refine thn (hst.run pins s3 σ H3 (fun o H4 => o = some (-1) ∧ H4 = H3) I3 ⟨1, rfl, -1, rfl, rfl, rfl⟩) fun vs s4 ⟨o, H4, I4, ps, eo, e4⟩ => ?_
  subst eo e4
  have I5 : Inv X pins σ H4 { s4 with heap := s4.heap.push { cls := .type "slice", data := .fields #[vl, vu, vs] } } := I4.kept (t' := s4.toks) fun b ob q => Heap.get?_push_of_some _ q
  obtain ⟨its, r, ht, hz⟩ := I5.tuple hx'
  have hlen := r.length
  show wpAny (model X.prog X.w) X.A (subscriptTail e (.Slice none hiE (some (.UnaryOp .USub (.Constant (.int 1) k p1) p2)) p3) (.ref a) (.ref s4.heap.objs.size)) (EP X pins σ Q) X.xe { s4 with heap := s4.heap.push { cls := .type "slice", data := .fields #[vl, vu, vs] } }
  refine tail_any (ops := [.ref a, .ref s4.heap.objs.size]) ht.typeIs PyProof.Rows.slot_tuple_getitem.lookup ?_ (by with_unfolding_all rfl)
  have hsz : its.toArray.size = xs.length := by rw [List.size_toArray]; exact hlen.symm
  refine getItem_tuple_back ht (Heap.IsSliceOf.new _ vl vu vs) pl pu ps hh ?_ (by rw [hsz]; exact hz)
  rw [hsz]
  refine ⟨.ref _, _, I5.laid (t' := s4.toks) (o := .tup (xs.reverse.take (backN xs.length u))) (fun b ob q => Heap.get?_push_of_some _ q) (Nat.le_refl _) ?_, rfl, q _ (I5.hok.fresh (Nat.le_refl _))⟩
  refine ⟨by rw [List.length_take, List.length_reverse]; omega, _, Vals.take (backN xs.length u) r.reverse, ⟨_, Heap.get?_push_size _ rfl, rfl, 0, rfl⟩⟩
def revM (hi : Option Int) (w : W) (m : Hm) : Res W := match w with
  | .p (.tuple ds) => .ok (.p (.tuple (ds.reverse.take (backN ds.length hi)))) m
  | _ => .stuck
theorem x_rev_of {hiE : Option Expr} {hi : Option Int} {th : TO} (hth : PO X hiE th) (hx : ∀ σ H Q, Q hi H → th σ H Q) (hh : hi = none ∨ hi = some 0) (he : PE X e (T X.K U f)) : PE X (.Subscript e (.Slice none hiE (some (.UnaryOp .USub (.Constant (.int 1) k p1) p2)) p3) pos) (T X.K U (eOp1 (revM hi) f)) := by
  refine imp (pe_revT hth hx hh he) ?_
  rintro σ H Q ⟨c, s, m, hs, hm, hp⟩
  refine T.run hs hm hp fun c1 H1 w1 m1 v1 e1 hs1 hm1 r1 hp1 => ?_
  unfold revM at hp1
  split at hp1
  · cases r1 with | p r1 =>
    obtain ⟨a, xs, rfl, hT, z, q⟩ := r1.tupI
    refine ⟨a, xs, rfl, hT.sq, fun p hpn => ?_⟩
    rw [q.length]
    exact hp1 c1 _ (Ext.new hpn) (hm1.new hpn) _ (.p (Rp.newT hm1 hpn (by rw [List.length_take, List.length_reverse]; omega) (RpAll.take _ q.reverse)))
  · exact hp1.elim
theorem x_rev (he : PE X e (T X.K U f)) : PE X (.Subscript e (.Slice none none (some (.UnaryOp .USub (.Constant (.int 1) k p1) p2)) p3) pos) (T X.K U (eOp1 (revM none) f)) := x_rev_of po_none (fun _ _ _ h => h) (.inl rfl) he
theorem x_rev0 (he : PE X e (T X.K U f)) : PE X (.Subscript e (.Slice none (some (.Constant (.int 0) k2 p4)) (some (.UnaryOp .USub (.Constant (.int 1) k p1) p2)) p3) pos) (T X.K U (eOp1 (revM (some 0)) f)) := x_rev_of (po_some pe_int) (fun _ _ _ h => ⟨0, rfl, h⟩) (.inr rfl) he
/-- the same of a list -/
def revLM (w : W) (m : Hm) : Res W := match (seqW m w).bind allP with
  | some ds => if isL w = true then .ok (.p (.list ds.reverse)) m else .stuck
  | none => .stuck
theorem x_revL (he : PE X e (T X.K U f)) : PE X (.Subscript e (.Slice none none (some (.UnaryOp .USub (.Constant (.int 1) k p1) p2)) p3) pos) (T X.K U (eOp1 revLM f)) := by
  refine imp (pe_revL he) ?_
  rintro σ H Q ⟨c, s, m, hs, hm, hp⟩
  refine T.run hs hm hp fun c1 H1 w1 m1 v1 e1 hs1 hm1 r1 hp1 => ?_
  unfold revLM at hp1
  split at hp1
  · rename_i ds e
    split at hp1
    · rename_i hl
      obtain ⟨ws', e1, e2⟩ := Option.bind_eq_some_iff.mp e
      obtain ⟨a, xs, rfl, h, z, q⟩ := seqW_list hm1 r1 e1 hl
      refine ⟨a, xs, rfl, h, fun p hpn => ?_⟩
      exact hp1 c1 _ (Ext.new hpn) (hm1.new hpn) _ (.p (Rp.newL hm1 hpn (by rw [List.length_reverse]; exact z) (allP_rp q e2).reverse))
    · exact hp1.elim
  · exact hp1.elim
end
end Mir

namespace Mir
open PySem PySem.Spec PyProof.Rows L2

/-! ### methods of lists -/
def MethM (K : PySem.W.Frag) (r : V → List V → Hp → VK → Prop) (g : W → List W → Hm → Res W) : Prop := ∀ (U : WX) (σ : L2.St) (c : Cfg) (H : Hp) (m : Hm) (v : V) (w : W) (vs : List V) (ws : List W) (Q : VK),
  HRel K c m H → RpW K c H v w → RpWs K c H vs ws → Post K U σ c H (RQ K Q) (g w ws m) → r v vs H Q
/-- the receiver is a list -/
def lstAt (w : W) (m : Hm) : Bool := isL w && (seqW m w).isSome
def eLM (g : W → List W → Hm → Res W) (f : EX W) (fs : EX (List W)) : EX W := fun s m => (f s m).bind fun w m1 => if lstAt w m1 = true then (fs s m1).bind fun ws m2 => g w ws m2 else .stuck
section
variable {K : PySem.W.Frag} {c : Cfg} {H : Hp} {m : Hm}
theorem lstAt_ty {v : V} {w : W} (hm : HRel K c m H) (r : RpW K c H v w) (h : lstAt w m = true) : tyV K "list" v H := by
  unfold lstAt at h
  rw [Bool.and_eq_true] at h
  obtain ⟨ws, e⟩ := Option.isSome_iff_exists.mp h.2
  obtain ⟨a, xs, rfl, hl, _, _⟩ := seqW_list hm r e h.1
  exact .inl ⟨rfl, xs, hl⟩
end
section
variable {X : Cx} {U : WX} {o e : Expr} {es : List Expr} {f : EX W} {fs : EX (List W)} {name : Str} {apos cpos : Pos} {id : String} {r : V → List V → Hp → VK → Prop} {g : W → List W → Hm → Res W}
theorem x_lm (slot : Slot "list" name id) (hty : typeOf (.builtin id) = pure (.type "method_descriptor")) (hm : MtR X id r) (hg : MethM X.K r g) (ho : PE X o (T X.K U f)) (ha : PA X (e :: es) (TL X.K U fs))
    (hbase : attributeBase o name X.env (eval o X.env) = eval o X.env := by rfl)
    (hfew : ((backTo cpos (starEach (e :: es) X.env)).all (fun x => !x.1) && (backToKw cpos (keywordEach [] X.env)).all (fun x => x.1.isSome)
      && decide ((e :: es).length + ([] : List Keyword).length + (if ([] : List Keyword).isEmpty then 0 else 1) < 30)) = true := by rfl)
    (hline : (apos.endLine == cpos.line) = true := by rfl) (hs : starEach (e :: es) X.env = (false, eval e X.env) :: starEach es X.env := by rfl) (hplain : (backTo cpos (starEach es X.env)).any (·.1) = false := by rfl) :
    PE X (.Call (.Attribute o name apos) (e :: es) [] cpos) (T X.K U (eLM g f fs)) := by
  refine imp (pe_bm PySem.F.plainAttrs_list slot hty hm ho ha hbase hfew hline hs hplain) ?_
  rintro σ H Q ⟨c, s, m, hs, hm, hp⟩
  refine T.run hs hm hp fun c1 H1 w1 m1 v1 e1 hs1 hm1 r1 hp1 => ?_
  split at hp1
  · rename_i hl
    exact ⟨lstAt_ty hm1 r1 hl, TL.run hs1 hm1 hp1 fun c2 H2 ws m2 vs e2 hs2 hm2 r2 hp2 => hg U σ c2 H2 m2 v1 w1 vs ws Q hm2 (r1.mono e2) r2 hp2⟩
  · exact hp1.elim
theorem x_lm0 (slot : Slot "list" name id) (hty : typeOf (.builtin id) = pure (.type "method_descriptor")) (hm : MtR X id r) (hg : MethM X.K r g) (ho : PE X o (T X.K U f))
    (hbase : attributeBase o name X.env (eval o X.env) = eval o X.env := by rfl) (hline : (apos.endLine == cpos.line) = true := by rfl) : PE X (.Call (.Attribute o name apos) [] [] cpos) (T X.K U (eLM g f aNil)) := by
  refine imp (pe_bm0 PySem.F.plainAttrs_list slot hty hm ho hbase hline) ?_
  rintro σ H Q ⟨c, s, m, hs, hm, hp⟩
  refine T.run hs hm hp fun c1 H1 w1 m1 v1 e1 hs1 hm1 r1 hp1 => ?_
  split at hp1
  · rename_i hl
    exact ⟨lstAt_ty hm1 r1 hl, hg U σ c1 H1 m1 v1 w1 [] [] Q hm1 r1 .nil hp1⟩
  · exact hp1.elim
end
section
variable {K : PySem.W.Frag} {c : Cfg} {H : Hp} {m : Hm}
theorem HRel.lst (hm : HRel K c m H) {n : Nat} {a : Addr} {ws : List W} (h : c.rho[n]? = some a) (q : m[n]? = some (.lst ws)) : ∃ xs, H a = some (.lst xs) ∧ xs.length ≤ sizeLine ∧ RpWs K c H xs ws := by
  obtain ⟨b, hb, xs, hx, z, rr⟩ := hm.at_ _ _ q
  rw [h] at hb; cases hb
  exact ⟨xs, hx, z, rr⟩
/-- a list cell is written -/
theorem Post.setL {U : WX} {σ : L2.St} {α : Type} {R : Cfg → Hp → α → Hm → Prop} {a' : α} {n : Nat} {a : Addr} {ws : List W} {ys : List V} (hm : HRel K c m H) (h : c.rho[n]? = some a) (z : ys.length ≤ sizeLine) (r : RpWs K c H ys ws)
    (hp : Post K U σ c H R (.ok a' (m.set n (.lst ws)))) : R c (upd H a (.lst ys)) a' (m.set n (.lst ws)) :=
  hp c _ (Ext.write h) (hm.write h ⟨ys, upd_same, z, r.mono (Ext.write h)⟩)
end
def appendM : W → List W → Hm → Res W
  | .loc n, [y], m => match m[n]? with
    | some (.lst ws) => if ws.length < sizeLine then .ok (.p .none) (m.set n (.lst (ws ++ [y]))) else .stuck
    | _ => .stuck
  | _, _, _ => .stuck
theorem appendM_ok {K : PySem.W.Frag} : MethM K rAppend appendM := by
  intro U σ c H m v w vs ws Q hm r rs hp
  unfold appendM at hp
  split at hp
  · obtain ⟨y, rfl, ry⟩ := rs.oneI
    cases r with | loc h =>
    split at hp
    · rename_i ws q
      obtain ⟨xs, hx, z, rr⟩ := hm.lst h q
      have l := rr.length
      split at hp
      · rename_i hz
        exact ⟨_, xs, y, rfl, rfl, hx, by omega, Post.setL hm h (by simp; omega) (rr.append (.cons ry .nil)) hp _ (.p .non)⟩
      · exact hp.elim
    · exact hp.elim
  · exact hp.elim
def isLst : W → Bool
  | .p (.list _) => true
  | .loc _ => true
  | _ => false
theorem seqW_lst {K : PySem.W.Frag} {c : Cfg} {H : Hp} {m : Hm} {v : V} {w : W} {ws : List W} (hm : HRel K c m H) (r : RpW K c H v w) (e : seqW m w = some ws) (hl : isLst w = true) : ∃ a xs, v = .ref a ∧ H a = some (.lst xs) ∧ xs.length ≤ sizeLine ∧ RpWs K c H xs ws := by
  cases r with
  | p r =>
    cases r with
    | lst h n n2 z r => cases e; exact ⟨_, _, rfl, h, z, r.toWs⟩
    | tup h z r => cases hl
    | _ => cases e
  | ro h z r => cases hl
  | @loc a n h =>
    simp only [seqW] at e
    cases q : m[n]? with
    | none => rw [q] at e; cases e
    | some x =>
      rw [q] at e
      cases x with
      | lst ws =>
        cases e
        obtain ⟨xs, hx, z, rr⟩ := hm.lst h q
        exact ⟨_, _, rfl, hx, z, rr⟩
      | _ => cases e
  | tw h z r => cases hl
  | kt => cases hl
def extendM : W → List W → Hm → Res W
  | .loc n, [y], m => match m[n]?, seqW m y with
    | some (.lst ws), some zs => if (decide (ws.length + zs.length ≤ sizeLine) && isLst y) = true then .ok (.p .none) (m.set n (.lst (ws ++ zs))) else .stuck
    | _, _ => .stuck
  | _, _, _ => .stuck
theorem extendM_ok {K : PySem.W.Frag} : MethM K rExtend extendM := by
  intro U σ c H m v w vs ws Q hm r rs hp
  unfold extendM at hp
  split at hp
  · obtain ⟨y, rfl, ry⟩ := rs.oneI
    cases r with | loc h =>
    split at hp
    · rename_i ws zs q e
      obtain ⟨xs, hx, z, rr⟩ := hm.lst h q
      split at hp
      · rename_i hz
        rw [Bool.and_eq_true, decide_eq_true_eq] at hz
        obtain ⟨b, ys, rfl, hy, z2, r2⟩ := seqW_lst hm ry e hz.2
        have l := rr.length
        have l2 := r2.length
        exact ⟨_, b, xs, ys, rfl, rfl, hx, hy, by omega, Post.setL hm h (by simp; omega) (rr.append r2) hp _ (.p .non)⟩
      · exact hp.elim
    · exact hp.elim
  · exact hp.elim
/-- xs.remove(k), ints, k is there -/
def removeM : W → List W → Hm → Res W
  | .loc n, [.p (.int k)], m => match m[n]? with
    | some (.lst ws) => (match (allP ws).bind intsOf with
      | some ns => if k ∈ ns then .ok (.p .none) (m.set n (.lst (((ns.erase k).map PyData.int).map .p))) else .stuck
      | none => .stuck)
    | _ => .stuck
  | _, _, _ => .stuck
theorem eraseIdx_first : ∀ (ns : List Int) (k : Int), k ∈ ns → ∃ j, ns[j]? = some k ∧ (∀ m : Nat, m < j → ns[m]? ≠ some k) ∧ ns.eraseIdx j = ns.erase k
  | [], k, h => by simp at h
  | n :: ns, k, h => by
    by_cases e : n = k
    · subst e
      exact ⟨0, rfl, fun m hm => absurd hm (Nat.not_lt_zero _), by simp⟩
    · have hk : k ∈ ns := by
        rcases List.mem_cons.mp h with q | q
        · exact absurd q.symm e
        · exact q
      obtain ⟨j, h1, h2, h3⟩ := eraseIdx_first ns k hk
      refine ⟨j + 1, by simpa using h1, fun m hm => ?_, ?_⟩
      · cases m with
        | zero => simp [e]
        | succ m => simpa using h2 m (by omega)
      · rw [List.eraseIdx_cons_succ, h3, List.erase_cons_tail (by simpa using e)]
theorem rpI {K : PySem.W.Frag} {c : Cfg} {H : Hp} : ∀ (ns : List Int), RpAll K c H (ns.map V.int) (ns.map PyData.int)
  | [] => .nil
  | n :: ns => .cons (.int n) (rpI ns)
theorem removeM_ok {K : PySem.W.Frag} : MethM K rRemI removeM := by
  intro U σ c H m v w vs ws Q hm r rs hp
  unfold removeM at hp
  split at hp
  · obtain ⟨y, rfl, ry⟩ := rs.oneI
    cases ry with | p ry =>
    cases ry
    cases r with | loc h =>
    split at hp
    · rename_i ws q
      obtain ⟨xs, hx, z, rr⟩ := hm.lst h q
      split at hp
      · rename_i ns e
        obtain ⟨ds, e1, e2⟩ := Option.bind_eq_some_iff.mp e
        have rr' := allP_rp rr e1
        rw [intsOf_eq e2] at rr'
        have := rr'.ints
        subst this
        split at hp
        · rename_i hk
          obtain ⟨j, h1, h2, h3⟩ := eraseIdx_first ns _ hk
          refine ⟨_, ns, _, j, rfl, rfl, hx, h1, h2, ?_⟩
          rw [h3]
          exact Post.setL hm h (by
            rw [List.length_map] at z ⊢
            exact Nat.le_trans List.length_erase_le z) (rpI _).toWs hp _ (.p .non)
        · exact hp.elim
      · exact hp.elim
    · exact hp.elim
  · exact hp.elim
/-- xs.pop(), xs.pop(i) -/
def popM : W → List W → Hm → Res W
  | .loc n, [], m => match m[n]? with
    | some (.lst ws) => (match ws[ws.length - 1]? with
      | some y => .ok y (m.set n (.lst ws.dropLast))
      | none => .stuck)
    | _ => .stuck
  | _, _, _ => .stuck
def popAtM : W → List W → Hm → Res W
  | .loc n, [.p (.int i)], m => match m[n]? with
    | some (.lst ws) => if (decide (-(2 ^ 63) ≤ i) && decide (i < 2 ^ 63)) = true then (match seqIndex? i ws.length with
      | some k => (match ws[k]? with
        | some y => .ok y (m.set n (.lst (ws.eraseIdx k)))
        | none => .stuck)
      | none => .stuck) else .stuck
    | _ => .stuck
  | _, _, _ => .stuck
theorem RpWs.dropLast {K : PySem.W.Frag} {c : Cfg} {H : Hp} {xs : List V} {ws : List W} (r : RpWs K c H xs ws) : RpWs K c H xs.dropLast ws.dropLast := by
  rw [List.dropLast_eq_take, List.dropLast_eq_take, r.length]
  exact r.take _
theorem popM_ok {K : PySem.W.Frag} : MethM K rPop popM := by
  intro U σ c H m v w vs ws Q hm r rs hp
  unfold popM at hp
  split at hp
  · cases rs
    cases r with | loc h =>
    split at hp
    · rename_i ws q
      obtain ⟨xs, hx, z, rr⟩ := hm.lst h q
      have l := rr.length
      split at hp
      · rename_i y e
        obtain ⟨y', e', ry⟩ := rr.get e
        refine ⟨_, xs, y', rfl, rfl, hx, by rw [l]; exact e', ?_⟩
        exact Post.setL hm h (by simp; omega) rr.dropLast hp _ (ry.mono (Ext.write h))
      · exact hp.elim
    · exact hp.elim
  · exact hp.elim
theorem popAtM_ok {K : PySem.W.Frag} : MethM K rPopAt popAtM := by
  intro U σ c H m v w vs ws Q hm r rs hp
  unfold popAtM at hp
  split at hp
  · obtain ⟨y, rfl, ry⟩ := rs.oneI
    cases ry with | p ry =>
    cases ry
    cases r with | loc h =>
    split at hp
    · rename_i ws q
      obtain ⟨xs, hx, z, rr⟩ := hm.lst h q
      have l := rr.length
      split at hp
      · rename_i hb
        rw [Bool.and_eq_true, decide_eq_true_eq, decide_eq_true_eq] at hb
        split at hp
        · rename_i k ek
          split at hp
          · rename_i y e
            obtain ⟨y', e', ry⟩ := rr.get e
            refine ⟨_, xs, _, k, y', rfl, rfl, hx, hb.1, hb.2, by rw [l]; exact ek, e', ?_⟩
            exact Post.setL hm h (by have := len_erase xs k; omega) (rr.eraseIdx k) hp _ (ry.mono (Ext.write h))
          · exact hp.elim
        · exact hp.elim
      · exact hp.elim
    · exact hp.elim
  · exact hp.elim
/-- xs.index(x) of data that is there -/
def idxOf (d : PyData) (ds : List PyData) : Nat := ds.findIdx fun z => PyData.eqv z d
def indexM : W → List W → Hm → Res W
  | w, [y], m => match rd m w, rd m y with
    | some (.list ds), some d => if (SeqAt.shaped (.list ds) && (SeqAt.shaped d && ds.any fun z => PyData.eqv z d)) = true then .ok (.p (.int (idxOf d ds : Nat))) m else .stuck
    | _, _ => .stuck
  | _, _, _ => .stuck
theorem indexM_ok {K : PySem.W.Frag} : MethM K (rIndexD K) indexM := by
  intro U σ c H m v w vs ws Q hm r rs hp
  unfold indexM at hp
  split at hp
  · obtain ⟨y, rfl, ry⟩ := rs.oneI
    split at hp
    · rename_i ds d e1 e2
      split at hp
      · rename_i hz
        rw [Bool.and_eq_true, Bool.and_eq_true] at hz
        obtain ⟨h1, h2, h3⟩ := hz
        have hd := rd_dp hm r e1
        obtain ⟨a, xs, rfl, hl, _, _⟩ := rd_list hm r e1
        have hlt : idxOf d ds < ds.length := List.findIdx_lt_length_of_exists (by simpa using h3)
        refine ⟨a, y, d, ds, idxOf d ds, ds[idxOf d ds], rfl, rfl, hd, rd_dp hm ry e2, h1, h2, List.getElem?_eq_getElem hlt, ?_, fun k z hk hz => ?_, hp.ok hm _ (.p (.int _))⟩
        · exact List.findIdx_getElem (w := hlt)
        · have hk' := List.not_of_lt_findIdx (p := fun z => PyData.eqv z d) (xs := ds) hk
          obtain ⟨hk2, e⟩ := List.getElem?_eq_some_iff.mp hz
          rw [e] at hk'
          simpa using hk'
      · exact hp.elim
    · exact hp.elim
  · exact hp.elim

/-! ### targets -/
inductive Tg where
  | n (i : Nat)
  | t (ts : List Tg)
mutual
def Tg.put : Tg → W → Ev → Option Ev
  | .n i, w, s => some (s.set i (some w))
  | .t gs, w, s => match seqT w with
    | some ws => Tg.puts gs ws s
    | none => none
def Tg.puts : List Tg → List W → Ev → Option Ev
  | [], [], s => some s
  | g :: gs, w :: ws, s => match Tg.put g w s with
    | some s' => Tg.puts gs ws s'
    | none => none
  | _, _, _ => none
end
mutual
def Tg.inn (vs : List Nat) : Tg → Bool
  | .n i => decide (i ∈ vs)
  | .t gs => Tg.inns vs gs
def Tg.inns (vs : List Nat) : List Tg → Bool
  | [] => true
  | g :: gs => Tg.inn vs g && Tg.inns vs gs
end
def TG' (K : PySem.W.Frag) (t : Tg) : TG := fun v σ H Q => ∃ c s w s', SRel K c H s σ ∧ RpW K c H v w ∧ t.put w s = some s' ∧ ∀ σ', SRel K c H s' σ' → (∀ vs, t.inn vs = true → wipe σ' vs = wipe σ vs) → Q σ' H
def TGs' (K : PySem.W.Frag) (t : List Tg) : TGs := fun v σ H Q => ∃ c s w s', SRel K c H s σ ∧ RpWs K c H v w ∧ Tg.puts t w s = some s' ∧ ∀ σ', SRel K c H s' σ' → (∀ vs, Tg.inns vs t = true → wipe σ' vs = wipe σ vs) → Q σ' H
theorem wipe_set {σ : L2.St} {i : Nat} {v : Option V} : ∀ {vs : List Nat}, i ∈ vs → wipe (σ.set i v) vs = wipe σ vs
  | [], h => by simp at h
  | k :: vs, h => by
    unfold wipe
    by_cases e : i = k
    · subst e
      by_cases h2 : i ∈ vs
      · rw [wipe_set h2]
      · have q : ∀ (τ : L2.St) (vs : List Nat), i ∉ vs → (wipe (τ.set i v) vs) = (wipe τ vs).set i v := by
          intro τ vs
          induction vs with
          | nil => intro _; rfl
          | cons j r ih =>
            intro hn
            unfold wipe
            rw [ih (fun z => hn (List.mem_cons_of_mem _ z))]
            exact List.set_comm _ _ (fun z => hn (by rw [z]; exact List.mem_cons_self))
        rw [q σ vs h2, List.set_set]
    · rcases List.mem_cons.mp h with q | q
      · exact absurd q e
      · rw [wipe_set q]
section
variable {X : Cx} {pos : Pos}
theorem impG {tg : Expr} {t t' : TG} (h : PG X tg t) (i : ∀ v σ H Q, t' v σ H Q → t v σ H Q) : PG X tg t' := ⟨fun pins s σ H v u Q I r hw => h.run pins s σ H v u Q I r (i v σ H Q hw)⟩
theorem impGs {tg : List Expr} {t t' : TGs} (h : PGs X tg t) (i : ∀ v σ H Q, t' v σ H Q → t v σ H Q) : PGs X tg t' := ⟨fun pins s σ H v u Q I r hw => h.run pins s σ H v u Q I r (i v σ H Q hw)⟩
theorem g_name {i : Nat} {x : Str} (hN : X.N.Nodup) (hi : X.N[i]? = some x) (hx : Loc X.env.scope x) (hf : X.fn x = true ∨ X.env.scope.names.lookup x = some .local := by first | exact .inl rfl | exact .inr rfl | assumption) : PG X (.Name x pos) (TG' X.K (.n i)) := by
  refine impG (pg_name hN hi hx hf) ?_
  rintro v σ H Q ⟨c, s, w, s', hs, r, e, q⟩
  cases e
  exact q _ (hs.set r) fun vs hv => wipe_set (by simpa [Tg.inn] using hv)
theorem g_nil : PGs X [] (TGs' X.K []) := by
  refine impGs pgs_nil ?_
  rintro v σ H Q ⟨c, s, w, s', hs, r, e, q⟩
  cases w with
  | nil =>
    cases r
    cases e
    exact ⟨rfl, q _ hs fun _ _ => rfl⟩
  | cons => cases e
theorem g_cons {e : Expr} {es : List Expr} {t : Tg} {ts : List Tg} (h1 : PG X e (TG' X.K t)) (h2 : PGs X es (TGs' X.K ts))
    (hs : (assignEach (e :: es) X.env).map (·.2) = assign e X.env :: (assignEach es X.env).map (·.2) := by rfl) : PGs X (e :: es) (TGs' X.K (t :: ts)) := by
  refine impGs (pgs_cons h1 h2 hs) ?_
  rintro v σ H Q ⟨c, s, w, s', hs, r, e, q⟩
  cases r with
  | nil => cases e
  | @cons v vs d ds r1 r2 =>
    unfold Tg.puts at e
    split at e
    · rename_i s1 e1
      refine ⟨v, vs, rfl, c, s, d, s1, hs, r1, e1, fun σ1 hs1 h1 => ⟨c, s1, ds, s', hs1, r2, e, fun σ2 hs2 h2 => q σ2 hs2 fun vs hv => ?_⟩⟩
      simp only [Tg.inns, Bool.and_eq_true] at hv
      exact (h2 vs hv.2).trans (h1 vs hv.1)
    · cases e
theorem g_tup {es : List Expr} {k : Nat} {ts : List Tg} (hc : X.calm = true) (h : PGs X es (TGs' X.K ts))
    (hn : (assignEach es X.env).length = ts.length := by rfl) (hst : (assignEach es X.env).findIdx? (·.1) = none := by rfl) : PG X (.Tuple es k pos) (TG' X.K (.t ts)) := by
  refine impG (pg_tup hc h hn hst) ?_
  rintro v σ H Q ⟨c, s, w, s', hs, r, e, q⟩
  unfold Tg.put at e
  split at e
  · rename_i ws e1
    have len : ∀ (ts : List Tg) (ws : List W) (s : Ev) (s' : Ev), Tg.puts ts ws s = some s' → ws.length = ts.length := by
      intro ts
      induction ts with
      | nil => intro ws s s' h; cases ws with
        | nil => rfl
        | cons => cases h
      | cons t ts ih => intro ws s s' h; cases ws with
        | nil => cases h
        | cons w ws =>
          unfold Tg.puts at h
          split at h
          · simp [ih _ _ _ h]
          · cases h
    have l := len _ _ _ _ e
    have fin : ∀ {a : Addr} {xs : List V}, v = .ref a → TupAt X.K c H a xs → RpWs X.K c H xs ws → gTup X.K ts.length (TGs' X.K ts) v σ H Q := fun {a xs} ev hT rr =>
      ⟨a, xs, ev, hT.sq, by rw [rr.length, l], c, s, ws, s', hs, rr, e, fun σ' hs' hv => q σ' hs' fun vs h => hv vs (by simpa [Tg.inn] using h)⟩
    cases r with
    | p r =>
      cases r with
      | tup hT z r => cases e1; exact fin rfl hT r.toWs
      | _ => cases e1
    | tw hT z r => cases e1; exact fin rfl hT r
    | _ => cases e1
  · cases e
end
end Mir

namespace Mir
open PySem PySem.Spec PyProof.Rows L2

/-! ### what is walked -/
/-- the items; lists that must stand as they are while they are walked -/
structure Src where
  items : List W
  gs : List (Nat × List W) := []
def gOk (m : Hm) : List (Nat × List W) → Bool
  | [] => true
  | g :: r => (match m[g.1]? with
    | some (.lst ws) => beqWs ws g.2
    | _ => false) && gOk m r
@[simp] theorem gOk_nil {m : Hm} : gOk m [] = true := rfl
theorem gOk_get {m : Hm} {n : Nat} {ws : List W} {r : List (Nat × List W)} (h : gOk m ((n, ws) :: r) = true) : m[n]? = some (.lst ws) ∧ gOk m r = true := by
  unfold gOk at h
  rw [Bool.and_eq_true] at h
  refine ⟨?_, h.2⟩
  have h1 := h.1
  split at h1
  · rename_i ws' e
    rw [e, beqWs_eq _ _ h1]
  · cases h1
abbrev IX := EX Src
def ItOk (K : PySem.W.Frag) (c : Cfg) (H : Hp) (src : Src) (J : It) : Prop := ∀ c' H' m', Ext c H c' H' → HRel K c' m' H' → gOk m' src.gs = true → ∀ i : Nat,
  (i = src.items.length → J.stop i H') ∧ ∀ w, src.items[i]? = some w → J.go i H' ∧ ∀ x H'', J.yld i H' x H'' → (H'' = H' ∨ ∃ p o, H' p = none ∧ H'' = upd H' p o) ∧ RpW K c' H'' x w
def TI' (K : PySem.W.Frag) (U : WX) (f : IX) : TI := fun σ H R => ∃ c s m, SRel K c H s σ ∧ HRel K c m H ∧ Post K U σ c H (fun c' H' src _ => ∀ J, ItOk K c' H' src J → R J H') (f s m)
theorem TI'.run {K : PySem.W.Frag} {U : WX} {σ : L2.St} {c : Cfg} {H : Hp} {m : Hm} {s : Ev} {α : Type} {f : IX} {k : Src → Hm → Res α} {R : Cfg → Hp → α → Hm → Prop} {Z : It → Hp → Prop} (hs : SRel K c H s σ) (hm : HRel K c m H) (hp : Post K U σ c H R ((f s m).bind k))
    (h : ∀ c1 H1 src m1 J, Ext c H c1 H1 → SRel K c1 H1 s σ → HRel K c1 m1 H1 → ItOk K c1 H1 src J → Post K U σ c1 H1 R (k src m1) → Z J H1) : TI' K U f σ H Z := by
  refine ⟨c, s, m, hs, hm, ?_⟩
  cases e : f s m with
  | stuck => rw [e] at hp; exact hp
  | ok a m' =>
    rw [e] at hp
    exact fun c' H' e' hm' J hJ => h c' H' a m' J e' (hs.mono e') hm' hJ (hp.ext e')
  | exc x m' => rw [e] at hp; exact hp
theorem impI {X : Cx} {tg e : Expr} {t t' : TI} (h : PI X tg e t) (i : ∀ σ H Q, t' σ H Q → t σ H Q) : PI X tg e t' := ⟨fun pins s σ H Q I hw => h.run pins s σ H Q I (i σ H Q hw)⟩
theorem PI.or {X : Cx} {tg e : Expr} {t t' : TI} (h : PI X tg e t) (h' : PI X tg e t') : PI X tg e (fun σ H R => t σ H R ∨ t' σ H R) :=
  ⟨fun pins s σ H Q I hw => hw.elim (h.run pins s σ H Q I) (h'.run pins s σ H Q I)⟩
def srcOf (w : W) (m : Hm) : Res Src := match w with
  | .p (.list ds) => .ok ⟨ds.map .p, []⟩ m
  | .p (.tuple ds) => .ok ⟨ds.map .p, []⟩ m
  | .tw ws => .ok ⟨ws, []⟩ m
  | .loc n => match m[n]? with
    | some (.lst ws) => .ok ⟨ws, [(n, ws)]⟩ m
    | _ => .stuck
  | _ => .stuck
def iSeq (f : EX W) : IX := fun s m => (f s m).bind srcOf
section
variable {K : PySem.W.Frag} {c : Cfg} {H : Hp} {m : Hm}
theorem ItOk.list {src : Src} {a : Addr} (h : ∀ c' H' m', Ext c H c' H' → HRel K c' m' H' → gOk m' src.gs = true → ∃ xs, SqL K H' a xs ∧ RpWs K c' H' xs src.items) : ItOk K c H src (Itl K a) := by
  intro c' H' m' e hm g i
  obtain ⟨xs, hx, r⟩ := h c' H' m' e hm g
  refine ⟨fun hi => ⟨xs, hx, by rw [r.length]; omega⟩, fun w hw => ?_⟩
  obtain ⟨v, hv, rv⟩ := r.get hw
  refine ⟨⟨xs, v, hx, hv⟩, fun x H'' y => ?_⟩
  obtain ⟨e1, y⟩ := y
  have := y xs hx
  rw [hv] at this
  cases this
  subst e1
  exact ⟨.inl rfl, rv⟩
theorem ItOk.tup {src : Src} {a : Addr} (h : ∀ c' H' m', Ext c H c' H' → HRel K c' m' H' → gOk m' src.gs = true → ∃ xs, SqT K H' a xs ∧ RpWs K c' H' xs src.items) : ItOk K c H src (Itt K a) := by
  intro c' H' m' e hm g i
  obtain ⟨xs, hx, r⟩ := h c' H' m' e hm g
  refine ⟨fun hi => ⟨xs, hx, by rw [r.length]; omega⟩, fun w hw => ?_⟩
  obtain ⟨v, hv, rv⟩ := r.get hw
  refine ⟨⟨xs, v, hx, hv⟩, fun x H'' y => ?_⟩
  obtain ⟨e1, y⟩ := y
  have := y xs hx
  rw [hv] at this
  cases this
  subst e1
  exact ⟨.inl rfl, rv⟩
/-- a list or a tuple to walk -/
theorem srcOf_okL {v : V} {w : W} {src : Src} {m' : Hm} (hm : HRel K c m H) (r : RpW K c H v w) (e : srcOf w m = .ok src m') (k : isL w = true) : m' = m ∧ ∃ a, v = .ref a ∧ (∃ xs, SqL K H a xs) ∧ ItOk K c H src (Itl K a) := by
  cases r with
  | p r =>
    cases r with
    | lst h n n2 z r =>
      cases e
      exact ⟨rfl, _, rfl, ⟨_, SqL.of h⟩, .list fun c' H' m' e hm g => ⟨_, SqL.of (e.keep _ _ h n n2), (r.mono e).toWs⟩⟩
    | _ => cases k
  | ro => cases e
  | @loc a n h =>
    simp only [srcOf] at e
    cases q : m[n]? with
    | none => rw [q] at e; cases e
    | some x =>
      rw [q] at e
      cases x with
      | lst ws =>
        cases e
        obtain ⟨xs, hx, z, rr⟩ := hm.lst h q
        refine ⟨rfl, _, rfl, ⟨_, SqL.of hx⟩, .list fun c' H' m' e hm' g => ?_⟩
        obtain ⟨xs', hx', _, rr'⟩ := hm'.lst (e.at h) (gOk_get g).1
        exact ⟨xs', SqL.of hx', rr'⟩
      | _ => cases e
  | tw h z r => cases k
  | kt => cases k
theorem srcOf_okT {v : V} {w : W} {src : Src} {m' : Hm} (hm : HRel K c m H) (r : RpW K c H v w) (e : srcOf w m = .ok src m') (k : isL w = false) : m' = m ∧ ∃ a, v = .ref a ∧ (∃ xs, SqT K H a xs) ∧ ItOk K c H src (Itt K a) := by
  cases r with
  | p r =>
    cases r with
    | lst => cases k
    | tup h z r =>
      cases e
      exact ⟨rfl, _, rfl, ⟨_, h.sq⟩, .tup fun c' H' m' e hm g => ⟨_, (h.sub e.sub).sq, (r.mono e).toWs⟩⟩
    | _ => cases e
  | ro => cases e
  | loc => cases k
  | tw h z r =>
    cases e
    exact ⟨rfl, _, rfl, ⟨_, h.sq⟩, .tup fun c' H' m' e hm g => ⟨_, (h.sub e.sub).sq, r.mono e⟩⟩
  | kt => cases e
theorem srcOf_exc {w : W} {x : Exn} {m' : Hm} : srcOf w m ≠ .exc x m' := by
  unfold srcOf
  split <;> first | (intro h; cases h; done) | (split <;> (intro h; cases h))
end
section
variable {X : Cx} {U : WX} {tg a b : Expr} {f g : EX W}
theorem i_seq (ha : PE X a (T X.K U f)) : PI X tg a (TI' X.K U (iSeq f)) := by
  refine impI (PI.or (pi_list ha) (pi_tup ha)) ?_
  rintro σ H R ⟨c, s, m, hs, hm, hp⟩
  -- by the value's kind
  cases e : f s m with
  | stuck => unfold iSeq at hp; rw [e] at hp; exact hp.elim
  | exc x m' =>
    unfold iSeq at hp
    rw [e] at hp
    exact .inl ⟨c, s, m, hs, hm, by rw [e]; exact hp⟩
  | ok w m1 =>
    unfold iSeq at hp
    rw [e] at hp
    simp only [bind_ok] at hp
    cases e2 : srcOf w m1 with
    | stuck => rw [e2] at hp; exact hp.elim
    | exc x m' => exact absurd e2 srcOf_exc
    | ok src m2 =>
      rw [e2] at hp
      cases k : isL w with
      | true =>
        refine .inl ⟨c, s, m, hs, hm, ?_⟩
        rw [e]
        intro c' H' e' hm' v rv
        obtain ⟨rfl, a, rfl, q1, q2⟩ := srcOf_okL hm' rv e2 k
        exact ⟨a, rfl, q1, (hp.ext e').ok hm' _ q2⟩
      | false =>
        refine .inr ⟨c, s, m, hs, hm, ?_⟩
        rw [e]
        intro c' H' e' hm' v rv
        obtain ⟨rfl, a, rfl, q1, q2⟩ := srcOf_okT hm' rv e2 k
        exact ⟨a, rfl, q1, (hp.ext e').ok hm' _ q2⟩
/-- range(n), range(a, b) -/
def iRg1 (f : EX W) : IX := fun s m => (f s m).bind fun w m1 => match w with
  | .p (.int n) => if (decide (-1000000 ≤ n) && decide (n ≤ 1000000)) = true then .ok ⟨(rgP 0 n).map .p, []⟩ m1 else .stuck
  | _ => .stuck
def iRg2 (f g : EX W) : IX := fun s m => (f s m).bind fun w m1 => (g s m1).bind fun w' m2 => match w, w' with
  | .p (.int a), .p (.int b) => if (decide (-1000000 ≤ a) && (decide (a ≤ 1000000) && (decide (-1000000 ≤ b) && decide (b ≤ 1000000)))) = true then .ok ⟨(rgP a b).map .p, []⟩ m2 else .stuck
  | _, _ => .stuck
theorem rgP_get {a b : Int} {i : Nat} {w : W} (h : ((rgP a b).map W.p)[i]? = some w) : w = .p (.int (a + (i : Nat))) ∧ i < (b - a).toNat := by
  unfold rgP at h
  rw [List.map_map, List.getElem?_map] at h
  obtain ⟨j, hj, e⟩ := Option.map_eq_some_iff.mp h
  obtain ⟨hl, hj⟩ := List.getElem?_eq_some_iff.mp hj
  rw [List.length_range] at hl
  rw [List.getElem_range] at hj
  subst hj
  exact ⟨e.symm, hl⟩
theorem rgP_length (a b : Int) : (rgP a b).length = (b - a).toNat := by simp [rgP]
theorem ItOk.rg {K : PySem.W.Frag} {c : Cfg} {H : Hp} (a b : Int) {n : Nat} (hn : n = (b - a).toNat) : ItOk K c H ⟨(rgP a b).map .p, []⟩ (Itr a n) := by
  subst hn
  intro c' H' m' e hm g i
  refine ⟨fun hi => ?_, fun w hw => ?_⟩
  · show (b - a).toNat ≤ i
    rw [List.length_map, rgP_length] at hi
    omega
  · obtain ⟨rfl, hl⟩ := rgP_get hw
    refine ⟨hl, fun x H'' y => ?_⟩
    obtain ⟨e1, e2⟩ := y
    subst e1 e2
    exact ⟨.inl rfl, .p (.int _)⟩
theorem i_rg1 {p pos : Pos} (hr : X.mg "range" = none) (ha : PE X a (T X.K U f)) (hg : Gl X "range" := by rfl) (na : starEach [a] X.env = (false, eval a X.env) :: starEach [] X.env := by rfl) (hs : starEach [a] X.env = [(false, eval a X.env)] := by rfl) :
    PI X tg (.Call (.Name "range" p) [a] [] pos) (TI' X.K U (iRg1 f)) := by
  refine impI (pi_range1 hg hr (pa_cons ha pa_nil na) hs) ?_
  rintro σ H R ⟨c, s, m, hs, hm, hp⟩
  refine T.run hs hm hp fun c1 H1 w1 m1 v1 e1 hs1 hm1 r1 hp1 => ?_
  split at hp1
  · cases r1 with | p r1 =>
    cases r1
    rename_i n
    split at hp1
    · rename_i hz
      rw [Bool.and_eq_true, decide_eq_true_eq, decide_eq_true_eq] at hz
      exact ⟨n, rfl, by omega, by omega, hp1.ok hm1 _ (ItOk.rg 0 n (by omega))⟩
    · exact hp1.elim
  · exact hp1.elim
theorem i_rg2 {p pos : Pos} (hr : X.mg "range" = none) (ha : PE X a (T X.K U f)) (hb : PE X b (T X.K U g)) (hg : Gl X "range" := by rfl) (na : starEach [a, b] X.env = (false, eval a X.env) :: starEach [b] X.env := by rfl) (nb : starEach [b] X.env = (false, eval b X.env) :: starEach [] X.env := by rfl)
    (hs : starEach [a, b] X.env = [(false, eval a X.env), (false, eval b X.env)] := by rfl) (hs2 : starEach [b] X.env = [(false, eval b X.env)] := by rfl) :
    PI X tg (.Call (.Name "range" p) [a, b] [] pos) (TI' X.K U (iRg2 f g)) := by
  refine impI (pi_range2 hg hr (pa_cons ha (pa_cons hb pa_nil nb) na) hs hs2) ?_
  rintro σ H R ⟨c, s, m, hs, hm, hp⟩
  refine T.run hs hm hp fun c1 H1 w1 m1 v1 e1 hs1 hm1 r1 hp1 => T.run hs1 hm1 hp1 fun c2 H2 w2 m2 v2 e2 hs2 hm2 r2 hp2 => ?_
  split at hp2
  · cases r1 with | p r1 => cases r2 with | p r2 =>
    cases r1
    cases r2
    split at hp2
    · rename_i hz
      simp only [Bool.and_eq_true, decide_eq_true_eq] at hz
      exact ⟨_, _, rfl, by omega, hp2.ok hm2 _ (ItOk.rg _ _ rfl)⟩
    · exact hp2.elim
  · exact hp2.elim
/-- enumerate(xs), xs a list -/
def numbered (k : Nat) : List W → List W
  | [] => []
  | w :: r => mkTup [.p (.int (k : Nat)), w] :: numbered (k + 1) r
theorem numbered_get : ∀ (ws : List W) (k i : Nat) (w : W), (numbered k ws)[i]? = some w → ∃ x, ws[i]? = some x ∧ w = mkTup [.p (.int ((k + i : Nat) : Int)), x]
  | [], k, i, w, h => by simp [numbered] at h
  | x :: r, k, 0, w, h => by
    simp [numbered] at h
    exact ⟨x, rfl, h.symm⟩
  | x :: r, k, i + 1, w, h => by
    obtain ⟨y, h1, h2⟩ := numbered_get r (k + 1) i w (by simpa [numbered] using h)
    exact ⟨y, by simpa using h1, by rw [h2]; congr 5; omega⟩
theorem numbered_length : ∀ (ws : List W) (k : Nat), (numbered k ws).length = ws.length
  | [], _ => rfl
  | _ :: r, k => by simp [numbered, numbered_length r]
def iEn (f : EX W) : IX := fun s m => (f s m).bind fun w m1 => if isL w = true then (srcOf w m1).bind fun src m2 => .ok ⟨numbered 0 src.items, src.gs⟩ m2 else .stuck
theorem new_pair {K : PySem.W.Frag} {c : Cfg} {H : Hp} {m : Hm} {p : Addr} {x y : V} {wx wy : W} (hm : HRel K c m H) (hp : H p = none) (rx : RpW K c H x wx) (ry : RpW K c H y wy) : RpW K c (upd H p (.tup [x, y])) (.ref p) (mkTup [wx, wy]) :=
  RpW.newT hm hp (by rw [sizeLine_eq]; show 2 ≤ _; decide) (.cons rx (.cons ry .nil))
theorem i_enum {p pos tpos : Pos} {elts : List Expr} {kk : Nat} (hr : X.mg "enumerate" = none) (ha : PE X a (T X.K U f)) (hg : Gl X "enumerate" := by rfl) (na : starEach [a] X.env = (false, eval a X.env) :: starEach [] X.env := by rfl) (hs : starEach [a] X.env = [(false, eval a X.env)] := by rfl) :
    PI X (.Tuple elts kk tpos) (.Call (.Name "enumerate" p) [a] [] pos) (TI' X.K U (iEn f)) := by
  refine impI (pi_enum hg hr (pa_cons ha pa_nil na) hs) ?_
  rintro σ H R ⟨c, s, m, hs, hm, hp⟩
  refine T.run hs hm hp fun c1 H1 w1 m1 v1 e1 hs1 hm1 r1 hp1 => ?_
  split at hp1
  · rename_i k
    cases e2 : srcOf w1 m1 with
    | stuck => rw [e2] at hp1; exact hp1.elim
    | exc x m' => exact absurd e2 srcOf_exc
    | ok src m2 =>
      rw [e2] at hp1
      simp only [bind_ok] at hp1
      obtain ⟨rfl, a, rfl, ⟨xs, q1⟩, q2⟩ := srcOf_okL hm1 r1 e2 k
      refine ⟨a, xs, rfl, q1, hp1.ok hm1 _ ?_⟩
      intro c' H' m' e hm' g i
      have q := q2 c' H' m' e hm' g
      refine ⟨fun hi => (q i).1 (by simpa [numbered_length] using hi), fun w hw => ?_⟩
      obtain ⟨x, h1, rfl⟩ := numbered_get _ _ _ _ hw
      obtain ⟨g1, g2⟩ := (q i).2 x h1
      refine ⟨g1, fun v H'' y => ?_⟩
      obtain ⟨T, x', rfl, hT, rfl, hy⟩ := y
      obtain ⟨_, rx⟩ := g2 x' H' ⟨rfl, hy⟩
      refine ⟨.inr ⟨T, _, hT, rfl⟩, ?_⟩
      have := new_pair hm' hT (RpW.p (Rp.int ((i : Nat) : Int))) rx
      simpa using this
  · exact hp1.elim
/-- zip of two lists or of two tuples -/
def zipped : List W → List W → List W
  | w :: r, w' :: r' => mkTup [w, w'] :: zipped r r'
  | _, _ => []
theorem zipped_get : ∀ (ws ws' : List W) (i : Nat) (w : W), (zipped ws ws')[i]? = some w → ∃ x y, ws[i]? = some x ∧ ws'[i]? = some y ∧ w = mkTup [x, y]
  | [], _, i, w, h => by simp [zipped] at h
  | _ :: _, [], i, w, h => by simp [zipped] at h
  | x :: r, y :: r', 0, w, h => by
    simp [zipped] at h
    exact ⟨x, y, rfl, rfl, h.symm⟩
  | x :: r, y :: r', i + 1, w, h => by
    obtain ⟨x', y', h1, h2, h3⟩ := zipped_get r r' i w (by simpa [zipped] using h)
    exact ⟨x', y', by simpa using h1, by simpa using h2, h3⟩
theorem zipped_length : ∀ (ws ws' : List W), (zipped ws ws').length = min ws.length ws'.length
  | [], _ => by simp [zipped]
  | _ :: _, [] => by simp [zipped]
  | _ :: r, _ :: r' => by simp [zipped, zipped_length r r']
theorem gOk_app {m : Hm} : ∀ {g g' : List (Nat × List W)}, gOk m (g ++ g') = true → gOk m g = true ∧ gOk m g' = true
  | [], _, h => ⟨rfl, h⟩
  | x :: r, g', h => by
    simp only [List.cons_append, gOk, Bool.and_eq_true] at h ⊢
    obtain ⟨h1, h2⟩ := gOk_app h.2
    exact ⟨⟨h.1, h1⟩, h2⟩
def zipR (w w' : W) (m : Hm) : Res Src := if isL w == isL w' then (srcOf w m).bind fun a m1 => (srcOf w' m1).bind fun b m2 => .ok ⟨zipped a.items b.items, a.gs ++ b.gs⟩ m2 else .stuck
def iZp (f g : EX W) : IX := fun s m => (f s m).bind fun w m1 => (g s m1).bind fun w' m2 => zipR w w' m2
theorem i_zip {p pos tpos : Pos} {elts : List Expr} {kk : Nat} (hr : X.mg "zip" = none) (ha : PE X a (T X.K U f)) (hb : PE X b (T X.K U g)) (hg : Gl X "zip" := by rfl) (na : starEach [a, b] X.env = (false, eval a X.env) :: starEach [b] X.env := by rfl) (nb : starEach [b] X.env = (false, eval b X.env) :: starEach [] X.env := by rfl)
    (hpl : (backTo pos (starEach [b] X.env)).any (·.1) = false := by rfl) : PI X (.Tuple elts kk tpos) (.Call (.Name "zip" p) [a, b] [] pos) (TI' X.K U (iZp f g)) := by
  refine impI (RZ.pi_zipA hg hr (pa_cons ha (pa_cons hb pa_nil nb) na) na hpl) ?_
  rintro σ H R ⟨c, s, m, hs, hm, hp⟩
  refine T.run hs hm hp fun c1 H1 w1 m1 v1 e1 hs1 hm1 r1 hp1 => T.run hs1 hm1 hp1 fun c2 H2 w2 m2 v2 e2 hs2 hm2 r2 hp2 => ?_
  have r1' := r1.mono e2
  unfold zipR at hp2
  split at hp2
  · rename_i kk
    have kk := eq_of_beq kk
    cases q1 : srcOf w1 m2 with
    | stuck => rw [q1] at hp2; exact hp2.elim
    | exc x m' => exact absurd q1 srcOf_exc
    | ok A m3 =>
      rw [q1] at hp2
      simp only [bind_ok] at hp2
      cases q2 : srcOf w2 m3 with
      | stuck => rw [q2] at hp2; exact hp2.elim
      | exc x m' => exact absurd q2 srcOf_exc
      | ok B m4 =>
        rw [q2] at hp2
        simp only [bind_ok] at hp2
        cases k1 : isL w1 with
        | true =>
          obtain ⟨rfl, a, rfl, ⟨xs, a1⟩, a2⟩ := srcOf_okL hm2 r1' q1 k1
          obtain ⟨rfl, b, rfl, ⟨ys, b1⟩, b2⟩ := srcOf_okL hm2 r2 q2 (by rw [← kk]; exact k1)
          refine ⟨a, b, xs, ys, rfl, .inl ⟨a1, b1, hp2.ok hm2 _ ?_⟩⟩
          intro c' H' m' e hm' g i
          obtain ⟨g1, g2⟩ := gOk_app g
          have qa := a2 c' H' m' e hm' g1 i
          have qb := b2 c' H' m' e hm' g2 i
          have ea := a2 c' H' m' e hm' g1 A.items.length
          have eb := b2 c' H' m' e hm' g2 B.items.length
          refine ⟨fun hi => ?_, fun w hw => ?_⟩
          · obtain ⟨xs', x1, x2⟩ := ea.1 rfl
            obtain ⟨ys', y1, y2⟩ := eb.1 rfl
            refine ⟨xs', ys', x1, y1, ?_⟩
            rw [zipped_length] at hi
            omega
          · obtain ⟨x, y, h1, h2, rfl⟩ := zipped_get _ _ _ _ hw
            obtain ⟨⟨xs', x', x1, x2⟩, g1⟩ := qa.2 x h1
            obtain ⟨⟨ys', y', y1, y2⟩, g2⟩ := qb.2 y h2
            refine ⟨⟨xs', ys', x', y', x1, y1, x2, y2⟩, fun v H'' yy => ?_⟩
            obtain ⟨T, x3, y3, rfl, hT, rfl, hx, hy⟩ := yy
            obtain ⟨_, rx⟩ := g1 x3 H' ⟨rfl, hx⟩
            obtain ⟨_, ry⟩ := g2 y3 H' ⟨rfl, hy⟩
            exact ⟨.inr ⟨T, _, hT, rfl⟩, new_pair hm' hT rx ry⟩
        | false =>
          obtain ⟨rfl, a, rfl, ⟨xs, a1⟩, a2⟩ := srcOf_okT hm2 r1' q1 k1
          obtain ⟨rfl, b, rfl, ⟨ys, b1⟩, b2⟩ := srcOf_okT hm2 r2 q2 (by rw [← kk]; exact k1)
          refine ⟨a, b, xs, ys, rfl, .inr ⟨a1, b1, hp2.ok hm2 _ ?_⟩⟩
          intro c' H' m' e hm' g i
          obtain ⟨g1, g2⟩ := gOk_app g
          have qa := a2 c' H' m' e hm' g1 i
          have qb := b2 c' H' m' e hm' g2 i
          have ea := a2 c' H' m' e hm' g1 A.items.length
          have eb := b2 c' H' m' e hm' g2 B.items.length
          refine ⟨fun hi => ?_, fun w hw => ?_⟩
          · obtain ⟨xs', x1, x2⟩ := ea.1 rfl
            obtain ⟨ys', y1, y2⟩ := eb.1 rfl
            refine ⟨xs', ys', x1, y1, ?_⟩
            rw [zipped_length] at hi
            omega
          · obtain ⟨x, y, h1, h2, rfl⟩ := zipped_get _ _ _ _ hw
            obtain ⟨⟨xs', x', x1, x2⟩, g1⟩ := qa.2 x h1
            obtain ⟨⟨ys', y', y1, y2⟩, g2⟩ := qb.2 y h2
            refine ⟨⟨xs', ys', x', y', x1, y1, x2, y2⟩, fun v H'' yy => ?_⟩
            obtain ⟨T, x3, y3, rfl, hT, rfl, hx, hy⟩ := yy
            obtain ⟨_, rx⟩ := g1 x3 H' ⟨rfl, hx⟩
            obtain ⟨_, ry⟩ := g2 y3 H' ⟨rfl, hy⟩
            exact ⟨.inr ⟨T, _, hT, rfl⟩, new_pair hm' hT rx ry⟩
  · exact hp2.elim
end
end Mir

namespace Mir
open PySem PySem.Spec PyProof.Rows L2

/-! ### list comprehensions -/
abbrev U0 : WX := fun _ _ _ _ => False
def bYes : EX Bool := fun _ m => .ok true m
theorem impTs {X : Cx} {es : List Expr} {t t' : TT} (h : PTs X es t) (i : ∀ σ H Q, t' σ H Q → t σ H Q) : PTs X es t' := ⟨fun pins s σ H Q I hw => h.run pins s σ H Q I (i σ H Q hw)⟩
theorem ts_nil {X : Cx} {U : WX} : PTs X [] (TB X.K U bYes) := impTs pts_nil fun σ H Q ⟨c, s, m, hs, hm, hp⟩ => hp.ok hm
theorem ts_one {X : Cx} {U : WX} {e : Expr} {g : EX Bool} (h : PT X e (TB X.K U g)) : PTs X [e] (TB X.K U g) := pts_one h
def wipeE (s : Ev) : List Nat → Ev
  | [] => s
  | v :: vs => (wipeE s vs).set v none
theorem SRel.wipe {K : PySem.W.Frag} {c : Cfg} {H : Hp} {s : Ev} {σ : L2.St} (h : SRel K c H s σ) : ∀ vs : List Nat, SRel K c H (wipeE s vs) (L2.wipe σ vs)
  | [] => h
  | v :: vs => by
    have ih := SRel.wipe h vs
    refine ⟨by simp [wipeE, L2.wipe, ih.1], fun i w q => ?_⟩
    unfold wipeE at q
    unfold L2.wipe
    by_cases e : v = i
    · subst e
      by_cases hl : v < (wipeE s vs).length
      · rw [List.getElem?_set_self hl] at q; cases q
      · rw [List.getElem?_eq_none (by simpa using hl)] at q; cases q
    · rw [List.getElem?_set_ne e] at q ⊢
      exact ih.2 i w q
/-- the turns: what stands at the source must stay -/
def lcGo (gs : List (Nat × List W)) (t : Tg) (g : EX Bool) (f : EX W) (s : Ev) : List W → Hm → Res (List W)
  | [], m => if gOk m gs = true then .ok [] m else .stuck
  | w :: r, m => if gOk m gs = true then (match t.put w s with
    | none => .stuck
    | some s1 => match g s1 m with
      | .ok b m1 => if b = true then (match f s1 m1 with
          | .ok y m2 => (lcGo gs t g f s r m2).bind fun ys m3 => .ok (y :: ys) m3
          | _ => .stuck) else lcGo gs t g f s r m1
      | _ => .stuck) else .stuck
def lcFin (ws : List W) (m : Hm) : Res W := match allP ws with
  | some ds => .ok (.p (.list ds)) m
  | none => .stuck
def lcFinL (ws : List W) (m : Hm) : Res W := .ok (.loc m.length) (m ++ [.lst ws])
def eLc (fin : List W → Hm → Res W) (src : IX) (t : Tg) (g : EX Bool) (f : EX W) (vs : List Nat) : EX W := fun s m => (src s m).bind fun sc m1 => if decide (sc.items.length ≤ sizeLine) = true then (lcGo sc.gs t g f (wipeE s vs) sc.items m1).bind fin else .stuck
/-- how the new list is taken -/
def FinOk (fin : List W → Hm → Res W) : Prop := ∀ (K : PySem.W.Frag) (U : WX) (σ : L2.St) (c : Cfg) (rho : List Addr) (H1 H : Hp) (m1 m : Hm) (D : Addr) (acc : List V) (ws : List W) (Q : VK), H1 D = none → HRel K c m1 H1 → Ext c H1 ⟨(D, .lst acc) :: c.fb, rho⟩ H →
  HRel K ⟨(D, .lst acc) :: c.fb, rho⟩ m H → RpWs K ⟨(D, .lst acc) :: c.fb, rho⟩ H acc ws → acc.length ≤ sizeLine → Post K U σ c H1 (RQ K Q) (fin ws m) → Q (.ref D) H
section
variable {K : PySem.W.Frag} {c : Cfg} {H H1 : Hp} {m : Hm}
/-- out of reach no more: fewer things are barred -/
theorem Sub.less {fb fb' : List (Addr × HO)} {rho : List Addr} (h : ∀ p ∈ fb', p ∈ fb) : Sub ⟨fb, rho⟩ H ⟨fb', rho⟩ H :=
  ⟨fun _ _ h => h, fun a o e n n2 => ⟨e, fun q => n (by
    obtain ⟨p, hp, rfl⟩ := List.mem_map.mp q
    exact List.mem_map.mpr ⟨p, h p hp, rfl⟩), n2⟩⟩
theorem HRel.less {fb fb' : List (Addr × HO)} {rho : List Addr} (hm : HRel K ⟨fb, rho⟩ m H) (h : ∀ p ∈ fb', p ∈ fb) : HRel K ⟨fb', rho⟩ m H :=
  hm.sub (Sub.less h) rfl (fun _ _ => rfl) (fun p hp => hm.fb p (h p hp)) fun a ha => hm.dj a (by
    obtain ⟨p, hp, rfl⟩ := List.mem_map.mp ha
    exact List.mem_map.mpr ⟨p, h p hp, rfl⟩)
/-- from the beginning to what it has become, without the bar at D -/
theorem Ext.drop {D : Addr} {o : HO} {rho : List Addr} (e : Ext c H1 ⟨(D, o) :: c.fb, rho⟩ H) : Ext c H1 ⟨c.fb, rho⟩ H := ⟨⟨[], rfl, fun _ h => nomatch h⟩, e.rho, e.keep, e.live⟩
end
theorem lcFin_ok : FinOk lcFin := by
  intro K U σ c rho H1 H m1 m D acc ws Q hD h1 e hm r z hp
  unfold lcFin at hp
  split at hp
  · rename_i ds ed
    have hm' := hm.less (fb' := c.fb) fun p hp => List.mem_cons_of_mem _ hp
    exact hp ⟨c.fb, rho⟩ H e.drop hm' _ (.p (.lst (hm.fb _ List.mem_cons_self) (h1.free hD).1 (hm.dj D (by simp)) z (allP_rp (r.sub (Sub.less fun p hp => List.mem_cons_of_mem _ hp)) ed)))
  · exact hp.elim
theorem lcFinL_ok : FinOk lcFinL := by
  intro K U σ c rho H1 H m1 m D acc ws Q hD h1 e hm r z hp
  have hDs : H D = some (.lst acc) := hm.fb _ List.mem_cons_self
  have hDr : D ∉ rho := hm.dj D (by simp)
  have sb : Sub ⟨(D, .lst acc) :: c.fb, rho⟩ H ⟨c.fb, rho ++ [D]⟩ H := by
    refine ⟨fun n a h => ?_, fun a o h n n2 => ⟨h, fun q => n (by simp at q ⊢; exact .inr q), fun q => ?_⟩⟩
    · show (rho ++ [D])[n]? = some a
      rw [List.getElem?_append_left (List.getElem?_eq_some_iff.mp h).1]
      exact h
    · rcases List.mem_append.mp q with q | q
      · exact n2 q
      · simp at q; subst q; exact n (by simp)
  have hl : rho.length = m.length := hm.len
  have hm' : HRel K ⟨c.fb, rho ++ [D]⟩ (m ++ [.lst ws]) H := by
    refine ⟨by simp [hl], ?_, fun p hp => hm.fb p (List.mem_cons_of_mem _ hp), fun a ha q => ?_, fun n y hy => ?_⟩
    · rw [List.nodup_append]
      exact ⟨hm.nd, by simp, fun a ha b hb => by simp at hb; subst hb; intro q; subst q; exact hDr ha⟩
    · rcases List.mem_append.mp q with q | q
      · exact hm.dj a (by simp at ha ⊢; exact .inr ha) q
      · simp at q; subst q; exact (h1.free hD).1 ha
    · by_cases hn : n < m.length
      · rw [List.getElem?_append_left hn] at hy
        obtain ⟨a, ha, ok⟩ := hm.at_ n y hy
        exact ⟨a, sb.at_ _ _ ha, ok.sub sb rfl⟩
      · rw [List.getElem?_append_right (by omega)] at hy
        have e0 : n - m.length = 0 := by
          cases q : n - m.length with
          | zero => rfl
          | succ k => rw [q] at hy; simp at hy
        rw [e0] at hy
        simp at hy
        subst hy
        have hn' : n = rho.length := by omega
        exact ⟨D, by subst hn'; simp, acc, hDs, z, r.sub sb⟩
  obtain ⟨l, hl2, hn⟩ := e.rho
  have hl2 : rho = c.rho ++ l := hl2
  refine hp ⟨c.fb, rho ++ [D]⟩ H ⟨⟨[], rfl, fun _ h => nomatch h⟩, ⟨l ++ [D], by rw [hl2]; simp, fun a ha => ?_⟩, e.keep, e.live⟩ hm' _ (.loc ?_)
  · rcases List.mem_append.mp ha with q | q
    · exact hn a q
    · simp at q; subst q; exact hD
  · rw [← hl]; simp
theorem yld_ext {K : PySem.W.Frag} {c : Cfg} {H H' : Hp} {m : Hm} (hm : HRel K c m H) (h : H' = H ∨ ∃ p o, H p = none ∧ H' = upd H p o) : Ext c H c H' ∧ HRel K c m H' := by
  rcases h with rfl | ⟨p, o, hp, rfl⟩
  · exact ⟨.refl, hm⟩
  · exact ⟨.new hp, hm.new hp⟩
/-- the list at D has one more -/
theorem lc_put {K : PySem.W.Frag} {c c4 : Cfg} {rho : List Addr} {H1 H H4 : Hp} {m4 : Hm} {D : Addr} {acc : List V} {ws : List W} {y : V} {w : W} {m1 : Hm} (h1 : HRel K c m1 H1) (hD : H1 D = none) (e : Ext c H1 ⟨(D, .lst acc) :: c.fb, rho⟩ H) (e4 : Ext ⟨(D, .lst acc) :: c.fb, rho⟩ H c4 H4)
    (hm4 : HRel K c4 m4 H4) (r : RpWs K ⟨(D, .lst acc) :: c.fb, rho⟩ H acc ws) (ry : RpW K c4 H4 y w) :
    H4 D = some (.lst acc) ∧ Ext c H1 ⟨(D, .lst (acc ++ [y])) :: c.fb, c4.rho⟩ (upd H4 D (.lst (acc ++ [y]))) ∧ HRel K ⟨(D, .lst (acc ++ [y])) :: c.fb, c4.rho⟩ m4 (upd H4 D (.lst (acc ++ [y]))) ∧
      RpWs K ⟨(D, .lst (acc ++ [y])) :: c.fb, c4.rho⟩ (upd H4 D (.lst (acc ++ [y]))) (acc ++ [y]) (ws ++ [w]) := by
  have sub : ∀ p ∈ (D, HO.lst acc) :: c.fb, p ∈ c4.fb := e4.sub_fb
  have hDs : H4 D = some (.lst acc) := hm4.fb _ (sub _ List.mem_cons_self)
  have hDf : D ∈ c4.fa := List.mem_map.mpr ⟨_, sub _ List.mem_cons_self, rfl⟩
  have hfa : ∀ a ∈ (D :: c.fa), a ∈ c4.fa := fun a ha => by
    rcases List.mem_cons.mp ha with rfl | ha
    · exact hDf
    · obtain ⟨p, hp, rfl⟩ := List.mem_map.mp ha
      exact List.mem_map.mpr ⟨p, sub p (List.mem_cons_of_mem _ hp), rfl⟩
  have sb : Sub c4 H4 ⟨(D, .lst (acc ++ [y])) :: c.fb, c4.rho⟩ (upd H4 D (.lst (acc ++ [y]))) := by
    refine ⟨fun _ _ h => h, fun a o h n n2 => ⟨?_, fun q => n (hfa a q), n2⟩⟩
    rw [upd_ne fun q => n (by rw [q]; exact hDf)]
    exact h
  have ne : ∀ p ∈ c.fb, p.1 ≠ D := fun p hp q => by
    have := h1.fb p hp
    rw [q, hD] at this; cases this
  refine ⟨hDs, ⟨⟨[(D, .lst (acc ++ [y]))], rfl, fun p hp => by simp at hp; subst hp; exact hD⟩, (e.trans e4).rho, fun a o h n n2 => ?_, fun a h => ?_⟩, ?_, ?_⟩
  · rw [upd_ne (ne_of_none h hD)]
    exact (e.trans e4).keep a o h n n2
  · by_cases q : a = D
    · subst q; exact hD
    · rw [upd_ne q] at h; exact (e.trans e4).live a h
  · refine hm4.sub sb rfl (fun a ha => upd_ne fun q => hm4.dj D hDf (by rw [← q]; exact ha)) (fun p hp => ?_) fun a ha => hm4.dj a (hfa a ha)
    rcases List.mem_cons.mp hp with rfl | hp
    · exact upd_same
    · rw [upd_ne (ne p hp)]
      exact hm4.fb p (sub p (List.mem_cons_of_mem _ hp))
  · exact ((r.mono e4).append (.cons ry .nil)).sub sb
theorem Res.bind_assoc {α β γ : Type} {r : Res α} {k : α → Hm → Res β} {l : β → Hm → Res γ} : (r.bind k).bind l = r.bind fun a m => (k a m).bind l := by cases r <;> rfl
theorem wipe_get {σ : L2.St} {i : Nat} : ∀ {vs : List Nat}, i ∈ vs → i < σ.length → (wipe σ vs)[i]? = some none
  | [], h, _ => by simp at h
  | v :: vs, h, hl => by
    unfold wipe
    by_cases e : v = i
    · subst e
      rw [List.getElem?_set_self (by rw [wipe_length]; exact hl)]
    · rw [List.getElem?_set_ne e]
      exact wipe_get ((List.mem_cons.mp h).resolve_left fun q => e q.symm) hl
theorem wipe_wipe (σ : L2.St) (vs : List Nat) : wipe (wipe σ vs) vs = wipe σ vs := by
  apply List.ext_getElem?
  intro i
  by_cases h : i ∈ vs
  · by_cases hl : i < σ.length
    · rw [wipe_get h (by rw [wipe_length]; exact hl), wipe_get h hl]
    · rw [List.getElem?_eq_none (by rw [wipe_length, wipe_length]; omega), List.getElem?_eq_none (by rw [wipe_length]; omega)]
  · rw [wipe_out h]
theorem lc_same {K : PySem.W.Frag} {c c4 : Cfg} {rho : List Addr} {H1 H H4 : Hp} {m4 m1 : Hm} {D : Addr} {acc : List V} {ws : List W} (hD : H1 D = none) (e : Ext c H1 ⟨(D, .lst acc) :: c.fb, rho⟩ H) (e4 : Ext ⟨(D, .lst acc) :: c.fb, rho⟩ H c4 H4)
    (hm4 : HRel K c4 m4 H4) (r : RpWs K ⟨(D, .lst acc) :: c.fb, rho⟩ H acc ws) :
    Ext c H1 ⟨(D, .lst acc) :: c.fb, c4.rho⟩ H4 ∧ HRel K ⟨(D, .lst acc) :: c.fb, c4.rho⟩ m4 H4 ∧ RpWs K ⟨(D, .lst acc) :: c.fb, c4.rho⟩ H4 acc ws := by
  have sub : ∀ p ∈ (D, HO.lst acc) :: c.fb, p ∈ c4.fb := e4.sub_fb
  exact ⟨⟨⟨[(D, .lst acc)], rfl, fun p hp => by simp at hp; subst hp; exact hD⟩, (e.trans e4).rho, (e.trans e4).keep, (e.trans e4).live⟩, HRel.less (fb := c4.fb) hm4 sub, (r.mono e4).sub (Sub.less (fb := c4.fb) sub)⟩
theorem lc_imp {K : PySem.W.Frag} {U : WX} {src : IX} {t : Tg} {g : EX Bool} {f : EX W} {fin : List W → Hm → Res W} {vs : List Nat} (ok : FinOk fin) (hv : t.inn vs = true) {σ : L2.St} {H : Hp} {Q : VK}
    (h : T K U (eLc fin src t g f vs) σ H Q) : tLc (TI' K U src) (TG' K t) (TB K U0 g) (T K U0 f) vs σ H Q := by
  obtain ⟨c, s, m, hs, hm, hp⟩ := h
  unfold eLc at hp
  refine TI'.run hs hm hp fun c1 H1 sc m1 J e1 hs1 hm1 hJ hp1 => ?_
  by_cases hz : decide (sc.items.length ≤ sizeLine) = true
  case neg => rw [if_neg hz] at hp1; exact hp1.elim
  rw [if_pos hz] at hp1
  have hz := of_decide_eq_true hz
  intro D hD
  have fr := hm1.free hD
  have sb0 : Sub c1 H1 ⟨(D, .lst []) :: c1.fb, c1.rho⟩ (upd H1 D (.lst [])) := ⟨fun _ _ h => h, fun a o h n n2 => by
    have ne : a ≠ D := ne_of_none h hD
    refine ⟨by rw [upd_ne ne]; exact h, fun q => ?_, n2⟩
    have q : a ∈ D :: c1.fa := q
    rcases List.mem_cons.mp q with q | q
    · exact ne q
    · exact n q⟩
  refine ⟨fun i me H => i ≤ sc.items.length ∧ me = sc.items.length - i ∧ ∃ rho m' ws acc, Ext c1 H1 ⟨(D, .lst acc) :: c1.fb, rho⟩ H ∧ HRel K ⟨(D, .lst acc) :: c1.fb, rho⟩ m' H ∧ RpWs K ⟨(D, .lst acc) :: c1.fb, rho⟩ H acc ws ∧ acc.length ≤ i ∧
    Post K U σ c1 H1 (RQ K Q) ((lcGo sc.gs t g f (wipeE s vs) (sc.items.drop i) m').bind fun r m2 => fin (ws ++ r) m2), ⟨sc.items.length, Nat.zero_le _, by simp, c1.rho, m1, [], [], ?_, ?_, .nil, Nat.le_refl _, by simpa using hp1⟩, ?_⟩
  · exact ⟨⟨[(D, .lst [])], rfl, fun p hp => by simp at hp; subst hp; exact hD⟩, ⟨[], by simp, fun _ h => nomatch h⟩, (Ext.new (c := c1) hD).keep, (Ext.new (c := c1) hD).live⟩
  · refine hm1.sub sb0 rfl (fun a ha => upd_ne fun q => fr.2 (by rw [← q]; exact ha)) (fun p hp => ?_) fun a ha => ?_
    · rcases List.mem_cons.mp hp with rfl | hp
      · exact upd_same
      · exact (hm1.new (o := .lst []) hD).fb p hp
    · have ha : a ∈ D :: c1.fa := ha
      rcases List.mem_cons.mp ha with rfl | ha
      · exact fr.2
      · exact hm1.dj a ha
  · rintro i me H ⟨hi, rfl, rho, m', ws, acc, e, hm', r, hl, hp'⟩
    by_cases hi2 : i < sc.items.length
    case neg =>
      have hi3 : sc.items.length ≤ i := by omega
      rw [List.drop_eq_nil_of_le hi3] at hp'
      unfold lcGo at hp'
      split at hp'
      · rename_i hg
        simp only [bind_ok, List.append_nil] at hp'
        exact .inl ⟨(hJ _ H m' e hm' hg i).1 (by omega), ok K U σ c1 rho H1 H m1 m' D acc ws Q hD hm1 e hm' r (by omega) hp'⟩
      · exact hp'.elim
    case pos =>
      rw [List.drop_eq_getElem_cons hi2] at hp'
      unfold lcGo at hp'
      by_cases hg : gOk m' sc.gs = true
      case neg => rw [if_neg hg] at hp'; exact hp'.elim
      rw [if_pos hg] at hp'
      have hw := List.getElem?_eq_getElem hi2
      obtain ⟨go, yl⟩ := (hJ _ H m' e hm' hg i).2 _ hw
      split at hp'
      · exact hp'.elim
      rename_i s1 es1
      refine .inr ⟨go, fun H' => ∃ rho m' ws acc, Ext c1 H1 ⟨(D, .lst acc) :: c1.fb, rho⟩ H' ∧ HRel K ⟨(D, .lst acc) :: c1.fb, rho⟩ m' H' ∧ RpWs K ⟨(D, .lst acc) :: c1.fb, rho⟩ H' acc ws ∧ acc.length ≤ i + 1 ∧
        Post K U σ c1 H1 (RQ K Q) ((lcGo sc.gs t g f (wipeE s vs) (sc.items.drop (i + 1)) m').bind fun r m2 => fin (ws ++ r) m2), fun H' q => ⟨_, by omega, by omega, rfl, q⟩, fun x H' y => ?_⟩
      obtain ⟨yy, rx⟩ := yl x H' y
      obtain ⟨ey, hmy⟩ := yld_ext hm' yy
      have e2 := e.trans ey
      refine ⟨_, wipeE s vs, _, s1, ((hs1.mono e2).wipe vs), rx, es1, fun σ2 hs2 hwp => ⟨?_, ?_⟩⟩
      · have := hwp vs hv
        rw [this]
        exact wipe_wipe σ vs
      · refine ⟨_, s1, m', hs2, hmy, ?_⟩
        cases eg : g s1 m' with
        | stuck => rw [eg] at hp'; exact hp'.elim
        | exc x m2 => rw [eg] at hp'; exact hp'.elim
        | ok b m2 =>
          rw [eg] at hp'
          intro c3 H3 e3 hm3
          cases b with
          | false =>
            simp only [Bool.false_eq_true, if_false] at hp' ⊢
            obtain ⟨p2, p3, p4⟩ := lc_same (m1 := m1) hD e2 e3 hm3 (r.mono ey)
            exact ⟨c3.rho, m2, ws, acc, p2, p3, p4, by omega, hp'⟩
          | true =>
            simp only [if_true] at hp' ⊢
            refine ⟨c3, s1, m2, hs2.mono e3, hm3, ?_⟩
            cases ef : f s1 m2 with
            | stuck => rw [ef] at hp'; exact hp'.elim
            | exc x m3 => rw [ef] at hp'; exact hp'.elim
            | ok w m3 =>
              rw [ef] at hp'
              intro c4 H4 e4 hm4 v rv
              obtain ⟨p1, p2, p3, p4⟩ := lc_put hm1 hD e2 (e3.trans e4) hm4 (r.mono ey) rv
              refine ⟨acc, p1, by omega, c4.rho, m3, ws ++ [w], acc ++ [v], p2, p3, p4, by simp; omega, ?_⟩
              have hp' : Post K U σ c1 H1 (RQ K Q) (((lcGo sc.gs t g f (wipeE s vs) (List.drop (i + 1) sc.items) m3).bind fun ys m3 => Res.ok (w :: ys) m3).bind fun r m2 => fin (ws ++ r) m2) := hp'
              rw [Res.bind_assoc] at hp'
              simpa [List.append_assoc] using hp'
section
variable {X : Cx} {elt tg iter : Expr} {ifs : List Expr} {scope : Scope} {own : List (Str × Nat)} {pos spos py : Pos} {src : IX} {t : Tg} {g : EX Bool} {f : EX W} {fin : List W → Hm → Res W} {U : WX}
theorem x_lc (ok : FinOk fin) (hv : t.inn (own.map (·.2)) = true) (hc : X.calm = true) (hN : X.N.Nodup) (hi : PI X tg iter (TI' X.K U src)) (bo : BlkOk X.N X.env.scope scope own)
    (hg : ∀ (s : Shared) (H : Hp) (C : Addr) (cl : List (Str × Addr)) (fp : List Addr), PG (X.blk s H scope (compEnvC scope cl C X.env) fp) tg (TG' X.K t)) (ht : ∀ (s : Shared) (H : Hp) (C : Addr) (cl : List (Str × Addr)) (fp : List Addr), PTs (X.blk s H scope (compEnvC scope cl C X.env) fp) ifs (TB X.K U0 g))
    (he : ∀ (s : Shared) (H : Hp) (C : Addr) (cl : List (Str × Addr)) (fp : List Addr), PE (X.blk s H scope (compEnvC scope cl C X.env) fp) elt (T X.K U0 f)) (hs : ∀ x, foldedSetIterable iter X.env x = pure x := by intro _; rfl) :
    PE X (.ListComp elt [⟨tg, iter, ifs, 0⟩] scope pos) (T X.K U (eLc fin src t g f (own.map (·.2)))) :=
  imp (pe_lc hc hN hi bo hg ht he hs) fun _ _ _ h => lc_imp ok hv h
end
end Mir

namespace Mir
open PySem PySem.Spec PyProof.Rows L2

/-! ### statements -/
inductive Out where
  | nx (s : Ev)
  | rt (w : W)
  | bk (s : Ev)
  | ct (s : Ev)
  | ex (x : Exn) (s : Ev)
abbrev SR := Option (Out × Hm)
abbrev SX := Ev → Hm → SR
def Res.st {α : Type} (r : Res α) (s : Ev) (k : α → Hm → SR) : SR := match r with
  | .stuck => none
  | .ok a m => k a m
  | .exc x m => some (.ex x s, m)
@[simp] theorem st_stuck {α : Type} {s : Ev} {k : α → Hm → SR} : (Res.stuck : Res α).st s k = none := rfl
@[simp] theorem st_ok {α : Type} {a : α} {m : Hm} {s : Ev} {k : α → Hm → SR} : (Res.ok a m).st s k = k a m := rfl
@[simp] theorem st_exc {α : Type} {x : Exn} {m : Hm} {s : Ev} {k : α → Hm → SR} : (Res.exc x m : Res α).st s k = some (.ex x s, m) := rfl
def PostO (K : PySem.W.Frag) (U : WX) (D : Ends) (c : Cfg) (H : Hp) (o : Out) : Prop := match o with
  | .nx s => ∀ σ, SRel K c H s σ → D.nx σ H
  | .rt w => ∀ v, RpW K c H v w → D.rt v H
  | .bk s => ∀ σ, SRel K c H s σ → D.bk σ H
  | .ct s => ∀ σ, SRel K c H s σ → D.ct σ H
  | .ex x s => ∀ σ cls dx, SRel K c H s σ → XRel K c H x cls dx → U cls dx σ H
def PostS (K : PySem.W.Frag) (U : WX) (D : Ends) (c : Cfg) (H : Hp) : SR → Prop
  | none => False
  | some (o, m') => ∀ c' H', Ext c H c' H' → HRel K c' m' H' → PostO K U D c' H' o
def TSt (K : PySem.W.Frag) (U : WX) (f : SX) : TS := fun D σ H => ∃ c s m, SRel K c H s σ ∧ HRel K c m H ∧ PostS K U D c H (f s m)
section
variable {K : PySem.W.Frag} {U : WX} {σ : L2.St} {c c1 : Cfg} {H H1 : Hp} {m : Hm} {s : Ev} {D : Ends}
theorem PostS.ext {r : SR} (e : Ext c H c1 H1) (h : PostS K U D c H r) : PostS K U D c1 H1 r := by
  cases r with
  | none => exact h
  | some p => exact fun c' H' e' hm => h c' H' (e.trans e') hm
theorem PostS.ok {o : Out} (h : PostS K U D c H (some (o, m))) (hm : HRel K c m H) : PostO K U D c H o := h c H Ext.refl hm
theorem Post.st {α : Type} {r : Res α} {k : α → Hm → SR} {R : Cfg → Hp → α → Hm → Prop} (hs : SRel K c H s σ) (hp : PostS K U D c H (r.st s k))
    (h : ∀ c1 H1 a m1, Ext c H c1 H1 → SRel K c1 H1 s σ → HRel K c1 m1 H1 → PostS K U D c1 H1 (k a m1) → R c1 H1 a m1) : Post K U σ c H R r := by
  cases r with
  | stuck => exact hp
  | ok a m' => exact fun c' H' e' hm' => h c' H' a m' e' (hs.mono e') hm' (hp.ext e')
  | exc x m' => exact fun c' H' cls dx e' hm' xr => hp c' H' e' hm' σ cls dx (hs.mono e') xr
end
section
variable {X : Cx} {st : Stmt} {rest : List Stmt} {f g : SX} {e : Expr} {pos : Pos} {U : WX}
def sSkip : SX := fun s m => some (.nx s, m)
theorem ss_nil : PSs X [] (TSt X.K U sSkip) := impSs pss_nil fun D σ H ⟨c, s, m, hs, hm, hp⟩ => hp.ok hm σ hs
theorem s_pass : PS X (.Pass pos) (TSt X.K U sSkip) := impS ps_pass fun D σ H ⟨c, s, m, hs, hm, hp⟩ => hp.ok hm σ hs
def sSeq (f g : SX) : SX := fun s m => match f s m with
  | some (.nx s1, m1) => g s1 m1
  | r => r
theorem seq_imp {K : PySem.W.Frag} {D : Ends} {σ : L2.St} {H : Hp} (h : TSt K U (sSeq f g) D σ H) : tSeq (TSt K U f) (TSt K U g) D σ H := by
  obtain ⟨c, s, m, hs, hm, hp⟩ := h
  refine ⟨c, s, m, hs, hm, ?_⟩
  unfold sSeq at hp
  cases e : f s m with
  | none => rw [e] at hp; exact hp
  | some p =>
    obtain ⟨o, m'⟩ := p
    rw [e] at hp
    cases o with
    | nx s1 => exact fun c' H' e' hm' σ1 hs1 => ⟨c', s1, m', hs1, hm', hp.ext e'⟩
    | rt w => exact hp
    | bk s => exact hp
    | ct s => exact hp
    | ex x s => exact hp
theorem ss_cons (h1 : PS X st (TSt X.K U f)) (h2 : PSs X rest (TSt X.K U g)) : PSs X (st :: rest) (TSt X.K U (sSeq f g)) := impSs (pss_cons h1 h2) fun _ _ _ h => seq_imp h
theorem ss_one (h1 : PS X st (TSt X.K U f)) : PSs X [st] (TSt X.K U f) := pss_one h1
def sBreak : SX := fun s m => some (.bk s, m)
def sCont : SX := fun s m => some (.ct s, m)
theorem s_break : PS X (.Break pos) (TSt X.K U sBreak) := impS ps_break fun D σ H ⟨c, s, m, hs, hm, hp⟩ => hp.ok hm σ hs
theorem s_continue : PS X (.Continue pos) (TSt X.K U sCont) := impS ps_continue fun D σ H ⟨c, s, m, hs, hm, hp⟩ => hp.ok hm σ hs
theorem s_doc {x j pos pos'} : PS X (.Expr (.Constant (.str x) j pos) pos') (TSt X.K U sSkip) := impS ps_doc fun D σ H ⟨c, s, m, hs, hm, hp⟩ => hp.ok hm σ hs
/-- code that is not reached -/
def sNever : SX := fun _ _ => none
theorem s_never : PS X st (TSt X.K U sNever) := impS ps_never fun D σ H ⟨c, s, m, hs, hm, hp⟩ => hp
theorem ss_never {sts : List Stmt} : PSs X sts (TSt X.K U sNever) := impSs pss_never fun D σ H ⟨c, s, m, hs, hm, hp⟩ => hp
def sExpr (f : EX W) : SX := fun s m => (f s m).st s fun _ m1 => some (.nx s, m1)
theorem s_expr {f : EX W} (he : PE X e (T X.K U f)) (hs : swapsWith e none pos.line X.env = pure false := by rfl) : PS X (.Expr e pos) (TSt X.K U (sExpr f)) := by
  refine impS (ps_expr he hs) ?_
  rintro D σ H ⟨c, s, m, hs, hm, hp⟩
  exact ⟨c, s, m, hs, hm, Post.st hs hp fun c1 H1 a m1 e1 hs1 hm1 hp1 v rv => hp1.ok hm1 σ hs1⟩
def sRet (f : EX W) : SX := fun s m => (f s m).st s fun w m1 => some (.rt w, m1)
theorem s_ret {f : EX W} (he : PE X e (T X.K U f)) : PS X (.Return (some e) pos) (TSt X.K U (sRet f)) := by
  refine impS (ps_ret he) ?_
  rintro D σ H ⟨c, s, m, hs, hm, hp⟩
  exact ⟨c, s, m, hs, hm, Post.st hs hp fun c1 H1 a m1 e1 hs1 hm1 hp1 v rv => hp1.ok hm1 v rv⟩
def sRetN : SX := fun s m => some (.rt (.p .none), m)
theorem s_retN : PS X (.Return none pos) (TSt X.K U sRetN) := impS ps_retN fun D σ H ⟨c, s, m, hs, hm, hp⟩ => hp.ok hm .non (.p .non)
def sIf (b : EX Bool) (f g : SX) : SX := fun s m => (b s m).st s fun k m1 => if k = true then f s m1 else g s m1
theorem s_if {c : Expr} {a b : List Stmt} {t : EX Bool} (hc : PT X c (TB X.K U t)) (ha : PSs X a (TSt X.K U f)) (hb : PSs X b (TSt X.K U g)) : PS X (.If c a b pos) (TSt X.K U (sIf t f g)) := by
  refine impS (ps_if hc ha hb) ?_
  rintro D σ H ⟨c, s, m, hs, hm, hp⟩
  refine ⟨c, s, m, hs, hm, Post.st hs hp fun c1 H1 a m1 e1 hs1 hm1 hp1 => ?_⟩
  cases a with
  | true => exact ⟨c1, s, m1, hs1, hm1, hp1⟩
  | false => exact ⟨c1, s, m1, hs1, hm1, hp1⟩
def sSet (i : Nat) (f : EX W) : SX := fun s m => (f s m).st s fun w m1 => some (.nx (s.set i (some w)), m1)
theorem asg_imp {K : PySem.W.Frag} {f : EX W} {i : Nat} {D : Ends} {σ : L2.St} {H : Hp} (h : TSt K U (sSet i f) D σ H) : tAsg (T K U f) (gName i) D σ H := by
  obtain ⟨c, s, m, hs, hm, hp⟩ := h
  exact ⟨c, s, m, hs, hm, Post.st hs hp fun c1 H1 a m1 e1 hs1 hm1 hp1 v rv => hp1.ok hm1 _ (hs1.set rv)⟩
theorem s_set {i : Nat} {x : Str} {f : EX W} {pos' : Pos} (hN : X.N.Nodup) (hi : X.N[i]? = some x) (hx : Loc X.env.scope x) (he : PE X e (T X.K U f)) (hs : swapsWith e (some (.Name x pos')) pos.line X.env = pure false := by rfl) (hf : X.fn x = true ∨ X.env.scope.names.lookup x = some .local := by first | exact .inl rfl | exact .inr rfl | assumption) :
    PS X (.Assign [.Name x pos'] e pos) (TSt X.K U (sSet i f)) := impS (ps_set hN hi hx he hs hf) fun _ _ _ h => asg_imp h
/-- name = [..] with the name a local -/
theorem s_setLc {i : Nat} {y : Str} {py : Pos} {elt tg iter : Expr} {ifs : List Expr} {scope : Scope} {own : List (Str × Nat)} {pos spos : Pos} {src : IX} {t : Tg} {g : EX Bool} {f : EX W} {fin : List W → Hm → Res W} (ok : FinOk fin) (hv : t.inn (own.map (·.2)) = true) (hc : X.calm = true) (hN : X.N.Nodup) (hy : X.N[i]? = some y) (hyl : X.env.scope.names.lookup y = some .local)
    (hsw : swapsWith (.ListComp elt [⟨tg, iter, ifs, 0⟩] scope pos) (some (.Name y py)) spos.line X.env = pure true) (hi : PI X tg iter (TI' X.K U src)) (bo : BlkOk X.N X.env.scope scope own)
    (hg : ∀ (s : Shared) (H : Hp) (C : Addr) (cl : List (Str × Addr)) (fp : List Addr), PG (X.blk s H scope (compEnvC scope cl C X.env) fp) tg (TG' X.K t)) (ht : ∀ (s : Shared) (H : Hp) (C : Addr) (cl : List (Str × Addr)) (fp : List Addr), PTs (X.blk s H scope (compEnvC scope cl C X.env) fp) ifs (TB X.K U0 g))
    (he : ∀ (s : Shared) (H : Hp) (C : Addr) (cl : List (Str × Addr)) (fp : List Addr), PE (X.blk s H scope (compEnvC scope cl C X.env) fp) elt (T X.K U0 f)) (hs : ∀ x, foldedSetIterable iter X.env x = pure x := by intro _; rfl) :
    PS X (.Assign [.Name y py] (.ListComp elt [⟨tg, iter, ifs, 0⟩] scope pos) spos) (TSt X.K U (sSet i (eLc fin src t g f (own.map (·.2))))) := by
  refine impS (ps_setLc hc hN hy hyl hsw hi bo hg ht he hs) fun D σ H h => ?_
  obtain ⟨c, s, m, hs, hm, hp⟩ := h
  exact lc_imp ok hv ⟨c, s, m, hs, hm, Post.st hs hp fun c1 H1 a m1 e1 hs1 hm1 hp1 v rv => hp1.ok hm1 _ (hs1.set rv)⟩
/-- names = value -/
def sPut (t : Tg) (f : EX W) : SX := fun s m => (f s m).st s fun w m1 => match t.put w s with
  | some s1 => some (.nx s1, m1)
  | none => none
theorem s_put {tg : Expr} {t : Tg} {f : EX W} (he : PE X e (T X.K U f)) (hg : PG X tg (TG' X.K t)) (hs : swapsWithSole [tg] e pos.line X.env = pure false := by rfl) (hw : swappedStores [tg] e X.env = pure none := by rfl)
    (h1 : (assignEach [tg] X.env).map (·.2) = [assign tg X.env] := by rfl) : PS X (.Assign [tg] e pos) (TSt X.K U (sPut t f)) := by
  refine impS (ps_asg he hg hs hw h1) fun D σ H h => ?_
  obtain ⟨c, s, m, hs, hm, hp⟩ := h
  refine ⟨c, s, m, hs, hm, Post.st hs hp fun c1 H1 a m1 e1 hs1 hm1 hp1 v rv => ?_⟩
  split at hp1
  · rename_i s1 e1
    exact ⟨c1, s, a, s1, hs1, rv, e1, fun σ' hs' _ => hp1.ok hm1 σ' hs'⟩
  · exact hp1.elim
/-- o[i] = value, a list's place -/
def setIx (o i w : W) (m : Hm) : Option Hm := match o, i with
  | .loc n, .p (.int i) => match m[n]? with
    | some (.lst ws) => (match ixN ws.length i with
      | some k => some (m.set n (.lst (ws.set k w)))
      | none => none)
    | _ => none
  | _, _ => none
def sSetIx (fo fi f : EX W) : SX := fun s m => (f s m).st s fun w m1 => (fo s m1).st s fun o m2 => (fi s m2).st s fun i m3 => match setIx o i w m3 with
  | some m4 => some (.nx s, m4)
  | none => none
theorem g_subL {o i : Expr} {fo fi : EX W} (ho : PE X o (T X.K U fo)) (hi : PE X i (T X.K U fi))
    (ha : ∀ v, assign (.Subscript o i pos) X.env v = (do
      let ov ← holding [v] (eval o X.env)
      let iv ← holding [v, ov] (eval i X.env)
      standAt pos
      holding [v, ov, iv] (setItem ov iv v)
      release [v, ov, iv] []) := by intro _; rfl) : PG X (.Subscript o i pos) (gSub (T X.K U fo) (T X.K U fi) rSetL) := pg_sub ho hi set_list ha
theorem s_setIx {o i : Expr} {pos' : Pos} {fo fi f : EX W} (he : PE X e (T X.K U f)) (ho : PE X o (T X.K U fo)) (hi : PE X i (T X.K U fi))
    (ha : ∀ v, assign (.Subscript o i pos') X.env v = (do
      let ov ← holding [v] (eval o X.env)
      let iv ← holding [v, ov] (eval i X.env)
      standAt pos'
      holding [v, ov, iv] (setItem ov iv v)
      release [v, ov, iv] []) := by intro _; rfl)
    (hs : swapsWithSole [.Subscript o i pos'] e pos.line X.env = pure false := by rfl) (hw : swappedStores [.Subscript o i pos'] e X.env = pure none := by rfl)
    (h1 : (assignEach [.Subscript o i pos'] X.env).map (·.2) = [assign (.Subscript o i pos') X.env] := by rfl) : PS X (.Assign [.Subscript o i pos'] e pos) (TSt X.K U (sSetIx fo fi f)) := by
  refine impS (ps_asg he (g_subL ho hi ha) hs hw h1) fun D σ H h => ?_
  obtain ⟨c, s, m, hs, hm, hp⟩ := h
  refine ⟨c, s, m, hs, hm, Post.st hs hp fun c1 H1 w m1 e1 hs1 hm1 hp1 v rv => ?_⟩
  refine ⟨c1, s, m1, hs1, hm1, Post.st hs1 hp1 fun c2 H2 o m2 e2 hs2 hm2 hp2 ov ro => ?_⟩
  refine ⟨c2, s, m2, hs2, hm2, Post.st hs2 hp2 fun c3 H3 i m3 e3 hs3 hm3 hp3 iv ri => ?_⟩
  have rv := (rv.mono e2).mono e3
  have ro := ro.mono e3
  split at hp3
  · rename_i m4 e4
    unfold setIx at e4
    split at e4
    · rename_i n k
      split at e4
      · rename_i ws q
        split at e4
        · rename_i j ej
          cases e4
          cases ro with | loc h =>
          cases ri with | p ri =>
          cases ri
          obtain ⟨xs, hx, z, rr⟩ := hm3.lst h q
          have ex : Ext c3 H3 c3 (upd H3 _ (.lst (xs.set j v))) := Ext.write h
          refine ⟨_, xs, _, j, rfl, rfl, hx, by rw [rr.length]; exact ej, ?_⟩
          exact hp3 c3 _ ex (hm3.write h ⟨_, upd_same, by simpa using z, (rr.set j rv).mono ex⟩) σ (hs3.mono ex)
        · cases e4
      · cases e4
    · cases e4
  · exact hp3.elim

/-! ### loops -/
def forGo (gs : List (Nat × List W)) (t : Tg) (body : SX) : List W → SX
  | [], s, m => if gOk m gs = true then some (.nx s, m) else none
  | w :: r, s, m => if gOk m gs = true then (match t.put w s with
    | none => none
    | some s1 => match body s1 m with
      | some (.nx s2, m2) => forGo gs t body r s2 m2
      | some (.ct s2, m2) => forGo gs t body r s2 m2
      | some (.bk s2, m2) => some (.nx s2, m2)
      | o => o) else none
def sFor (src : IX) (t : Tg) (body : SX) : SX := fun s m => (src s m).st s fun sc m1 => forGo sc.gs t body sc.items s m1
theorem for_imp {K : PySem.W.Frag} {src : IX} {t : Tg} {body : SX} {D : Ends} {σ : L2.St} {H : Hp} (h : TSt K U (sFor src t body) D σ H) : tFor (TI' K U src) (TG' K t) (TSt K U body) D σ H := by
  obtain ⟨c, s, m, hs, hm, hp⟩ := h
  refine ⟨c, s, m, hs, hm, Post.st hs hp fun c1 H1 sc m1 e1 hs1 hm1 hp1 J hJ => ?_⟩
  refine ⟨fun i me σ H => i ≤ sc.items.length ∧ me = sc.items.length - i ∧ ∃ c s m, Ext c1 H1 c H ∧ SRel K c H s σ ∧ HRel K c m H ∧ PostS K U D c H (forGo sc.gs t body (sc.items.drop i) s m), ⟨sc.items.length, Nat.zero_le _, by simp, c1, s, m1, .refl, hs1, hm1, by simpa using hp1⟩, ?_⟩
  rintro i me σ H ⟨hi, rfl, c, s, m, e, hs, hm, hp⟩
  by_cases hi2 : i < sc.items.length
  case neg =>
    have hi3 : sc.items.length ≤ i := by omega
    rw [List.drop_eq_nil_of_le hi3] at hp
    unfold forGo at hp
    by_cases hg : gOk m sc.gs = true
    case neg => rw [if_neg hg] at hp; exact hp.elim
    rw [if_pos hg] at hp
    exact .inl ⟨(hJ _ H m e hm hg i).1 (by omega), hp.ok hm σ hs⟩
  case pos =>
    rw [List.drop_eq_getElem_cons hi2] at hp
    unfold forGo at hp
    by_cases hg : gOk m sc.gs = true
    case neg => rw [if_neg hg] at hp; exact hp.elim
    rw [if_pos hg] at hp
    obtain ⟨go, yl⟩ := (hJ _ H m e hm hg i).2 _ (List.getElem?_eq_getElem hi2)
    cases es : t.put sc.items[i] s with
    | none => rw [es] at hp; exact hp.elim
    | some s1 =>
      rw [es] at hp
      refine .inr ⟨go, fun σ H' => ∃ c s m, Ext c1 H1 c H' ∧ SRel K c H' s σ ∧ HRel K c m H' ∧ PostS K U D c H' (forGo sc.gs t body (sc.items.drop (i + 1)) s m), fun σ' H' q => ⟨_, by omega, by omega, rfl, q⟩, fun x H' y => ?_⟩
      obtain ⟨yy, rx⟩ := yl x H' y
      obtain ⟨ey, hmy⟩ := yld_ext hm yy
      refine ⟨c, s, _, s1, hs.mono ey, rx, es, fun σ2 hs2 _ => ⟨c, s1, m, hs2, hmy, ?_⟩⟩
      have hp := hp.ext ey
      have e2 := e.trans ey
      cases eb : body s1 m with
      | none => simp only [eb] at hp; exact hp.elim
      | some p =>
        obtain ⟨o, m2⟩ := p
        simp only [eb] at hp
        intro c3 H3 e3 hm3
        cases o with
        | nx s2 => exact fun σ3 hs3 => ⟨c3, s2, m2, e2.trans e3, hs3, hm3, hp.ext e3⟩
        | ct s2 => exact fun σ3 hs3 => ⟨c3, s2, m2, e2.trans e3, hs3, hm3, hp.ext e3⟩
        | bk s2 => exact hp c3 H3 e3 hm3
        | rt w => exact hp c3 H3 e3 hm3
        | ex x s2 => exact hp c3 H3 e3 hm3
theorem s_for {tg iter : Expr} {body : List Stmt} {src : IX} {t : Tg} {f : SX} (hp : PassesOwn (model X.prog X.w) X.A X.env X.xe) (hc : X.calm = true) (hi : PI X tg iter (TI' X.K U src)) (hg : PG X tg (TG' X.K t)) (hb : PSs X body (TSt X.K U f))
    (hs : ∀ x, foldedSetIterable iter X.env x = pure x := by intro _; rfl) : PS X (.For tg iter body [] pos) (TSt X.K U (sFor src t f)) := impS (ps_for hp hc hi hg hb hs) fun _ _ _ h => for_imp h
def whGo (b : EX Bool) (body : SX) : Nat → SX
  | 0, _, _ => none
  | n + 1, s, m => (b s m).st s fun k m1 => if k = true then (match body s m1 with
    | some (.nx s2, m2) => whGo b body n s2 m2
    | some (.ct s2, m2) => whGo b body n s2 m2
    | some (.bk s2, m2) => some (.nx s2, m2)
    | o => o) else some (.nx s, m1)
/-- fuel by the state at the start -/
def sWhile (fu : Nat) (b : EX Bool) (body : SX) : SX := whGo b body fu
theorem while_imp {K : PySem.W.Frag} {fu : Nat} {b : EX Bool} {body : SX} {D : Ends} {σ : L2.St} {H : Hp} (h : TSt K U (sWhile fu b body) D σ H) : tWhile (TB K U b) (TSt K U body) D σ H := by
  refine ⟨fun n σ H => ∃ c s m, SRel K c H s σ ∧ HRel K c m H ∧ PostS K U D c H (whGo b body n s m), ⟨fu, h⟩, ?_⟩
  rintro n σ H ⟨c, s, m, hs, hm, hp⟩
  cases n with
  | zero => exact hp.elim
  | succ n =>
    unfold whGo at hp
    refine ⟨c, s, m, hs, hm, Post.st hs hp fun c1 H1 k m1 e1 hs1 hm1 hp1 => ?_⟩
    cases k with
    | false => exact hp1.ok hm1 σ hs1
    | true =>
      simp only [if_true] at hp1 ⊢
      refine ⟨fun σ H => ∃ c s m, SRel K c H s σ ∧ HRel K c m H ∧ PostS K U D c H (whGo b body n s m), fun σ' H' q => ⟨n, Nat.lt_succ_self n, q⟩, c1, s, m1, hs1, hm1, ?_⟩
      cases eb : body s m1 with
      | none => simp only [eb] at hp1; exact hp1.elim
      | some p =>
        obtain ⟨o, m2⟩ := p
        simp only [eb] at hp1
        intro c3 H3 e3 hm3
        cases o with
        | nx s2 => exact fun σ3 hs3 => ⟨c3, s2, m2, hs3, hm3, hp1.ext e3⟩
        | ct s2 => exact fun σ3 hs3 => ⟨c3, s2, m2, hs3, hm3, hp1.ext e3⟩
        | bk s2 => exact hp1 c3 H3 e3 hm3
        | rt w => exact hp1 c3 H3 e3 hm3
        | ex x s2 => exact hp1 c3 H3 e3 hm3
theorem s_while {fu : Nat} {c : Expr} {body : List Stmt} {b : EX Bool} {f : SX} (hp : PassesOwn (model X.prog X.w) X.A X.env X.xe) (hc : PT X c (TB X.K U b)) (hb : PSs X body (TSt X.K U f)) : PS X (.While c body [] pos) (TSt X.K U (sWhile fu b f)) := impS (ps_while hp hc hb) fun _ _ _ h => while_imp h
end
end Mir

namespace Mir
open PySem PySem.Spec PyProof.Rows L2

/-! ### letting go of cells -/
mutual
def okW (k : Nat) : W → Bool
  | .p _ => true
  | .ro _ => true
  | .loc n => decide (n < k)
  | .tw ws => okWs k ws
  | .kt _ => true
def okWs (k : Nat) : List W → Bool
  | [] => true
  | w :: ws => okW k w && okWs k ws
end
def okC (k : Nat) : Cell → Bool
  | .lst ws => okWs k ws
  | .dct kvs => okWs k (kvs.map (·.2))
  | .dtt kvs => okWs k (kvs.map (·.2))
  | .lck kvs => okWs k (kvs.map (·.2))
  | .ins _ fs => okWs k (fs.map (·.2))
def okM (k : Nat) (m : Hm) : Bool := (m.take k).all (okC k)
def okE (k : Nat) (s : Ev) : Bool := s.all fun o => match o with
  | some w => okW k w
  | none => true
abbrev cut (k : Nat) (c : Cfg) : Cfg := ⟨c.fb, c.rho.take k⟩
section
variable {K : PySem.W.Frag} {c c' : Cfg} {H H' : Hp} {m : Hm} {k : Nat}
theorem cut_sub {a : Addr} (h : a ∉ c.rho) : a ∉ (cut k c).rho := fun q => h (List.mem_of_mem_take q)
theorem TupAt.cut {a : Addr} {xs : List V} (h : TupAt K c H a xs) : TupAt K (Mir.cut k c) H a xs := by
  rcases h with ⟨h, n, n2⟩ | h
  · exact .inl ⟨h, n, cut_sub n2⟩
  · exact .inr h
theorem LstAt.cut {a : Addr} {xs : List V} (h : LstAt K c H a xs) : LstAt K (Mir.cut k c) H a xs := by
  rcases h with ⟨h, n, n2⟩ | h
  · exact .inl ⟨h, n, cut_sub n2⟩
  · exact .inr h
mutual
theorem Rp.cut : ∀ {v : V} {d : PyData}, Rp K c H v d → Rp K (Mir.cut k c) H v d
  | _, _, .non => .non
  | _, _, .bl b => .bl b
  | _, _, .int i => .int i
  | _, _, .str x => .str x
  | _, _, .lst h n n2 z r => .lst h n (cut_sub n2) z (RpAll.cut r)
  | _, _, .tup h z r => .tup h.cut z (RpAll.cut r)
theorem RpAll.cut : ∀ {vs : List V} {ds : List PyData}, RpAll K c H vs ds → RpAll K (Mir.cut k c) H vs ds
  | _, _, .nil => .nil
  | _, _, .cons r t => .cons (Rp.cut r) (RpAll.cut t)
end
mutual
theorem RpW.cut : ∀ {v : V} {w : W}, RpW K c H v w → okW k w = true → RpW K (Mir.cut k c) H v w
  | _, _, .p r, _ => .p r.cut
  | _, _, .ro h z r, _ => .ro h.cut z r.cut
  | _, _, .loc h, e => .loc (by
    have e : decide (_ < k) = true := e
    show (c.rho.take k)[_]? = some _
    rw [List.getElem?_take_of_lt (of_decide_eq_true e)]
    exact h)
  | _, _, .tw h z r, e => .tw h.cut z (RpWs.cut r e)
  | _, _, .kt h d n n2 z r, _ => .kt h d n (cut_sub n2) z r.cut
theorem RpWs.cut : ∀ {vs : List V} {ws : List W}, RpWs K c H vs ws → okWs k ws = true → RpWs K (Mir.cut k c) H vs ws
  | _, _, .nil, _ => .nil
  | _, _, .cons r t, e => by
    have e : (okW k _ && okWs k _) = true := e
    rw [Bool.and_eq_true] at e
    exact .cons (RpW.cut r e.1) (RpWs.cut t e.2)
end
theorem CellOk.cut {a : Addr} {x : Cell} (h : CellOk K c H a x) (e : okC k x = true) : CellOk K (Mir.cut k c) H a x := by
  cases x with
  | lst ws => obtain ⟨xs, e1, z, r⟩ := h; exact ⟨xs, e1, z, r.cut e⟩
  | dct kvs => obtain ⟨vs, e1, z, k', r⟩ := h; exact ⟨vs, e1, z, k', r.cut e⟩
  | dtt kvs => obtain ⟨vs, e1, z, k', r⟩ := h; exact ⟨vs, e1, z, k', r.cut e⟩
  | lck kvs => obtain ⟨o, vs, e1, z, k', r⟩ := h; exact ⟨o, vs, e1, z, k', r.cut e⟩
  | ins C fs => obtain ⟨dx, vs, e1, k', r⟩ := h; exact ⟨dx, vs, e1, k', r.cut e⟩
theorem HRel.cut (h : HRel K c m H) (e : okM k m = true) : HRel K (Mir.cut k c) (m.take k) H := by
  refine ⟨by simp [h.len], h.nd.sublist (List.take_sublist ..), h.fb, fun a ha q => h.dj a ha (List.mem_of_mem_take q), fun n x hx => ?_⟩
  have hn : n < k := by
    by_cases q : n < k
    · exact q
    · rw [List.getElem?_eq_none (by simp; omega)] at hx; cases hx
  have hx' := hx
  rw [List.getElem?_take_of_lt hn] at hx'
  obtain ⟨a, ha, ok⟩ := h.at_ n x hx'
  refine ⟨a, ?_, ok.cut ((List.all_eq_true.mp e) x (List.mem_of_getElem? hx))⟩
  show (c.rho.take k)[n]? = some a
  rw [List.getElem?_take_of_lt hn]; exact ha
theorem Ext.cut (e : Ext c H c' H') (hk : c.rho.length ≤ k) : Ext c H (Mir.cut k c') H' := by
  obtain ⟨l, hl, hn⟩ := e.rho
  refine ⟨e.fb, ⟨l.take (k - c.rho.length), ?_, fun a ha => hn a (List.mem_of_mem_take ha)⟩, e.keep, e.live⟩
  show c'.rho.take k = _
  rw [hl, List.take_append, List.take_of_length_le hk]
theorem SRel.cut {s : Ev} {σ : L2.St} (h : SRel K c H s σ) (e : okE k s = true) : SRel K (Mir.cut k c) H s σ :=
  ⟨h.1, fun i w q => let ⟨v, e1, r⟩ := h.2 i w q; ⟨v, e1, r.cut ((List.all_eq_true.mp e) (some w) (List.mem_of_getElem? q))⟩⟩
theorem SRel.wipeL {s : Ev} {σ : L2.St} (h : SRel K c H s σ) (vs : List Nat) : SRel K c H (wipeE s vs) σ := by
  refine h.forget ?_ ?_
  · induction vs with
    | nil => rfl
    | cons v vs ih => simp [wipeE, ih]
  · induction vs with
    | nil => intro i w q; exact q
    | cons v vs ih =>
      intro i w q
      unfold wipeE at q
      by_cases e : v = i
      · subst e
        by_cases hl : v < (wipeE s vs).length
        · rw [List.getElem?_set_self hl] at q; cases q
        · rw [List.getElem?_eq_none (by simpa using hl)] at q; cases q
      · rw [List.getElem?_set_ne e] at q
        exact ih i w q
end
/-- names forgotten, new cells let go if nothing holds them -/
def tidy (k : Nat) (mask : List Nat) (s : Ev) (m : Hm) : Ev × Hm := if (okE k (wipeE s mask) && okM k m) = true then (wipeE s mask, m.take k) else (wipeE s mask, m)
def sTidy (mask : List Nat) (f : SX) : SX := fun s m => match f s m with
  | some (.nx s1, m1) => some (.nx (tidy m.length mask s1 m1).1, (tidy m.length mask s1 m1).2)
  | some (.ct s1, m1) => some (.ct (tidy m.length mask s1 m1).1, (tidy m.length mask s1 m1).2)
  | r => r
theorem tidy_ok {K : PySem.W.Frag} {c c' : Cfg} {H H' : Hp} {m m1 : Hm} {s : Ev} {σ : L2.St} {mask : List Nat} (hm : HRel K c m H) (e : Ext c H c' H') (hm1 : HRel K c' m1 H') (hs : SRel K c' H' s σ) :
    ∃ c2, Ext c H c2 H' ∧ HRel K c2 (tidy m.length mask s m1).2 H' ∧ SRel K c2 H' (tidy m.length mask s m1).1 σ := by
  unfold tidy
  split
  · rename_i h
    rw [Bool.and_eq_true] at h
    exact ⟨_, e.cut (Nat.le_of_eq hm.len), hm1.cut h.2, (hs.wipeL mask).cut h.1⟩
  · exact ⟨c', e, hm1, hs.wipeL mask⟩
theorem tidy_imp {K : PySem.W.Frag} {U : WX} {mask : List Nat} {f : SX} {D : Ends} {σ : L2.St} {H : Hp} (h : TSt K U (sTidy mask f) D σ H) : TSt K U f D σ H := by
  obtain ⟨c, s, m, hs, hm, hp⟩ := h
  refine ⟨c, s, m, hs, hm, ?_⟩
  unfold sTidy at hp
  cases e : f s m with
  | none => simp only [e] at hp; exact hp
  | some p =>
    obtain ⟨o, m1⟩ := p
    simp only [e] at hp
    cases o with
    | nx s1 =>
      intro c' H' e' hm' σ' hs'
      obtain ⟨c2, a, b, d⟩ := tidy_ok (mask := mask) hm e' hm' hs'
      exact hp c2 H' a b σ' d
    | ct s1 =>
      intro c' H' e' hm' σ' hs'
      obtain ⟨c2, a, b, d⟩ := tidy_ok (mask := mask) hm e' hm' hs'
      exact hp c2 H' a b σ' d
    | rt w => exact hp
    | bk s => exact hp
    | ex x s => exact hp
theorem ss_tidy {X : Cx} {U : WX} {st : List Stmt} {f : SX} (mask : List Nat) (h : PSs X st (TSt X.K U f)) : PSs X st (TSt X.K U (sTidy mask f)) := impSs h fun _ _ _ h => tidy_imp h

/-! ### the end of a call -/
def frzL (f : W → Option PyData) : List W → Option (List PyData)
  | [] => some []
  | w :: ws => match f w with
    | some d => (frzL f ws).map (d :: ·)
    | none => none
def frz (k : Nat) (m : Hm) : Nat → W → Option PyData
  | 0, w => match w with
    | .p d => some d
    | _ => none
  | n + 1, w => match w with
    | .p d => some d
    | .loc j => if k ≤ j then (match m[j]? with
      | some (.lst ws) => (frzL (frz k m n) ws).map .list
      | _ => none) else none
    | .tw ws => (frzL (frz k m n) ws).map .tuple
    | .ro _ => none
    | .kt ds => some (.tuple ds)
section
variable {K : PySem.W.Frag} {c : Cfg} {H : Hp} {m : Hm} {k : Nat}
theorem frz_ok (hm : HRel K c m H) : ∀ (n : Nat), (∀ (v : V) (w : W) (d : PyData), RpW K c H v w → frz k m n w = some d → Rp K (cut k c) H v d) ∧ ∀ (vs : List V) (ws : List W) (ds : List PyData), RpWs K c H vs ws → frzL (frz k m n) ws = some ds → RpAll K (cut k c) H vs ds := by
  intro n
  have all : ∀ n, (∀ (v : V) (w : W) (d : PyData), RpW K c H v w → frz k m n w = some d → Rp K (cut k c) H v d) → ∀ (ws : List W) (vs : List V) (ds : List PyData), RpWs K c H vs ws → frzL (frz k m n) ws = some ds → RpAll K (cut k c) H vs ds := by
    intro n h1 ws
    induction ws with
    | nil => intro vs ds r e; cases r; simp only [frzL] at e; cases e; exact .nil
    | cons w ws ih =>
      intro vs ds r e
      cases r with
      | cons r t =>
        simp only [frzL] at e
        split at e
        · rename_i d e1
          obtain ⟨ds', e2, rfl⟩ := Option.map_eq_some_iff.mp e
          exact .cons (h1 _ _ _ r e1) (ih _ _ t e2)
        · cases e
  induction n with
  | zero =>
    have h1 : ∀ (v : V) (w : W) (d : PyData), RpW K c H v w → frz k m 0 w = some d → Rp K (cut k c) H v d := by
      intro v w d r e
      cases r with
      | p r => simp only [frz] at e; cases e; exact r.cut
      | ro => simp [frz] at e
      | loc => simp [frz] at e
      | tw => simp [frz] at e
      | kt => simp [frz] at e
    exact ⟨h1, fun vs ws ds => all 0 h1 ws vs ds⟩
  | succ n ih =>
    have h1 : ∀ (v : V) (w : W) (d : PyData), RpW K c H v w → frz k m (n + 1) w = some d → Rp K (cut k c) H v d := by
      intro v w d r e
      cases r with
      | p r => simp only [frz] at e; cases e; exact r.cut
      | ro => simp [frz] at e
      | @loc a j h =>
        simp only [frz] at e
        split at e
        · rename_i hj
          split at e
          · rename_i ws q
            obtain ⟨ds, e1, rfl⟩ := Option.map_eq_some_iff.mp e
            obtain ⟨xs, hx, z, rr⟩ := hm.lst h q
            refine .lst hx (fun z => hm.dj a z (List.mem_of_getElem? h)) (fun z => ?_) z (ih.2 _ _ _ rr e1)
            obtain ⟨i, hi, ei⟩ := List.mem_iff_getElem?.mp z |>.imp fun i hi => (⟨(List.getElem?_eq_some_iff.mp hi).1, hi⟩ : i < (c.rho.take k).length ∧ _)
            have hik : i < k := by simp at hi; omega
            rw [List.getElem?_take_of_lt hik] at ei
            have := (List.getElem?_inj (List.getElem?_eq_some_iff.mp h).1 hm.nd).mp (h.trans ei.symm)
            omega
          · cases e
        · cases e
      | tw h z r =>
        simp only [frz] at e
        obtain ⟨ds, e1, rfl⟩ := Option.map_eq_some_iff.mp e
        exact .tup h.cut z (ih.2 _ _ _ r e1)
      | kt h d n n2 z r =>
        simp only [frz] at e
        cases e
        exact .tup (TupAt.cut (.inl ⟨.inr ⟨_, h⟩, n, n2⟩)) z r.cut
    exact ⟨h1, fun vs ws ds => all (n + 1) h1 ws vs ds⟩
end
def endFn (fz : Bool) (k : Nat) (w : W) (m : Hm) : Res W := if okM k m = true then (if okW k w = true then .ok w (m.take k) else if fz = true then (match frz k m 4 w with
    | some d => .ok (.p d) (m.take k)
    | none => .ok w m) else .ok w m) else .ok w m
def endX (k : Nat) (x : Exn) (m : Hm) : Res W := if (okM k m && okWs k (x.fs.map (·.2))) = true then .exc x (m.take k) else .exc x m
def startE (n : Nat) (ws : List W) : Ev := ws.map some ++ List.replicate (n - ws.length) none
abbrev FF := List W → Hm → Res W
def retE (fz : Bool) (k : Nat) : SR → Res W
  | some (.rt w, m1) => endFn fz k w m1
  | some (.nx _, m1) => endFn fz k (.p .none) m1
  | some (.ex x _, m1) => endX k x m1
  | _ => .stuck
/-- a def: p the parameters, n the names in all -/
def mkFn (fz : Bool) (p n : Nat) (body : SX) : FF := fun ws m => if decide (ws.length = p) = true then retE fz m.length (body (startE n ws) m) else .stuck
abbrev UE (E : XK) : WX := fun cls dx _ H => E cls dx H
/-- what a def with the mirror F promises -/
def SpF (K : PySem.W.Frag) (F : FF) (p : Nat) : Sp := fun vs H Q E => vs.length = p ∧ ∃ c ws m, HRel K c m H ∧ RpWs K c H vs ws ∧ Post K (UE E) [] c H (RQ K Q) (F ws m)
theorem start_rel {K : PySem.W.Frag} {c : Cfg} {H : Hp} {vs : List V} {ws : List W} {N : List Str} {n : Nat} (r : RpWs K c H vs ws) (hn : N.length = n) : SRel K c H (startE n ws) (L2.start N vs) := by
  unfold startE L2.start
  refine ⟨by simp [r.length, hn], fun i w q => ?_⟩
  by_cases hi : i < ws.length
  · rw [List.getElem?_append_left (by simpa using hi), List.getElem?_map] at q
    obtain ⟨w', e1, e2⟩ := Option.map_eq_some_iff.mp q
    cases e2
    obtain ⟨v, hv, rv⟩ := r.get e1
    refine ⟨v, ?_, rv⟩
    rw [List.getElem?_append_left (by simp; rw [r.length]; exact hi), List.getElem?_map, hv]; rfl
  · rw [List.getElem?_append_right (by simp; omega)] at q
    have := List.mem_of_getElem? q
    rw [List.mem_replicate] at this
    cases this.2
theorem Post.u {K : PySem.W.Frag} {U U' : WX} {σ σ' : L2.St} {c : Cfg} {H : Hp} {α : Type} {R : Cfg → Hp → α → Hm → Prop} {r : Res α} (h : Post K U σ c H R r) (hu : ∀ cls dx H, U cls dx σ H → U' cls dx σ' H) : Post K U' σ' c H R r := by
  cases r with
  | stuck => exact h
  | ok a m' => exact h
  | exc x m' => exact fun c' H' cls dx e' hm' xr => hu _ _ _ (h c' H' cls dx e' hm' xr)
/-- a def's body -/
theorem fn_imp {K : PySem.W.Frag} {fz : Bool} {p n : Nat} {f : SX} {N : List Str} {vs : List V} {H : Hp} {Q : VK} {E : XK} (hn : N.length = n) (h : SpF K (mkFn fz p n f) p vs H Q E) : TSt K (UE E) f { nx := fun _ H' => Q .non H', rt := Q } (L2.start N vs) H := by
  obtain ⟨hl, c, ws, m, hm, r, hp⟩ := h
  refine ⟨c, startE n ws, m, start_rel r hn, hm, ?_⟩
  unfold mkFn retE at hp
  rw [if_pos (by simpa [← r.length] using hl)] at hp
  have fin : ∀ (w : W) (m1 : Hm) (c' : Cfg) (H' : Hp) (v : V), Post K (UE E) [] c H (RQ K Q) (endFn fz m.length w m1) → Ext c H c' H' → HRel K c' m1 H' → RpW K c' H' v w → Q v H' := by
    intro w m1 c' H' v hp e hm1 rv
    have hk := Nat.le_of_eq hm.len
    unfold endFn at hp
    split at hp
    · rename_i h1
      split at hp
      · rename_i h2
        exact hp _ H' (e.cut hk) (hm1.cut h1) v (rv.cut h2)
      · split at hp
        · split at hp
          · rename_i d e1
            exact hp _ H' (e.cut hk) (hm1.cut h1) v (.p ((frz_ok hm1 4).1 _ _ _ rv e1))
          · exact hp _ H' e hm1 v rv
        · exact hp _ H' e hm1 v rv
    · exact hp _ H' e hm1 v rv
  cases e : f (startE n ws) m with
  | none => simp only [e] at hp; exact hp
  | some q =>
    obtain ⟨o, m1⟩ := q
    simp only [e] at hp
    cases o with
    | nx s => exact fun c' H' e' hm' σ hs => fin _ _ _ _ _ hp e' hm' (.p .non)
    | rt w => exact fun c' H' e' hm' v rv => fin _ _ _ _ _ hp e' hm' rv
    | bk s => exact hp.elim
    | ct s => exact hp.elim
    | ex x s =>
      intro c' H' e' hm' σ cls dx hs xr
      have hp : Post K (UE E) [] c H (RQ K Q) (endX m.length x m1) := hp
      unfold endX at hp
      split at hp
      · rename_i h1
        rw [Bool.and_eq_true] at h1
        refine hp _ H' cls dx (e'.cut (Nat.le_of_eq hm.len)) (hm'.cut h1.1) ?_
        obtain ⟨x1, d, fs, x2, x3, x4, x5⟩ := xr
        exact ⟨x1, d, fs, x2, x3, x4, x5.cut h1.2⟩
      · exact hp _ H' cls dx e' hm' xr
end Mir

namespace Mir
open PySem PySem.Spec PyProof.Rows L2

/-! ### calls -/
/-- the def of that name keeps the promise of the mirror F -/
def OkD (P : Program) (w : World) (K : PySem.W.Frag) (mg : Str → Option Value) (base : Heap) (k : Nat) (x : Str) (F : FF) (ps : List Str) : Prop :=
  ∃ f fd, mg x = some (.ref f) ∧ PySem.W.keepIn K (.ref f) = true ∧ Binds K fd ps [] ∧ FnOk P w K mg base (L2.CX P w) k f fd ps (SpF K F ps.length)
theorem OkD.mono {P : Program} {w : World} {K : PySem.W.Frag} {mg : Str → Option Value} {base : Heap} {j k : Nat} {x : Str} {F : FF} {ps : List Str} (h : OkD P w K mg base j x F ps) (hk : j ≤ k) : OkD P w K mg base k x F ps :=
  let ⟨f, fd, a, b, c, d⟩ := h
  ⟨f, fd, a, b, c, d.mono hk⟩
def eCall (p : Nat) (F : FF) (fa : EX (List W)) : EX W := fun s m => (fa s m).bind fun ws m1 => if decide (ws.length = p) = true then F ws m1 else .stuck
section
variable {X : Cx} {U : WX} {k : Nat} {x : Str} {F : FF} {ps : List Str} {p pos : Pos} {e : Expr} {es : List Expr} {fa : EX (List W)}
theorem x_call {n : Nat} (o : OkD X.prog X.w X.K X.mg X.base k x F ps) (hr : Room k X.A) (tk : Takes X U) (ha : PA X (e :: es) (TL X.K U fa)) (hn : ps.length = n := by rfl) (hg : Gl X x := by rfl) (hdb : (x == ("__debug__" : Str)) = false := by decide) (he : starEach (e :: es) X.env = (false, eval e X.env) :: starEach es X.env := by rfl) (hpl : (backTo pos (starEach es X.env)).any (·.1) = false := by rfl) :
    PE X (.Call (.Name x p) (e :: es) [] pos) (T X.K U (eCall n F fa)) := by
  subst hn
  obtain ⟨f, fd, hm, hk, hb, ok⟩ := o
  refine imp (pe_callS (E := WE U) ok hr hg hm hk hb (fun σ => passAt tk σ) ha hdb he hpl) ?_
  rintro σ H Q ⟨c, s, m, hs, hmm, hp⟩
  refine TL.run hs hmm hp fun c1 H1 ws m1 vs e1 hs1 hm1 rv hp1 => ?_
  split at hp1
  · rename_i hl
    have hl := of_decide_eq_true hl
    exact ⟨by rw [rv.length]; exact hl, c1, ws, m1, hm1, rv, hp1.u fun _ _ _ h => h⟩
  · exact hp1.elim
end
abbrev cx (P : Program) (w : World) (K : PySem.W.Frag) (mg : Str → Option Value) (base : Heap) (N : List Str) (qual : Str) (scope : Scope) (f : Addr) (cd : Value) (A : Around) (outer : List Env) (s : Shared) (H : Hp) (E : XK) : Cx := cxOf (L2.CX P w) P w K mg base N qual scope f cd A outer s H E
section
variable {P : Program} {w : World} {K : PySem.W.Frag} {mg : Str → Option Value} {base : Heap} {x qual : Str} {params : Arguments} {body : List Stmt} {scope : Scope} {f : Addr} {fd : FuncData}
theorem takes_cx {N : List Str} {cd : Value} {A : Around} {outer : List Env} {s : Shared} {H : Hp} {E : XK} : Takes (cx P w K mg base N qual scope f cd A outer s H E) (UE E) := takes_of rfl rfl rfl rfl
theorem owns_cx {N : List Str} {cd : Value} {A : Around} {outer : List Env} {s : Shared} {H : Hp} {E : XK} : PassesOwn (model P w) (cx P w K mg base N qual scope f cd A outer s H E).A (cx P w K mg base N qual scope f cd A outer s H E).env (cx P w K mg base N qual scope f cd A outer s H E).xe := passes_of (X := cx P w K mg base N qual scope f cd A outer s H E) (K := fun e s'' => L2.CX P w outer H s E e s'') (E₁ := fun e s'' => L2.CX P w outer H s E e s'') rfl
/-- a def by its body -/
theorem fn_mk {N ps : List Str} {k n p : Nat} {fz : Bool} {b : SX} (F : FunD K x qual params body scope [] [] f fd) (S : FnScope N ps scope) (hn : N.length = n) (hp : ps.length = p)
    (h : ∀ (cd : Value) (A : Around) (outer : List Env) (s : Shared) (H : Hp) (E : XK), Room k (A.deeper (envOfC qual scope s.heap.objs.size f cd)) → PSs (cx P w K mg base N qual scope f cd A outer s H E) body (TSt K (UE E) b)) : FnOk P w K mg base (L2.CX P w) (k + 1) f fd ps (SpF K (mkFn fz p n b) ps.length) := by
  refine F.ok S (fun vs H Q E h => h.1) fun cdv A outer s H vs Q E hr hs => ⟨_, h cdv A outer s H E hr, ?_⟩
  subst hp
  exact fn_imp hn hs
theorem OkD.mk {N ps : List Str} {k n p : Nat} {fz : Bool} {b : SX} (F : FunD K x qual params body scope [] [] f fd) (hm : mg x = some (.ref f)) (hb : Binds K fd ps []) (S : FnScope N ps scope) (hn : N.length = n) (hp : ps.length = p)
    (h : ∀ (cd : Value) (A : Around) (outer : List Env) (s : Shared) (H : Hp) (E : XK), Room k (A.deeper (envOfC qual scope s.heap.objs.size f cd)) → PSs (cx P w K mg base N qual scope f cd A outer s H E) body (TSt K (UE E) b)) : OkD P w K mg base (k + 1) x (mkFn fz p n b) ps :=
  ⟨f, fd, hm, F.kp, hb, fn_mk F S hn hp h⟩
theorem OkD.zero {N ps : List Str} {k : Nat} (F : FunD K x qual params body scope [] [] f fd) (hm : mg x = some (.ref f)) (hb : Binds K fd ps []) (S : FnScope N ps scope) : OkD P w K mg base (k + 1) x (fun _ _ => .stuck) ps :=
  ⟨f, fd, hm, F.kp, hb, F.ok S (fun vs H Q E h => h.1) fun cdv A outer s H vs Q E hr hs => ⟨tNever, pss_never, hs.2.elim fun c h => h.elim fun ws h => h.elim fun m h => h.2.2⟩⟩
theorem u65 {k : Nat} {A : Around} (r : Room k A) : A.units + 65 < cLine := by have := r.un; omega
/-- the law's call: what the mirror answers at a script of whole numbers -/
theorem law_sp {F : FF} (h : ∀ ns : List Int, ns.length ≤ 63 → ∃ m, F [.ro (ns.map .int)] [] = .ok (.p (.bool true)) m) (H : Hp) (a : Addr) (ns : List Int) (hl : ns.length ≤ 63) (hS : SqL K H a (ns.map V.int)) : SpF K F 1 [.ref a] H (fun v _ => v = .bl true) fun _ _ _ => False := by
  obtain ⟨m, hm⟩ := h ns hl
  have rp : ∀ (c : Cfg) (H : Hp) (ns : List Int), RpAll K c H (ns.map V.int) (ns.map PyData.int) := fun c H ns => by
    induction ns with
    | nil => exact .nil
    | cons n ns ih => exact .cons (.int n) ih
  refine ⟨rfl, ⟨[], []⟩, [.ro (ns.map .int)], [], ⟨rfl, List.nodup_nil, fun p hp => by simp at hp, fun a ha => by simp [Cfg.fa] at ha, fun n x hx => by simp at hx⟩, ?_, ?_⟩
  · refine .cons (.ro ?_ (by rw [List.length_map, sizeLine_eq]; omega) (rp _ _ _)) .nil
    rcases hS with h | h
    · exact .inl ⟨h, by simp [Cfg.fa], by simp⟩
    · exact .inr h
  · rw [hm]
    intro c' H' e hm v rv
    cases rv with | p r =>
    cases r
    rfl
end
/-- the end over a head by facts, the exceptions' word told world by world -/
theorem walk_w {l : PySem.W.OpenLaw} {n k : Nat} {q : Program} {loose : List Str} {XP : (Str → Option Value) → Heap → Prop} {YP : World → Heap → Prop} {d : DefRec} {x : Str} (hn : l.most = some n) (hn2 : n ≤ sizeLine) (hdf : d.params.defaults = []) (hr : Room k callerA)
    (F : ∀ (w : World) (mg : Str → Option Value) (fa : Addr) (h : Heap), YP w h → h.Ns mainGlobals mg → mg d.name = some (.ref fa) → ∃ (K : PySem.W.Frag) (fd : FuncData) (sp : Sp), K.In h ∧ (∀ (s : Shared) (u : Value), BindsTo s fd ⟨[u], []⟩ [(x, u)]) ∧
      (∀ (H : Hp) (a : Addr) (ns : List Int), ns.length ≤ n → SqL K H a (ns.map V.int) → sp [.ref a] H (fun v _ => v = .bl true) fun _ _ _ => False) ∧ ∀ base : Heap, K.In base → base.Ns mainGlobals mg → FnOk l.prog w K mg base (L2.CX l.prog w) k fa fd [x] sp) :
    PySem.W.WalkO q loose XP YP l.row.toRowW d [] fun f vs => PySem.call f vs := by
  refine Att.attach_call hn hdf fun w s₀ s₁ mg mb fa o pm cd doc a vs ns G Y ho hd hcd hmg hobj hints hlen hg => ?_
  obtain ⟨K, fd, sp, KX, hb, hsp, hF⟩ := F w mg fa _ Y G.T.g hmg
  refine law_call (CX := L2.CX l.prog w) KX G.T.g G.T.b G.T.builtins G.T.nolimit hg hobj hints (Nat.le_trans hlen hn2) hr hF hb (fun H _ hS => hsp H a ns hlen hS) fun H e s' hc => ?_
  obtain ⟨_, _, _, _, _, _, _, _, _, _, _, _, z⟩ := hc
  exact z
end Mir

namespace Mir
open PySem PySem.Spec PyProof.Rows L2

/-! ### the mirrors, reckoned -/
section
variable {s : Ev} {m : Hm} {f g h : EX W} {b c : EX Bool} {fs : EX (List W)} {i : Nat} {d : PyData} {w : W}
@[simp] theorem r_var : eVar i s m = match s[i]? with
  | some (some w) => .ok w m
  | _ => .stuck := rfl
@[simp] theorem r_c : eC d s m = .ok (.p d) m := rfl
@[simp] theorem r_op2 {k : W → W → Hm → Res W} : eOp2 k f g s m = (f s m).bind fun a m1 => (g s m1).bind fun b m2 => k a b m2 := rfl
@[simp] theorem r_op1 {k : W → Hm → Res W} : eOp1 k f s m = (f s m).bind k := rfl
@[simp] theorem r_not : eNot f s m = (f s m).bind fun w m1 => match w with
  | .p (.bool b) => .ok (.p (.bool !b)) m1
  | _ => .stuck := rfl
@[simp] theorem r_and : eAnd f g s m = (f s m).bind fun w m1 => match w with
  | .p (.bool b) => if b = true then g s m1 else .ok (.p (.bool false)) m1
  | _ => .stuck := by
  unfold eAnd
  congr 1
  funext w m1
  cases w with
  | p d => cases d with
    | bool b => cases b <;> rfl
    | _ => rfl
  | _ => rfl
@[simp] theorem r_or : eOr f g s m = (f s m).bind fun w m1 => match w with
  | .p (.bool b) => if b = true then .ok (.p (.bool true)) m1 else g s m1
  | _ => .stuck := by
  unfold eOr
  congr 1
  funext w m1
  cases w with
  | p d => cases d with
    | bool b => cases b <;> rfl
    | _ => rfl
  | _ => rfl
@[simp] theorem r_if : eIf b f g s m = (b s m).bind fun k m1 => if k = true then f s m1 else g s m1 := rfl
@[simp] theorem r_anil : aNil s m = .ok [] m := rfl
@[simp] theorem r_acons : aCons f fs s m = (f s m).bind fun w m1 => (fs s m1).bind fun ws m2 => .ok (w :: ws) m2 := rfl
@[simp] theorem r_cb {k : List W → Hm → Res W} : eCB k fs s m = (fs s m).bind k := rfl
@[simp] theorem r_call {p : Nat} {F : FF} : eCall p F fs s m = (fs s m).bind fun ws m1 => if decide (ws.length = p) = true then F ws m1 else .stuck := rfl
@[simp] theorem r_btru : bTru f s m = (f s m).bind tru := rfl
@[simp] theorem r_bval : bVal f s m = (f s m).bind boolOf := rfl
@[simp] theorem r_boolOf {k : Bool} : boolOf (.p (.bool k)) m = .ok k m := rfl
@[simp] theorem r_tru {k : Bool} : tru (.p (.bool k)) m = .ok k m := rfl
@[simp] theorem r_bnot : bNot b s m = (b s m).bind fun k m1 => .ok (!k) m1 := rfl
@[simp] theorem r_band : bAnd b c s m = (b s m).bind fun k m1 => if k = true then c s m1 else .ok false m1 := rfl
@[simp] theorem r_bor : bOr b c s m = (b s m).bind fun k m1 => if k = true then .ok true m1 else c s m1 := rfl
@[simp] theorem r_byes : bYes s m = .ok true m := rfl
@[simp] theorem r_tup : eTup fs s m = (fs s m).bind fun ws m1 => if ws.length ≤ sizeLine then .ok (mkTup ws) m1 else .stuck := rfl
@[simp] theorem r_lst : eLst fs s m = (fs s m).bind fun ws m1 => if ws.length ≤ sizeLine then (match allP ws with
  | some ds => .ok (.p (.list ds)) m1
  | none => .stuck) else .stuck := rfl
@[simp] theorem r_lstL : eLstL fs s m = (fs s m).bind fun ws m1 => if ws.length ≤ sizeLine then .ok (.loc m1.length) (m1 ++ [.lst ws]) else .stuck := rfl
@[simp] theorem r_chain {k k' : W → W → Hm → Res W} : eChain k k' f g h s m = (f s m).bind fun a m1 => (g s m1).bind fun b m2 => (k a b m2).bind fun r m3 => match r with
  | .p (.bool t) => if t = true then (h s m3).bind fun c m4 => k' b c m4 else .ok (.p (.bool false)) m3
  | _ => .stuck := by
  unfold eChain
  congr 1
  funext a m1
  congr 1
  funext b m2
  congr 1
  funext w m3
  cases w with
  | p d => cases d with
    | bool b => cases b <;> rfl
    | _ => rfl
  | _ => rfl
-- statements
@[simp] theorem ret_rt {fz : Bool} {k : Nat} : retE fz k (some (.rt w, m)) = endFn fz k w m := rfl
@[simp] theorem ret_nx {fz : Bool} {k : Nat} : retE fz k (some (.nx s, m)) = endFn fz k (.p .none) m := rfl
@[simp] theorem ret_ex {fz : Bool} {k : Nat} {x : Exn} : retE fz k (some (.ex x s, m)) = endX k x m := rfl
variable {S S' : SX}
@[simp] theorem q_skip : sSkip s m = some (.nx s, m) := rfl
@[simp] theorem q_seq : sSeq S S' s m = match S s m with
  | some (.nx s1, m1) => S' s1 m1
  | r => r := rfl
@[simp] theorem q_never : sNever s m = none := rfl
@[simp] theorem q_expr : sExpr f s m = (f s m).st s fun _ m1 => some (.nx s, m1) := rfl
@[simp] theorem q_ret : sRet f s m = (f s m).st s fun w m1 => some (.rt w, m1) := rfl
@[simp] theorem q_retN : sRetN s m = some (.rt (.p .none), m) := rfl
@[simp] theorem q_if : sIf b S S' s m = (b s m).st s fun k m1 => if k = true then S s m1 else S' s m1 := rfl
@[simp] theorem q_set : sSet i f s m = (f s m).st s fun w m1 => some (.nx (s.set i (some w)), m1) := rfl
@[simp] theorem q_put {t : Tg} : sPut t f s m = (f s m).st s fun w m1 => match t.put w s with
  | some s1 => some (.nx s1, m1)
  | none => none := rfl
@[simp] theorem q_setIx : sSetIx f g h s m = (h s m).st s fun w m1 => (f s m1).st s fun o m2 => (g s m2).st s fun i m3 => match setIx o i w m3 with
  | some m4 => some (.nx s, m4)
  | none => none := rfl
end
theorem le_size {n : Nat} (h : n ≤ 16777216) : n ≤ sizeLine := by rw [sizeLine_eq]; exact h
/-! values -/
section
variable {m : Hm}
@[simp] theorem o_add (i j : Int) : addM (.p (.int i)) (.p (.int j)) m = .ok (.p (.int (i + j))) m := rfl
@[simp] theorem o_sub (i j : Int) : subM (.p (.int i)) (.p (.int j)) m = .ok (.p (.int (i - j))) m := rfl
@[simp] theorem o_le (i j : Int) : leM (.p (.int i)) (.p (.int j)) m = .ok (.p (.bool (decide (i ≤ j)))) m := rfl
@[simp] theorem o_gt (i j : Int) : gtM (.p (.int i)) (.p (.int j)) m = .ok (.p (.bool (decide (j < i)))) m := rfl
@[simp] theorem o_ge (i j : Int) : geM (.p (.int i)) (.p (.int j)) m = .ok (.p (.bool (decide (j ≤ i)))) m := rfl
@[simp] theorem o_lt (i j : Int) : ltM (.p (.int i)) (.p (.int j)) m = .ok (.p (.bool (decide (i < j)))) m := rfl
@[simp] theorem o_eqI (i j : Int) : eqM false (.p (.int i)) (.p (.int j)) m = .ok (.p (.bool (i == j))) m := rfl
@[simp] theorem o_neI (i j : Int) : eqM true (.p (.int i)) (.p (.int j)) m = .ok (.p (.bool (!(i == j)))) m := rfl
@[simp] theorem o_ixT {ds : List PyData} (i : Int) : idxM (.p (.tuple ds)) (.p (.int i)) m = match atI ds i with
  | some d => .ok (.p d) m
  | none => .stuck := rfl
@[simp] theorem o_ixL {ds : List PyData} (i : Int) : idxM (.p (.list ds)) (.p (.int i)) m = match atI ds i with
  | some d => .ok (.p d) m
  | none => .stuck := rfl
@[simp] theorem o_lenT {ds : List PyData} : lenM [.p (.tuple ds)] m = .ok (.p (.int ds.length)) m := by simp [lenM, seqW]
@[simp] theorem o_lenL {ds : List PyData} : lenM [.p (.list ds)] m = .ok (.p (.int ds.length)) m := by simp [lenM, seqW]
@[simp] theorem o_all (bs : List Bool) : allM true [.p (.list (bs.map .bool))] m = .ok (.p (.bool (bs.all id))) m := by
  have := boolsOf_map bs
  simp [allM, isL, seqW, List.map_map, Function.comp_def] at this ⊢
  rw [this]
@[simp] theorem o_any (bs : List Bool) : allM false [.p (.list (bs.map .bool))] m = .ok (.p (.bool (bs.any id))) m := by
  have := boolsOf_map bs
  simp [allM, isL, seqW, List.map_map, Function.comp_def] at this ⊢
  rw [this]
theorem atI_nat {α : Type} {xs : List α} {i : Nat} {x : α} (h : xs[i]? = some x) : atI xs (i : Int) = some x := by
  obtain ⟨hl, e⟩ := List.getElem?_eq_some_iff.mp h
  unfold atI ixN
  rw [if_pos (by omega), if_pos (by omega)]
  simpa using h
theorem atI_lit {α : Type} {xs : List α} {i : Nat} : atI xs (i : Int) = xs[i]? := by
  cases h : xs[i]? with
  | some x => exact atI_nat h
  | none =>
    have := List.getElem?_eq_none_iff.mp h
    unfold atI ixN
    rw [if_pos (by omega), if_neg (by omega)]
    rfl
@[simp] theorem atI_0 {α : Type} {xs : List α} : atI xs 0 = xs[0]? := atI_lit (i := 0)
@[simp] theorem atI_1 {α : Type} {xs : List α} : atI xs 1 = xs[1]? := atI_lit (i := 1)
@[simp] theorem atI_2 {α : Type} {xs : List α} : atI xs 2 = xs[2]? := atI_lit (i := 2)
end
/-- a comprehension that changes nothing -/
theorem lc_pure {α : Type} {fin : List W → Hm → Res W} {src : IX} {t : Tg} {g : EX Bool} {f : EX W} {vs : List Nat} {s : Ev} {m : Hm} (xs : List α) (e : α → W) (p : α → Bool) (h : α → W) {gs : List (Nat × List W)} (hs : src s m = .ok ⟨xs.map e, gs⟩ m) (hg : gOk m gs = true) (hz : xs.length ≤ 16777216)
    (hb : ∀ x ∈ xs, ∃ s1, t.put (e x) (wipeE s vs) = some s1 ∧ g s1 m = .ok (p x) m ∧ (p x = true → f s1 m = .ok (h x) m)) : eLc fin src t g f vs s m = fin ((xs.filter p).map h) m := by
  unfold eLc
  rw [hs]
  simp only [bind_ok, List.length_map]
  rw [if_pos (decide_eq_true (le_size hz))]
  have go : ∀ ys : List α, (∀ x ∈ ys, x ∈ xs) → lcGo gs t g f (wipeE s vs) (ys.map e) m = .ok ((ys.filter p).map h) m := by
    intro ys
    induction ys with
    | nil => intro _; simp [lcGo, hg]
    | cons y ys ih =>
      intro hy
      obtain ⟨s1, h1, h2, h3⟩ := hb y (hy y List.mem_cons_self)
      have ih' := ih fun x hx => hy x (List.mem_cons_of_mem _ hx)
      simp only [List.map_cons, lcGo, hg, if_true, h1, h2]
      cases hp : p y with
      | false => simp [ih', hp]
      | true => simp [h3 hp, ih', hp]
  rw [go xs fun _ h => h, bind_ok]
/-- .. whose values are data -/
theorem lc_data {α : Type} {src : IX} {t : Tg} {g : EX Bool} {f : EX W} {vs : List Nat} {s : Ev} {m : Hm} (xs : List α) (e : α → W) (p : α → Bool) (h : α → PyData) {gs : List (Nat × List W)} (hs : src s m = .ok ⟨xs.map e, gs⟩ m) (hg : gOk m gs = true) (hz : xs.length ≤ 16777216)
    (hb : ∀ x ∈ xs, ∃ s1, t.put (e x) (wipeE s vs) = some s1 ∧ g s1 m = .ok (p x) m ∧ (p x = true → f s1 m = .ok (.p (h x)) m)) : eLc lcFin src t g f vs s m = .ok (.p (.list ((xs.filter p).map h))) m := by
  rw [lc_pure xs e p (fun x => .p (h x)) hs hg hz hb]
  have : ((xs.filter p).map fun x => W.p (h x)) = ((xs.filter p).map h).map W.p := by simp
  unfold lcFin
  rw [this, allP_map]
/-- .. all of it -/
theorem lc_map {α : Type} {src : IX} {t : Tg} {f : EX W} {vs : List Nat} {s : Ev} {m : Hm} (xs : List α) (e : α → W) (h : α → PyData) {gs : List (Nat × List W)} (hs : src s m = .ok ⟨xs.map e, gs⟩ m) (hg : gOk m gs = true) (hz : xs.length ≤ 16777216)
    (hb : ∀ x ∈ xs, ∃ s1, t.put (e x) (wipeE s vs) = some s1 ∧ f s1 m = .ok (.p (h x)) m) : eLc lcFin src t bYes f vs s m = .ok (.p (.list (xs.map h))) m := by
  rw [lc_data (g := bYes) xs e (fun _ => true) h hs hg hz fun x hx => let ⟨s1, a, b⟩ := hb x hx; ⟨s1, a, rfl, fun _ => b⟩]
  rw [List.filter_eq_self.mpr fun _ _ => rfl]
/-- a loop with a way out -/
def loopE {α β : Type} (st : β → α → β ⊕ (W × Hm)) : List α → β → β ⊕ (W × Hm)
  | [], b => .inl b
  | x :: xs, b => match st b x with
    | .inl b' => loopE st xs b'
    | .inr w => .inr w
def outE {β : Type} (I : β → Ev) (M : β → Hm) : β ⊕ (W × Hm) → SR
  | .inl b => some (.nx (I b), M b)
  | .inr (w, m) => some (.rt w, m)
theorem for_loop {α β : Type} {gs : List (Nat × List W)} {t : Tg} {body : SX} {e : α → W} {xs : List α} (st : β → α → β ⊕ (W × Hm)) (I : β → Ev) (M : β → Hm) (Iv : β → Prop) (hg : ∀ b, Iv b → gOk (M b) gs = true)
    (hb : ∀ b, ∀ x ∈ xs, Iv b → (∃ s1, t.put (e x) (I b) = some s1 ∧ body s1 (M b) = outE I M (st b x)) ∧ ∀ b', st b x = .inl b' → Iv b') (b : β) (h0 : Iv b) : forGo gs t body (xs.map e) (I b) (M b) = outE I M (loopE st xs b) ∧ ∀ b', loopE st xs b = .inl b' → Iv b' := by
  induction xs generalizing b with
  | nil =>
    simp only [loopE, forGo, List.map_nil, hg b h0, if_true, outE, Sum.inl.injEq]
    exact ⟨trivial, fun b' e => e ▸ h0⟩
  | cons x xs ih =>
    obtain ⟨⟨s1, h1, h2⟩, h3⟩ := hb b x List.mem_cons_self h0
    have ih := fun b' h => ih (fun b x hx => hb b x (List.mem_cons_of_mem _ hx)) b' h
    simp only [loopE, List.map_cons, forGo, hg b h0, if_true, h1, h2]
    cases hs : st b x with
    | inl b' => exact ih b' (h3 b' hs)
    | inr w => exact ⟨rfl, fun b' e => by cases e⟩
theorem for_rw {α β : Type} {gs : List (Nat × List W)} {t : Tg} {body : SX} {e : α → W} {xs : List α} {s : Ev} {m : Hm} (st : β → α → β ⊕ (W × Hm)) (I : β → Ev) (M : β → Hm) (Iv : β → Prop) (b : β) (hs : I b = s) (hm : M b = m) (hg : ∀ b, Iv b → gOk (M b) gs = true)
    (hb : ∀ b, ∀ x ∈ xs, Iv b → (∃ s1, t.put (e x) (I b) = some s1 ∧ body s1 (M b) = outE I M (st b x)) ∧ ∀ b', st b x = .inl b' → Iv b') (h0 : Iv b) : forGo gs t body (xs.map e) s m = outE I M (loopE st xs b) := by
  subst hs hm
  exact (for_loop st I M Iv hg hb b h0).1
/-- .. with what is behind known -/
theorem for_rwP {α β : Type} {gs : List (Nat × List W)} {t : Tg} {body : SX} {e : α → W} {xs : List α} {s : Ev} {m : Hm} (st : β → α → β ⊕ (W × Hm)) (I : β → Ev) (M : β → Hm) (Iv : List α → β → Prop) (b : β) (hs : I b = s) (hm : M b = m) (hg : ∀ pre b, Iv pre b → gOk (M b) gs = true)
    (hb : ∀ pre x post b, xs = pre ++ x :: post → Iv pre b → (∃ s1, t.put (e x) (I b) = some s1 ∧ body s1 (M b) = outE I M (st b x)) ∧ ∀ b', st b x = .inl b' → Iv (pre ++ [x]) b') (h0 : Iv [] b) : forGo gs t body (xs.map e) s m = outE I M (loopE st xs b) ∧ ∀ b', loopE st xs b = .inl b' → Iv xs b' := by
  subst hs hm
  have go : ∀ suf pre b, xs = pre ++ suf → Iv pre b → forGo gs t body (suf.map e) (I b) (M b) = outE I M (loopE st suf b) ∧ ∀ b', loopE st suf b = .inl b' → Iv xs b' := by
    intro suf
    induction suf with
    | nil =>
      intro pre b hx h0
      simp only [loopE, forGo, List.map_nil, hg pre b h0, if_true, outE, Sum.inl.injEq]
      exact ⟨trivial, fun b' e => by rw [hx, List.append_nil, ← e]; exact h0⟩
    | cons x suf ih =>
      intro pre b hx h0
      obtain ⟨⟨s1, h1, h2⟩, h3⟩ := hb pre x suf b hx h0
      simp only [loopE, List.map_cons, forGo, hg pre b h0, if_true, h1, h2]
      cases hs : st b x with
      | inl b' => exact ih (pre ++ [x]) b' (by rw [hx]; simp) (h3 b' hs)
      | inr w => exact ⟨rfl, fun b' e => by cases e⟩
  exact go xs [] b rfl h0
theorem loopE_total {α β : Type} {st : β → α → β ⊕ (W × Hm)} (h : ∀ b x, ∃ b', st b x = .inl b') : ∀ (xs : List α) (b : β), ∃ b', loopE st xs b = .inl b'
  | [], b => ⟨b, rfl⟩
  | x :: xs, b => by
    obtain ⟨b', e⟩ := h b x
    obtain ⟨b2, e2⟩ := loopE_total h xs b'
    exact ⟨b2, by simp only [loopE, e]; exact e2⟩
theorem flat_len {α β : Type} {f : α → List β} {n : Nat} (h : ∀ x, (f x).length ≤ n) : ∀ xs : List α, (xs.flatMap f).length ≤ n * xs.length
  | [] => by simp
  | x :: xs => by
    have h1 := flat_len h xs
    have h2 := h x
    rw [List.flatMap_cons, List.length_append, List.length_cons, Nat.mul_add]
    omega
theorem loopU_inr {α : Type} {st : Unit → α → Unit ⊕ (W × Hm)} {xs : List α} {q : W × Hm} (h : loopE st xs () = .inr q) : ∃ x ∈ xs, st () x = .inr q := by
  induction xs with
  | nil => cases h
  | cons x xs ih =>
    simp only [loopE] at h
    cases e : st () x with
    | inl b => rw [e] at h; obtain ⟨y, hy, q⟩ := ih h; exact ⟨y, List.mem_cons_of_mem _ hy, q⟩
    | inr p => rw [e] at h; cases h; exact ⟨x, List.mem_cons_self, e⟩
theorem loopU_inl {α : Type} {st : Unit → α → Unit ⊕ (W × Hm)} {xs : List α} {u : Unit} (h : loopE st xs () = .inl u) : ∀ x ∈ xs, st () x = .inl () := by
  induction xs with
  | nil => intro x hx; cases hx
  | cons x xs ih =>
    simp only [loopE] at h
    cases e : st () x with
    | inl b =>
      rw [e] at h
      intro y hy
      rcases List.mem_cons.mp hy with rfl | hy
      · exact e
      · exact ih h y hy
    | inr p => rw [e] at h; cases h
@[simp] theorem q_tidy {mask : List Nat} {f : SX} {s : Ev} {m : Hm} : sTidy mask f s m = match f s m with
  | some (.nx s1, m1) => some (.nx (tidy m.length mask s1 m1).1, (tidy m.length mask s1 m1).2)
  | some (.ct s1, m1) => some (.ct (tidy m.length mask s1 m1).1, (tidy m.length mask s1 m1).2)
  | r => r := rfl
@[simp] theorem tidy_same {mask : List Nat} {s : Ev} {m : Hm} : tidy m.length mask s m = (wipeE s mask, m) := by
  unfold tidy
  split <;> simp
theorem tidy_len {mask : List Nat} {k : Nat} {s : Ev} {m : Hm} (h : m.length = k) : tidy k mask s m = (wipeE s mask, m) := by
  subst h
  exact tidy_same
@[simp] theorem q_for {src : IX} {t : Tg} {body : SX} {s : Ev} {m : Hm} : sFor src t body s m = (src s m).st s fun sc m1 => forGo sc.gs t body sc.items s m1 := rfl
/-! lists of whole numbers, read -/
def RL (m : Hm) (w : W) (ns : List Int) : Prop := w = .p (.list (ns.map .int)) ∨ ∃ n, w = .loc n ∧ m[n]? = some (.lst (ns.map fun i => .p (.int i)))
section
variable {m : Hm} {w : W} {ns : List Int}
theorem RL.data : RL m (.p (.list (ns.map .int))) ns := .inl rfl
theorem RL.src (h : RL m w ns) : ∃ gs, srcOf w m = .ok ⟨ns.map fun i => .p (.int i), gs⟩ m ∧ gOk m gs = true := by
  rcases h with rfl | ⟨n, rfl, e⟩
  · exact ⟨[], by simp [srcOf, Function.comp_def], rfl⟩
  · exact ⟨[(n, ns.map fun i => .p (.int i))], by simp only [srcOf, e], by simp [gOk, e]⟩
theorem allP_ints (ns : List Int) : allP (ns.map fun i => .p (.int i)) = some (ns.map .int) := by
  have : (ns.map fun i => W.p (.int i)) = (ns.map PyData.int).map W.p := by simp
  rw [this, allP_map]
theorem RL.rd (h : RL m w ns) : Mir.rd m w = some (.list (ns.map .int)) := by
  rcases h with rfl | ⟨n, rfl, e⟩
  · rfl
  · simp [Mir.rd, e, allP_ints]
theorem RL.len (h : RL m w ns) : lenM [w] m = .ok (.p (.int ns.length)) m := by
  rcases h with rfl | ⟨n, rfl, e⟩
  · simp
  · simp [lenM, seqW, e]
theorem any_eqv (v : Int) (ns : List Int) : (ns.any ((fun z => PyData.eqv z (.int v)) ∘ PyData.int)) = decide (v ∈ ns) := by
  rw [Bool.eq_iff_iff]
  simp [PyData.eqv]
theorem lay_ints (ns : List Int) : PyData.canLayAll0 (ns.map .int) = true ∧ PyData.depthAll (ns.map .int) = 0 := by
  induction ns with
  | nil => exact ⟨rfl, rfl⟩
  | cons n ns ih => simp [PyData.canLayAll0, PyData.depthAll, PyData.canLay0, PyData.depth, ih]
theorem sh_ints (ns : List Int) : SeqAt.shaped (.list (ns.map .int)) = true := by
  simp [SeqAt.shaped, PyData.canLay0, PyData.depth, lay_ints]
theorem sh_int (i : Int) : SeqAt.shaped (.int i) = true := rfl
theorem RL.inn (h : RL m w ns) (v : Int) : inM false (.p (.int v)) w m = .ok (.p (.bool (decide (v ∈ ns)))) m ∧ inM true (.p (.int v)) w m = .ok (.p (.bool (!decide (v ∈ ns)))) m := by
  have e := h.rd
  constructor <;> simp [inM, e, sh_ints, sh_int, any_eqv]
@[simp] theorem o_inT (v : Int) (ns : List Int) : inM false (.p (.int v)) (.p (.tuple (ns.map .int))) m = .ok (.p (.bool (decide (v ∈ ns)))) m := by
  have : ((ns.map PyData.int).all flatP) = true := by simp [flatP]
  simp [inM, flatP, any_eqv]
end
@[simp] theorem fin_p {α : Type} (xs : List α) (h : α → PyData) (m : Hm) : lcFin (xs.map fun x => .p (h x)) m = .ok (.p (.list (xs.map h))) m := by
  have : (xs.map fun x => W.p (h x)) = (xs.map h).map W.p := by simp
  unfold lcFin
  rw [this, allP_map]
theorem endFn_p {fz : Bool} {d : PyData} {m : Hm} : endFn fz m.length (.p d) m = .ok (.p d) m := by
  unfold endFn
  simp [okW]
@[simp] theorem r_lm {k : W → List W → Hm → Res W} {f : EX W} {fs : EX (List W)} {s : Ev} {m : Hm} : eLM k f fs s m = (f s m).bind fun w m1 => if lstAt w m1 = true then (fs s m1).bind fun ws m2 => k w ws m2 else .stuck := rfl
theorem lstAt_loc {m : Hm} {n : Nat} {ws : List W} (h : m[n]? = some (.lst ws)) : lstAt (.loc n) m = true := by simp [lstAt, isL, seqW, h]
theorem o_remove {m : Hm} {n : Nat} {ns : List Int} {k : Int} (h : m[n]? = some (.lst (ns.map fun i => .p (.int i)))) (hk : k ∈ ns) : removeM (.loc n) [.p (.int k)] m = .ok (.p .none) (m.set n (.lst ((ns.erase k).map fun i => .p (.int i)))) := by
  simp [removeM, h, allP_ints, hk, Function.comp_def]
theorem o_append {m : Hm} {n : Nat} {ws : List W} {y : W} (h : m[n]? = some (.lst ws)) (hl : ws.length < 16777216) : appendM (.loc n) [y] m = .ok (.p .none) (m.set n (.lst (ws ++ [y]))) := by
  simp [appendM, h, sizeLine_eq, hl]
@[simp] theorem r_none {s : Ev} {m : Hm} : oNone s m = .ok none m := rfl
@[simp] theorem r_some {f : EX W} {s : Ev} {m : Hm} : oSome f s m = (f s m).bind fun w m1 => match w with
  | .p (.int i) => .ok (some i) m1
  | _ => .stuck := rfl
@[simp] theorem r_cut {f : EX W} {fl fh : PX} {s : Ev} {m : Hm} : eCut f fl fh s m = (f s m).bind fun w m1 => (fl s m1).bind fun lo m2 => (fh s m2).bind fun hi m3 => cutM w lo hi m3 := rfl
@[simp] theorem o_isNone {w : W} {m : Hm} {b : Bool} : isNoneM b w (.p .none) m = .ok (.p (.bool (if b = true then !isNone w else isNone w))) m := rfl
@[simp] theorem isNone_loc {n : Nat} : isNone (.loc n) = false := rfl
@[simp] theorem isNone_n : isNone (.p .none) = true := rfl
@[simp] theorem isNone_t {ds : List PyData} : isNone (.p (.tuple ds)) = false := rfl
@[simp] theorem isNone_l {ds : List PyData} : isNone (.p (.list ds)) = false := rfl
@[simp] theorem r_rg1 {k : RK} {f : EX W} {s : Ev} {m : Hm} : eRg1 k f s m = (f s m).bind fun w m1 => match w with
  | .p (.int n) => rgMk k 0 n m1
  | _ => .stuck := rfl
@[simp] theorem r_iseq {f : EX W} {s : Ev} {m : Hm} : iSeq f s m = (f s m).bind srcOf := rfl
@[simp] theorem r_irg1 {f : EX W} {s : Ev} {m : Hm} : iRg1 f s m = (f s m).bind fun w m1 => match w with
  | .p (.int n) => if (decide (-1000000 ≤ n) && decide (n ≤ 1000000)) = true then .ok ⟨(rgP 0 n).map .p, []⟩ m1 else .stuck
  | _ => .stuck := rfl
@[simp] theorem srcOf_l {ds : List PyData} {m : Hm} : srcOf (.p (.list ds)) m = .ok ⟨ds.map .p, []⟩ m := rfl
@[simp] theorem srcOf_t {ds : List PyData} {m : Hm} : srcOf (.p (.tuple ds)) m = .ok ⟨ds.map .p, []⟩ m := rfl
def rgI (n : Nat) : List Int := (List.range n).map fun i : Nat => (i : Int)
theorem rgP_eq (n : Nat) : rgP 0 (n : Int) = (rgI n).map .int := by simp [rgP, rgI]
theorem rg_c {n : Nat} {m : Hm} (h : n ≤ 1000000) : rgMk .c 0 (n : Int) m = .ok (.loc m.length) (m ++ [.lst ((rgI n).map fun i => .p (.int i))]) := by
  unfold rgMk
  rw [if_pos (by simp [rgOk]; omega), rgP_eq]
  simp [Function.comp_def]
theorem rg_l {n : Nat} {m : Hm} (h : n ≤ 1000000) : rgMk .l 0 (n : Int) m = .ok (.p (.list ((rgI n).map .int))) m := by
  unfold rgMk
  rw [if_pos (by simp [rgOk]; omega), rgP_eq]
theorem rg_it {n : Nat} {m : Hm} (h : n ≤ 1000000) : (if (decide (-1000000 ≤ (n : Int)) && decide ((n : Int) ≤ 1000000)) = true then (.ok ⟨(rgP 0 n).map .p, []⟩ m : Res Src) else .stuck) = .ok ⟨(rgI n).map fun i => .p (.int i), []⟩ m := by
  rw [if_pos (by simp; omega), rgP_eq]
  simp [Function.comp_def]
theorem frzL_p {f : W → Option PyData} (hf : ∀ d, f (.p d) = some d) (ds : List PyData) : frzL f (ds.map .p) = some ds := by
  induction ds with
  | nil => rfl
  | cons d ds ih => simp [frzL, hf, ih]
theorem frz_p {k n : Nat} {m : Hm} {d : PyData} : frz k m n (.p d) = some d := by cases n <;> rfl
theorem frzL_map {α : Type} {k n : Nat} {m : Hm} (h : α → PyData) (xs : List α) : frzL (frz k m n) (xs.map fun i => .p (h i)) = some (xs.map h) := by
  have := frzL_p (f := frz k m n) (fun d => frz_p) (xs.map h)
  simpa [Function.comp_def] using this
theorem frz_loc {α : Type} {k n j : Nat} {m : Hm} {h : α → PyData} {xs : List α} (hk : k ≤ j) (hy : m[j]? = some (.lst (xs.map fun i => .p (h i)))) : frz k m (n + 1) (.loc j) = some (.list (xs.map h)) := by
  show (if k ≤ j then (match m[j]? with
    | some (.lst ws) => (frzL (frz k m n) ws).map PyData.list
    | _ => none) else none) = _
  rw [if_pos hk, hy]
  simp only [frzL_map, Option.map_some]
/-- at the end of a def with one cell of old -/
theorem end1_p {fz : Bool} {x : Cell} {r : Hm} {d : PyData} (hx : okC 1 x = true) : endFn fz 1 (.p d) (x :: r) = .ok (.p d) [x] := by
  simp [endFn, okM, okW, hx]
theorem end1_l {α : Type} {x : Cell} {y z : Hm} {xs : List α} {h : α → PyData} {k : Nat} (hx : okC 1 x = true) (hk : 1 ≤ k) (hy : (x :: y)[k]? = some (.lst (xs.map fun i => .p (h i)))) : endFn true 1 (.loc k) (x :: y) = .ok (.p (.list (xs.map h))) [x] := by
  have : ¬ k < 1 := by omega
  have e := frz_loc (n := 3) hk hy
  unfold endFn
  rw [e]
  simp [okM, okW, hx, this]
theorem o_addL {xs ys : List PyData} {m : Hm} (h : xs.length + ys.length ≤ 16777216) : addM (.p (.list xs)) (.p (.list ys)) m = .ok (.p (.list (xs ++ ys))) m := by
  simp [addM, sizeLine_eq, h]
theorem o_addT {xs ys : List PyData} {m : Hm} (h : xs.length + ys.length ≤ 16777216) : addM (.p (.tuple xs)) (.p (.tuple ys)) m = .ok (.p (.tuple (xs ++ ys))) m := by
  simp [addM, sizeLine_eq, h]
/-! ### the stream -/
def strm (ns : List Int) (c k : Int) : Cell := .lst [.p (.list (ns.map .int)), .p (.int c), .p (.int k)]
theorem endFn_len {fz : Bool} {d : PyData} {k : Nat} {m : Hm} (h : m.length = k) : endFn fz k (.p d) m = .ok (.p d) m := by
  subst h
  exact endFn_p
theorem o_mod {i j : Int} {m : Hm} (h : 0 < j) : modM (.p (.int i)) (.p (.int j)) m = .ok (.p (.int (i % j))) m := by simp [modM, intM, h]
theorem o_div {i j : Int} {m : Hm} (h : 0 < j) (h2 : j < 1073741824) : divM (.p (.int i)) (.p (.int j)) m = .ok (.p (.int (i / j))) m := by simp [divM, intM, h, h2]
theorem o_mulr {i j : Int} {m : Hm} (h : smallI j = true) : mulI (.p (.int i)) (.p (.int j)) m = .ok (.p (.int (i * j))) m := by simp [mulI, intM, h]
theorem o_pow18 {m : Hm} : powM (.p (.int 10)) (.p (.int 18)) m = .ok (.p (.int 1000000000000000000)) m := Eq.trans (b := powM (.p (.int 10)) (.p (.int 18)) m) rfl rfl
@[simp] theorem o_int {i : Int} {m : Hm} : intM1 [.p (.int i)] m = .ok (.p (.int i)) m := rfl
@[simp] theorem o_intb {b : Bool} {m : Hm} : intM1 [.p (.bool b)] m = .ok (.p (.int (if b = true then 1 else 0))) m := by cases b <;> rfl
@[simp] theorem o_abs {i : Int} {m : Hm} : absM [.p (.int i)] m = .ok (.p (.int (if i < 0 then -i else i))) m := rfl
@[simp] theorem o_ixC {n : Nat} {i : Int} {m : Hm} : idxM (.loc n) (.p (.int i)) m = match m[n]? with
  | some (.lst ws) => (match atI ws i with
    | some w => .ok w m
    | none => .stuck)
  | _ => .stuck := rfl
/-- a loop whose turns are known by what they leave -/
theorem for_ex {α : Type} {gs : List (Nat × List W)} {t : Tg} {body : SX} {e : α → W} {xs : List α} {s : Ev} {m : Hm} (Iv : List α → Ev → Hm → Prop) (hg : ∀ pre s m, Iv pre s m → gOk m gs = true)
    (hb : ∀ pre x post s m, xs = pre ++ x :: post → Iv pre s m → ∃ s1, t.put (e x) s = some s1 ∧ ∃ s' m', body s1 m = some (.nx s', m') ∧ Iv (pre ++ [x]) s' m') (h0 : Iv [] s m) : ∃ s' m', forGo gs t body (xs.map e) s m = some (.nx s', m') ∧ Iv xs s' m' := by
  have go : ∀ suf pre s m, xs = pre ++ suf → Iv pre s m → ∃ s' m', forGo gs t body (suf.map e) s m = some (.nx s', m') ∧ Iv xs s' m' := by
    intro suf
    induction suf with
    | nil =>
      intro pre s m hx h0
      exact ⟨s, m, by simp [forGo, hg pre s m h0], by rw [hx, List.append_nil]; exact h0⟩
    | cons x suf ih =>
      intro pre s m hx h0
      obtain ⟨s1, h1, s2, m2, h2, h3⟩ := hb pre x suf s m hx h0
      obtain ⟨s3, m3, h4, h5⟩ := ih (pre ++ [x]) s2 m2 (by rw [hx]; simp) h3
      exact ⟨s3, m3, by simp only [List.map_cons, forGo, hg pre s m h0, if_true, h1, h2]; exact h4, h5⟩
  exact go xs [] s m rfl h0
/-- a comprehension whose test draws -/
theorem lcGo_draw {α : Type} {t : Tg} {g : EX Bool} {f : EX W} {s : Ev} {ns : List Int} {r : Hm} {e : α → W} (h : α → PyData) : ∀ (xs : List α) (c : Int) (k : Nat),
    (∀ x ∈ xs, ∃ s1, t.put (e x) s = some s1 ∧ (∀ (c : Int) (k : Nat), ∃ (b : Bool) (c' : Int) (k' : Nat), g s1 (strm ns c k :: r) = .ok b (strm ns c' k' :: r)) ∧ ∀ m, f s1 m = .ok (.p (h x)) m) →
    ∃ (sub : List α) (c' : Int) (k' : Nat), lcGo [] t g f s (xs.map e) (strm ns c k :: r) = .ok ((sub.map h).map .p) (strm ns c' k' :: r) ∧ sub.Sublist xs
  | [], c, k, _ => ⟨[], c, k, by simp [lcGo], .slnil⟩
  | x :: xs, c, k, hb => by
    obtain ⟨s1, h1, h2, h3⟩ := hb x List.mem_cons_self
    obtain ⟨b, c1, k1, h4⟩ := h2 c k
    obtain ⟨sub, c2, k2, h5, h6⟩ := lcGo_draw h xs c1 k1 fun y hy => hb y (List.mem_cons_of_mem _ hy)
    cases b with
    | false => exact ⟨sub, c2, k2, by simp only [List.map_cons, lcGo, gOk_nil, if_true, h1, h4]; simpa using h5, h6.cons _⟩
    | true => exact ⟨x :: sub, c2, k2, by simp only [List.map_cons, lcGo, gOk_nil, if_true, h1, h4, h3, h5, bind_ok], h6.cons₂ _⟩
@[simp] theorem okC_strm {ns : List Int} {c k : Int} {n : Nat} : okC n (strm ns c k) = true := rfl
theorem rgP_int (n : Int) : rgP 0 n = (rgI n.toNat).map .int := by simp [rgP, rgI]
theorem atI_mem {α : Type} {xs : List α} {d : Int} (h0 : 0 ≤ d) (h1 : d < xs.length) : ∃ x ∈ xs, atI xs d = some x := by
  obtain ⟨k, rfl⟩ := Int.eq_ofNat_of_zero_le h0
  have hk : k < xs.length := by omega
  exact ⟨xs[k], List.getElem_mem hk, by rw [atI_lit]; exact List.getElem?_eq_getElem hk⟩
theorem cutA_mem {α : Type} {xs : List α} {lo hi : Option Int} : ∀ x ∈ cutA xs lo hi, x ∈ xs := fun x hx => List.mem_of_mem_drop (List.mem_of_mem_take hx)
theorem cutA_to {α : Type} {xs : List α} {n : Nat} : cutA xs none (some (n : Int)) = xs.take n := by
  unfold cutA
  rw [HT.sIx_none, HT.sIx_nat]
  simp
/-! shapes of data -/
def Sh (n : Nat) (d : PyData) : Prop := d.canLay0 = true ∧ d.depth ≤ n
theorem Sh.mono {m n : Nat} {d : PyData} (h : Sh m d) (k : m ≤ n) : Sh n d := ⟨h.1, Nat.le_trans h.2 k⟩
theorem Sh.ok {n : Nat} {d : PyData} (h : Sh n d) (k : n ≤ 64) : SeqAt.shaped d = true := by
  unfold SeqAt.shaped
  rw [h.1]
  exact decide_eq_true (Nat.le_trans h.2 k)
theorem sh_all {n : Nat} : ∀ {xs : List PyData}, (∀ x ∈ xs, Sh n x) → PyData.canLayAll0 xs = true ∧ PyData.depthAll xs ≤ n
  | [], _ => ⟨rfl, Nat.zero_le _⟩
  | x :: xs, h => by
    have h1 := h x List.mem_cons_self
    have h2 := sh_all fun y hy => h y (List.mem_cons_of_mem _ hy)
    exact ⟨by unfold PyData.canLayAll0; rw [h1.1, h2.1]; rfl, by unfold PyData.depthAll; exact Nat.max_le.mpr ⟨h1.2, h2.2⟩⟩
theorem Sh.tup {n : Nat} {xs : List PyData} (h : ∀ x ∈ xs, Sh n x) : Sh (n + 1) (.tuple xs) := ⟨by unfold PyData.canLay0; exact (sh_all h).1, by unfold PyData.depth; exact Nat.succ_le_succ (sh_all h).2⟩
theorem Sh.lst {n : Nat} {xs : List PyData} (h : ∀ x ∈ xs, Sh n x) : Sh (n + 1) (.list xs) := ⟨by unfold PyData.canLay0; exact (sh_all h).1, by unfold PyData.depth; exact Nat.succ_le_succ (sh_all h).2⟩
theorem Sh.int {n : Nat} (i : Int) : Sh n (.int i) := ⟨rfl, Nat.zero_le _⟩
theorem Sh.non {n : Nat} : Sh n .none := ⟨rfl, Nat.zero_le _⟩
theorem Sh.bl {n : Nat} (b : Bool) : Sh n (.bool b) := ⟨rfl, Nat.zero_le _⟩
end Mir

namespace Mir
open PySem PySem.Spec PyProof.Rows L2

/-! ### sorted(xs) of data -/
abbrev byD {α : Type} (p q : α × PyData) : Bool := PySem.W.dataLe false (fun b : α × PyData => b.2) p q
def rSortD (K : PySem.W.Frag) : List V → Hp → VK → Prop := fun vs H Q => ∃ (a : Addr) (xs : List V) (ds : List PyData), vs = [V.ref a] ∧ SqL K H a xs ∧ DpAll K H xs ds ∧ PySem.W.AllAlike ds ∧ PySem.W.Sortable ds ∧ (∀ d ∈ ds, d.depth ≤ 60) ∧
  ∀ p, H p = none → Q (.ref p) (upd H p (.lst (((xs.zip ds).mergeSort byD).map (·.1))))
theorem dp_len {K : PySem.W.Frag} {H : Hp} : ∀ {xs : List V} {ds : List PyData}, DpAll K H xs ds → xs.length = ds.length
  | _, _, .nil => rfl
  | _, _, .cons _ t => by simp [dp_len t]
theorem cr_sortedD {X : Cx} (hu : X.A.units + 65 < cLine) : CallR X (.builtin "sorted") (rSortD X.K) := by
  intro pins s σ H vs us Q I r h
  obtain ⟨a, xs, ds, rfl, hs, hd, hal, hk, hdp, q⟩ := h
  obtain ⟨its, rv, hl, hz⟩ := I.list hs
  rw [Vals.ref1 r]
  have len := dp_len hd
  have snd : (xs.zip ds).map (·.2) = ds := by
    have : (xs.zip ds).map Prod.snd = ds := List.map_snd_zip (Nat.le_of_eq len.symm)
    exact this
  have each : ∀ {xs : List V} {ds : List PyData} {its : List Value}, DpAll X.K H xs ds → Vals xs its → PySem.W.EachIs (fun (u : Value) (b : V × PyData) => RelV b.1 u) its (xs.zip ds) ∧ PySem.W.EachIs (fun (u : Value) (b : V × PyData) => ∃ as, Reads s.heap u b.2 as) its (xs.zip ds) := by
    intro xs
    induction xs with
    | nil => intro ds its h r; cases h; cases r; exact ⟨.nil, .nil⟩
    | cons x xs ih =>
      intro ds its h r
      cases h with
      | cons h1 h2 =>
        cases r with
        | cons r1 r2 =>
          obtain ⟨e1, e2⟩ := ih h2 r2
          exact ⟨.cons r1 e1, .cons (Dp.reads I _ _ _ h1 r1) e2⟩
  obtain ⟨e1, e2⟩ := each hd rv
  have lz : (xs.zip ds).length = xs.length := by rw [List.length_zip, len, Nat.min_self]
  refine PySem.W.sorted_data (enc := fun b : V × PyData => b.2) (R := fun (u : Value) (b : V × PyData) => RelV b.1 u) hl.isList e1 e2 (by rw [snd]; exact hal) (by rw [snd]; exact hk) (by rw [lz]; exact hz)
    (fun b hb => by
      have : b.2 ∈ ds := by rw [← snd]; exact List.mem_map.mpr ⟨b, hb, rfl⟩
      have := hdp _ this
      omega) fun out ho hout => ?_
  obtain ⟨ep, he'⟩ := PyProof.Rows.sortedAll_at s.heap its out.toArray
  have back : ∀ {us : List Value} {bs : List (V × PyData)}, PySem.W.EachIs (fun (u : Value) (b : V × PyData) => RelV b.1 u) us bs → Vals (bs.map (·.1)) us := by
    intro us bs h
    induction h with
    | nil => exact .nil
    | cons h _ ih => exact .cons h ih
  have hlen : (((xs.zip ds).mergeSort byD).map (·.1)).length ≤ sizeLine := by
    rw [List.length_map, List.length_mergeSort, lz]; exact hz
  exact ⟨.ref _, upd H (s.heap.objs.size + 1) (.lst (((xs.zip ds).mergeSort byD).map (·.1))), I.laid (t' := s.toks) (fun _ _ => PyProof.Rows.sortedAll_old) (Nat.le_succ _) ⟨hlen, out, ep, back hout, he'⟩, rfl, q _ (I.hok.fresh (Nat.le_succ _))⟩
def alikeB (ds : List PyData) : Bool := ds.all fun d => ds.all fun e => PySem.W.alike d e
def hdT : PyData → Bool
  | .tuple (_ :: _) => true
  | _ => false
def noT : PyData → Bool
  | .tuple _ => false
  | .none => false
  | _ => true
def sortB (ds : List PyData) : Bool := alikeB ds && ((ds.all hdT || ds.all noT) && ds.all fun d => decide (d.depth ≤ 60))
def insB {α : Type} (le : α → α → Bool) (a : α) : List α → List α
  | [] => [a]
  | b :: bs => if le a b = true then a :: b :: bs else b :: insB le a bs
def isortB {α : Type} (le : α → α → Bool) : List α → List α
  | [] => []
  | a :: l => insB le a (isortB le l)
theorem insB_mid {α : Type} {le : α → α → Bool} {a : α} : ∀ {l1 l2 : List α}, (∀ b ∈ l1, le a b = false) → (∀ b ∈ l2, le a b = true) → insB le a (l1 ++ l2) = l1 ++ a :: l2
  | [], [], _, _ => rfl
  | [], b :: l2, _, h => by simp [insB, h b List.mem_cons_self]
  | b :: l1, l2, h1, h2 => by
    have := insB_mid (l1 := l1) (l2 := l2) (fun c hc => h1 c (List.mem_cons_of_mem _ hc)) h2
    simp [insB, h1 b List.mem_cons_self, this]
theorem isortB_eq {α : Type} {le : α → α → Bool} (trans : ∀ a b c, le a b = true → le b c = true → le a c = true) (total : ∀ a b, (le a b || le b a) = true) : ∀ l : List α, l.mergeSort le = isortB le l
  | [] => by simp [isortB]
  | a :: l => by
    obtain ⟨l1, l2, e1, e2, h⟩ := List.mergeSort_cons trans total a l
    have pw := List.pairwise_mergeSort trans total (a :: l)
    rw [e1] at pw
    have h2 : ∀ b ∈ l2, le a b = true := fun b hb => (List.pairwise_cons.mp (List.pairwise_append.mp pw).2.1).1 b hb
    rw [e1, isortB, ← isortB_eq trans total l, e2, insB_mid (fun b hb => by simpa using h b hb) h2]
def srt (ds : List PyData) : List PyData := isortB (PySem.W.dataLe false id) ds
theorem srt_eq (ds : List PyData) : ds.mergeSort (PySem.W.dataLe false id) = srt ds := by
  have T := PySem.W.sortLe_total (PyProof.Rows.listOrd PyProof.Rows.itemOrd) false (fun b : PyData => PySem.W.keyToks b)
  exact isortB_eq (le := PySem.W.dataLe false id) (fun a b c => T.trans a b c) (fun a b => Bool.or_eq_true_iff.mpr (T.total a b)) ds
def sortedM : List W → Hm → Res W
  | [w], m => if isL w = true then (match (seqW m w).bind allP with
    | some ds => if sortB ds = true then .ok (.p (.list (srt ds))) m else .stuck
    | none => .stuck) else .stuck
  | _, _ => .stuck
theorem rp_pairs {K : PySem.W.Frag} {c : Cfg} {H : Hp} : ∀ {L : List (V × PyData)}, (∀ p ∈ L, Rp K c H p.1 p.2) → RpAll K c H (L.map (·.1)) (L.map (·.2))
  | [], _ => .nil
  | p :: L, h => .cons (h p List.mem_cons_self) (rp_pairs fun q hq => h q (List.mem_cons_of_mem _ hq))
theorem rp_zip {K : PySem.W.Frag} {c : Cfg} {H : Hp} : ∀ {xs : List V} {ds : List PyData}, RpAll K c H xs ds → ∀ p ∈ xs.zip ds, Rp K c H p.1 p.2
  | _, _, .nil, p, h => by cases h
  | _, _, .cons r t, p, h => by
    rcases List.mem_cons.mp h with rfl | h
    · exact r
    · exact rp_zip t p h
theorem srt_zip {xs : List V} {ds : List PyData} (h : xs.length = ds.length) : ((xs.zip ds).mergeSort byD).map (·.2) = srt ds := by
  have e := List.map_mergeSort (r := byD) (s := PySem.W.dataLe false id) (f := fun b : V × PyData => b.2) (l := xs.zip ds) fun a _ b _ => rfl
  rw [e]
  have : (xs.zip ds).map Prod.snd = ds := List.map_snd_zip (Nat.le_of_eq h.symm)
  rw [← srt_eq]
  exact congrArg (fun l => l.mergeSort (PySem.W.dataLe false id)) this
theorem sortB_ok {ds : List PyData} (h : sortB ds = true) : PySem.W.AllAlike ds ∧ PySem.W.Sortable ds ∧ ∀ d ∈ ds, d.depth ≤ 60 := by
  unfold sortB alikeB at h
  simp only [Bool.and_eq_true, Bool.or_eq_true, List.all_eq_true, decide_eq_true_eq] at h
  refine ⟨fun d hd e he => h.1 d hd e he, h.2.1.imp (fun q d hd => ?_) (fun q d hd => ?_), h.2.2⟩
  · have := q d hd
    cases d with
    | tuple xs => cases xs with
      | nil => cases this
      | cons x r => exact ⟨x, r, rfl⟩
    | _ => cases this
  · have := q d hd
    cases d with
    | tuple => cases this
    | none => cases this
    | _ => exact ⟨by simp, by simp⟩
theorem sortedM_ok {K : PySem.W.Frag} : CallM K (rSortD K) sortedM := by
  intro U σ c H m vs ws Q hm r hp
  unfold sortedM at hp
  split at hp
  · obtain ⟨v, rfl, r1⟩ := r.oneI
    split at hp
    · rename_i hl
      split at hp
      · rename_i ds ed
        obtain ⟨ws', e1, e2⟩ := Option.bind_eq_some_iff.mp ed
        obtain ⟨a, xs, rfl, hs, z, rr⟩ := seqW_list hm r1 e1 hl
        have ra := allP_rp rr e2
        split at hp
        · rename_i hb
          obtain ⟨b1, b2, b3⟩ := sortB_ok hb
          refine ⟨a, xs, ds, rfl, hs, ra.dp, b1, b2, b3, fun p hpn => ?_⟩
          have len := ra.length
          have hL : ∀ q ∈ (xs.zip ds).mergeSort byD, Rp K c H q.1 q.2 := fun q hq => rp_zip ra q (List.mem_mergeSort.mp hq)
          have rp := rp_pairs hL
          rw [srt_zip len] at rp
          have lz : (((xs.zip ds).mergeSort byD).map (·.1)).length ≤ sizeLine := by
            rw [List.length_map, List.length_mergeSort, List.length_zip, len, Nat.min_self, ← len]; exact z
          exact hp c _ (Ext.new hpn) (hm.new hpn) _ (.p (Rp.newL hm hpn lz rp))
        · exact hp.elim
      · exact hp.elim
    · exact hp.elim
  · exact hp.elim
end Mir

namespace Mir
open PySem PySem.Spec PyProof.Rows L2

/-! ### tuples whose object is known: their methods may be called -/
def unK : W → W
  | .kt ds => .p (.tuple ds)
  | w => w
theorem unK_ok {K : PySem.W.Frag} {c : Cfg} {H : Hp} {v : V} {w : W} (r : RpW K c H v w) : RpW K c H v (unK w) := by
  cases w with
  | kt ds => exact r.ktI
  | _ => exact r
def eUn (f : EX W) : EX W := fun s m => (f s m).bind fun w m1 => .ok (unK w) m1
theorem x_un {X : Cx} {U : WX} {e : Expr} {f : EX W} (h : PE X e (T X.K U f)) : PE X e (T X.K U (eUn f)) := by
  refine imp h ?_
  rintro σ H Q ⟨c, s, m, hs, hm, hp⟩
  exact T.run hs hm hp fun c1 H1 w m1 v e1 hs1 hm1 rv hp1 => hp1.ok hm1 v (unK_ok rv)
/-- tuple(a list), the object kept in mind -/
def rTupK (K : PySem.W.Frag) : List V → Hp → VK → Prop := fun xs H Q => ∃ p ys, xs = [V.ref p] ∧ SqL K H p ys ∧ ∀ (o : Obj) (l : Addr), o.dict = none → H l = none → Q (.ref l) (upd H l (.frz o (.tup ys)))
theorem call_tupK {X : Cx} : CallR X (.type "tuple") (rTupK X.K) := by
  intro pins s σ H xs us Q I r h
  obtain ⟨p, ys, rfl, hq, q⟩ := h
  obtain ⟨u, rfl, rx⟩ := vals1 r
  cases rx
  obtain ⟨its, rv, pl, hz⟩ := I.list hq
  have hlen := rv.length
  refine call_tuple_list pl.isList (fun g kp => ?_) (by simp only [List.size_toArray] <;> omega)
  have I1 : Inv X pins σ H { s with heap := g } := I.kept (t' := s.toks) kp
  refine ⟨.ref g.objs.size, upd H g.objs.size (.frz { cls := .type "tuple", data := .seq its.toArray } (.tup ys)), ?_, rfl, q _ _ rfl (I1.hok.fresh (Nat.le_refl _))⟩
  exact I1.laid (t' := s.toks) (fun b o e => Heap.get?_push_of_some _ e) (Nat.le_refl _) ⟨Heap.get?_push_size _ rfl, hz, its, rv, IsTup.new _ _⟩
def tupleK : List W → Hm → Res W
  | [w], m => if isL w = true then (match (seqW m w).bind allP with
    | some ds => .ok (.kt ds) m
    | none => .stuck) else .stuck
  | _, _ => .stuck
theorem tupleK_ok {K : PySem.W.Frag} : CallM K (rTupK K) tupleK := by
  intro U σ c H m vs ws Q hm r hp
  unfold tupleK at hp
  split at hp
  · obtain ⟨v, rfl, r1⟩ := r.oneI
    split at hp
    · rename_i hl
      split at hp
      · rename_i ds ed
        obtain ⟨ws', e1, e2⟩ := Option.bind_eq_some_iff.mp ed
        obtain ⟨a, xs, rfl, hs, z, rr⟩ := seqW_list hm r1 e1 hl
        have ra := allP_rp rr e2
        exact ⟨a, xs, rfl, hs, fun o l ho hl => hp c _ (Ext.new hl) (hm.new hl) _ (.kt upd_same ho (hm.free hl).1 (hm.free hl).2 z (ra.mono (Ext.new hl)))⟩
      · exact hp.elim
    · exact hp.elim
  · exact hp.elim
/-- o.m(e, ..) of such a tuple -/
def Known (x : V) (H : Hp) : Prop := ∃ a o xs, x = V.ref a ∧ H a = some (.frz o (.tup xs)) ∧ o.dict = none
theorem known_is {X : Cx} {pins : List (Addr × Obj)} {σ : L2.St} {H : Hp} {s : Shared} {x : V} {v : Value} (I : Inv X pins σ H s) (r : RelV x v) (k : Known x H) : s.TypeIs v "tuple" ∧ ∀ a, v = .ref a → ∃ ob, s.heap.get? a = some ob ∧ ob.dict = none := by
  obtain ⟨a, o, xs, rfl, ha, hd⟩ := k
  cases r
  obtain ⟨he, _, its, _, o', ho', hc, _⟩ := I.hok a _ ha
  exact ⟨⟨o', ho', hc⟩, fun b e => by cases e; exact ⟨o, he, hd⟩⟩
section
variable {X : Cx} {o e : Expr} {es : List Expr} {to : TE} {t : TA} {name : Str} {apos cpos : Pos} {id : String} {r : V → List V → Hp → VK → Prop}
theorem pe_known (slot : Slot "tuple" name id) (hty : typeOf (.builtin id) = pure (.type "method_descriptor")) (hm : MtR X id r) (ho : PE X o to) (ha : PA X (e :: es) t) (hbase : attributeBase o name X.env (eval o X.env) = eval o X.env := by rfl)
    (hfew : ((backTo cpos (starEach (e :: es) X.env)).all (fun x => !x.1) && (backToKw cpos (keywordEach [] X.env)).all (fun x => x.1.isSome) && decide ((e :: es).length + ([] : List Keyword).length + (if ([] : List Keyword).isEmpty then 0 else 1) < 30)) = true := by rfl)
    (hline : (apos.endLine == cpos.line) = true := by rfl) (hs : starEach (e :: es) X.env = (false, eval e X.env) :: starEach es X.env := by rfl) (hplain : (backTo cpos (starEach es X.env)).any (·.1) = false := by rfl) :
    PE X (.Call (.Attribute o name apos) (e :: es) [] cpos) (fun σ H Q => to σ H fun x H1 => Known x H1 ∧ t σ H1 fun xs H2 => r x xs H2 Q) := by
  refine ⟨fun pins s σ H Q I h => ?_⟩
  refine wpAny_Call_method_late hbase hfew hline rfl (thn (ho.run pins s σ H _ I h) fun v s1 ⟨x, H1, I1, r1, kn, q1⟩ => ?_)
  obtain ⟨h1, h2⟩ := known_is I1 r1 kn
  refine ⟨"tuple", id, PySem.F.plainAttrs_tuple, slot, hty, h1, h2, ?_⟩
  have hA := ha.run cpos pins s1 σ H1 _ I1 q1
  rw [hs] at hA ⊢
  refine Calls.callWith_builtin (by show (false || (backTo cpos (starEach es X.env)).any (·.1)) = false; rw [hplain] <;> rfl) (Calls.evalArgs_plain ?_)
  exact thn hA fun us s2 ⟨vs, H2, I2, r2, q2⟩ => hm pins s2 σ H2 x vs v us Q I2 r1 r2 q2
end
/-- t.index(x) of data that is there -/
def rTix (K : PySem.W.Frag) : V → List V → Hp → VK → Prop := fun x xs H Q => ∃ (a : Addr) (ys : List V) (y : V) (d : PyData) (ds : List PyData) (j : Nat) (z : PyData), x = .ref a ∧ xs = [y] ∧ SqT K H a ys ∧ DpAll K H ys ds ∧ Dp K H y d ∧
  SeqAt.shaped (.list ds) = true ∧ SeqAt.shaped d = true ∧ ds[j]? = some z ∧ PyData.eqv z d = true ∧ (∀ (k : Nat) z', k < j → ds[k]? = some z' → PyData.eqv z' d = false) ∧ Q (.int (j : Nat)) H
theorem mt_tix {X : Cx} (hu : X.A.units + 65 < cLine) : MtR X "tuple.index" (rTix X.K) := by
  intro pins s σ H x xs v us Q I rx rxs h
  obtain ⟨a, ys, y, d, ds, j, z, rfl, rfl, hT, hD, hy, sl, sd, hz, hzj, hno, q⟩ := h
  cases rx
  obtain ⟨uy, rfl, ry⟩ := vals1 rxs
  obtain ⟨bs, rd⟩ := Dp.reads I d y uy hy ry
  obtain ⟨its, rv, ⟨⟨cls, dd, data, sls⟩, ho, hc, n, hdt⟩, hlen⟩ := I.tuple hT
  simp only at hc hdt
  subst hc hdt
  obtain ⟨as, ra⟩ := Dp.readsAll I ds _ its hD rv
  have lay : PyData.canLayAll0 ds = true := SeqAt.canLay_of_shaped sl
  have hn : its.length = ds.length := SeqAt.ReadsAll.length ds its as ra
  have hmap : its.map (SeqAt.readOf s.heap) = ds := SeqAt.readsAll_map ds its as lay ra
  obtain ⟨hjd, _⟩ := List.getElem?_eq_some_iff.mp hz
  have hj : j < its.toArray.size := by rw [List.size_toArray]; omega
  have rdAt : ∀ (k : Nat) (hk : k < its.toArray.size) (z' : PyData), ds[k]? = some z' → SeqAt.readOf s.heap its.toArray[k] = z' := by
    intro k hk z' hz'
    have hkl : k < its.length := by rw [List.size_toArray] at hk; exact hk
    rw [← hmap, List.getElem?_map, List.getElem?_eq_getElem hkl] at hz'
    have e1 : SeqAt.readOf s.heap its[k] = z' := Option.some.inj hz'
    simpa using e1
  have room : X.A.units + 1 + min (PyData.depthAll ds) d.depth < cLine := by
    have := SeqAt.depth_of_shaped sd
    have : min (PyData.depthAll ds) d.depth ≤ d.depth := Nat.min_le_right _ _
    omega
  refine call_meets PySem.F.slot_tuple_index ⟨_, ho, rfl⟩ PySem.F.entry_tuple_index (PySem.F.args_tuple_index_2 _ _) (TI.tuple_indexAt a its.toArray n dd sls uy (fun u => PyData.eqv (SeqAt.readOf s.heap u) d) j hj ?_ ?_)
    ⟨ho, SeqAt.items_eqAt (vs := its.toArray) (show ReadsAll s.heap its.toArray.toList ds as from ra) rd lay (SeqAt.canLay_of_shaped sd) room, ?_⟩
  · show PyData.eqv (SeqAt.readOf s.heap its.toArray[j]) d = true
    rw [rdAt j hj z hz]
    exact hzj
  · intro k hk hkj
    have hkd : k < ds.length := by omega
    show PyData.eqv (SeqAt.readOf s.heap its.toArray[k]) d = false
    rw [rdAt k hk _ (List.getElem?_eq_getElem hkd)]
    exact hno k _ hkj (List.getElem?_eq_getElem hkd)
  · exact ⟨.int (j : Nat), H, I.tok _, ⟨_, rfl⟩, q⟩
def tixM : W → List W → Hm → Res W
  | .kt ds, [y], m => (match rd m y with
    | some d => if (SeqAt.shaped (.list ds) && (SeqAt.shaped d && ds.any fun z => PyData.eqv z d)) = true then .ok (.p (.int (idxOf d ds : Nat))) m else .stuck
    | none => .stuck)
  | _, _, _ => .stuck
def eTix (f g : EX W) : EX W := fun s m => (f s m).bind fun w m1 => match w with
  | .kt ds => (g s m1).bind fun y m2 => tixM (.kt ds) [y] m2
  | _ => .stuck
theorem x_tix {X : Cx} {U : WX} {o e : Expr} {f g : EX W} {apos cpos : Pos} (hu : X.A.units + 65 < cLine) (ho : PE X o (T X.K U f)) (he : PE X e (T X.K U g)) (hbase : attributeBase o "index" X.env (eval o X.env) = eval o X.env := by rfl)
    (hfew : ((backTo cpos (starEach [e] X.env)).all (fun x => !x.1) && (backToKw cpos (keywordEach [] X.env)).all (fun x => x.1.isSome) && decide ([e].length + ([] : List Keyword).length + (if ([] : List Keyword).isEmpty then 0 else 1) < 30)) = true := by rfl)
    (hline : (apos.endLine == cpos.line) = true := by rfl) (hs : starEach [e] X.env = (false, eval e X.env) :: starEach [] X.env := by rfl) (hplain : (backTo cpos (starEach [] X.env)).any (·.1) = false := by rfl) :
    PE X (.Call (.Attribute o "index" apos) [e] [] cpos) (T X.K U (eTix f g)) := by
  refine imp (pe_known PySem.F.slot_tuple_index PySem.F.type_tuple_index (mt_tix hu) ho (a_cons he a_nil hs) hbase hfew hline hs hplain) ?_
  rintro σ H Q ⟨c, s, m, hs, hm, hp⟩
  refine T.run hs hm hp fun c1 H1 w m1 v e1 hs1 hm1 rv hp1 => ?_
  split at hp1
  · rename_i ds
    have rv0 := rv
    cases rv0 with | @kt a ob xs ds h hd n n2 z r =>
    refine ⟨⟨a, ob, xs, rfl, h, hd⟩, ?_⟩
    have hp2 : Post X.K U σ c1 H1 (RQ X.K Q) (((aCons g aNil) s m1).bind fun ws m2 => tixM (.kt ds) ws m2) := by
      have e : (((aCons g aNil) s m1).bind fun ws m2 => tixM (.kt ds) ws m2) = (g s m1).bind fun y m2 => tixM (.kt ds) [y] m2 := by
        unfold aCons aNil
        cases g s m1 <;> rfl
      rw [e]; exact hp1
    refine TL.run hs1 hm1 hp2 fun c2 H2 ws m2 vs e2 hs2 hm2 r2 hp2 => ?_
    have rk := rv.mono e2
    cases rk with | kt h hd n n2 z r =>
    unfold tixM at hp2
    split at hp2
    · rename_i ds' y m3 e
      cases e
      obtain ⟨yv, rfl, ry⟩ := r2.oneI
      split at hp2
      · rename_i d ed
        split at hp2
        · rename_i hz
          rw [Bool.and_eq_true, Bool.and_eq_true] at hz
          obtain ⟨h1, h2, h3⟩ := hz
          have hlt : idxOf d ds < ds.length := List.findIdx_lt_length_of_exists (by simpa using h3)
          refine ⟨a, _, yv, d, ds, idxOf d ds, ds[idxOf d ds], rfl, rfl, .inl (.inr ⟨_, h⟩), r.dp, rd_dp hm2 ry ed, h1, h2, List.getElem?_eq_getElem hlt, ?_, fun k z hk hz => ?_, hp2.ok hm2 _ (.p (.int _))⟩
          · exact List.findIdx_getElem (w := hlt)
          · have hk' := List.not_of_lt_findIdx (p := fun z => PyData.eqv z d) (xs := ds) hk
            obtain ⟨hk2, e⟩ := List.getElem?_eq_some_iff.mp hz
            rw [e] at hk'
            simpa using hk'
        · exact hp2.elim
      · exact hp2.elim
    · exact hp2.elim
  · exact hp1.elim
end Mir

namespace Mir
open PySem PySem.Spec PyProof.Rows L2

/-! ### dicts whose keys are ints and texts -/
def eDict : EX W := fun _ m => .ok (.loc m.length) (m ++ [.dct []])
theorem x_dict {X : Cx} {U : WX} {pos : Pos} : PE X (.Dict [] [] pos) (T X.K U eDict) := by
  refine imp pe_dnewK ?_
  rintro σ H Q ⟨c, s, m, hs, hm, hp⟩ p hpn
  have ok : CellOk X.K ⟨c.fb, c.rho ++ [p]⟩ (upd H p (.dK [])) p (.dct []) := ⟨[], upd_same, Nat.zero_le _, rfl, .nil⟩
  exact hp _ _ (Ext.cell hpn) (hm.cell hpn ok) _ (.loc (by rw [← hm.len]; simp))
def keyP : PyData → Option Key
  | .int i => some (.inl i)
  | .str x => some (.inr x)
  | _ => none
def putW (kvs : List (Key × W)) (k : Key) (w : W) : List (Key × W) := if (kvs.any fun kv => decide (kv.1 = k)) = true then kvs.map (fun kv => if kv.1 = k then (kv.1, w) else kv) else kvs ++ [(k, w)]
def getW (kvs : List (Key × W)) (k : Key) : Option W := (kvs.find? fun kv => decide (kv.1 = k)).map (·.2)
section
variable {K : PySem.W.Frag} {c : Cfg} {H : Hp} {m : Hm}
theorem key_ok {v : V} {d : PyData} {k : Key} (r : Rp K c H v d) (e : keyP d = some k) : v = kV k := by
  cases r <;> first | (cases e; rfl) | cases e
/-- keys alike, values that stand for each other -/
inductive Al (K : PySem.W.Frag) (c : Cfg) (H : Hp) : List (Key × V) → List (Key × W) → Prop
  | nil : Al K c H [] []
  | cons {k : Key} {v : V} {w : W} {vs : List (Key × V)} {ws : List (Key × W)} : RpW K c H v w → Al K c H vs ws → Al K c H ((k, v) :: vs) ((k, w) :: ws)
theorem Al.of : ∀ {vs : List (Key × V)} {ws : List (Key × W)}, vs.map (·.1) = ws.map (·.1) → RpWs K c H (vs.map (·.2)) (ws.map (·.2)) → Al K c H vs ws
  | [], [], _, _ => .nil
  | (k, v) :: vs, (k', w) :: ws, e, r => by
    simp only [List.map_cons, List.cons.injEq] at e
    obtain ⟨rfl, e⟩ := e
    cases r with
    | cons r t => exact .cons r (Al.of e t)
  | [], _ :: _, e, _ => by simp at e
  | _ :: _, [], e, _ => by simp at e
theorem Al.to {vs : List (Key × V)} {ws : List (Key × W)} (h : Al K c H vs ws) : vs.map (·.1) = ws.map (·.1) ∧ RpWs K c H (vs.map (·.2)) (ws.map (·.2)) := by
  induction h with
  | nil => exact ⟨rfl, .nil⟩
  | cons r _ ih => exact ⟨by simp [ih.1], .cons r ih.2⟩
theorem Al.any {vs : List (Key × V)} {ws : List (Key × W)} (h : Al K c H vs ws) (k : Key) : (vs.any fun kv => decide (kv.1 = k)) = ws.any fun kv => decide (kv.1 = k) := by
  induction h with
  | nil => rfl
  | cons r _ ih => simp [ih]
theorem Al.upd {vs : List (Key × V)} {ws : List (Key × W)} (h : Al K c H vs ws) {k : Key} {v : V} {w : W} (r : RpW K c H v w) : Al K c H (vs.map fun kv => if kv.1 = k then (kv.1, v) else kv) (ws.map fun kv => if kv.1 = k then (kv.1, w) else kv) := by
  induction h with
  | nil => exact .nil
  | @cons k' v' w' vs ws r' _ ih =>
    simp only [List.map_cons]
    by_cases e : k' = k
    · simp only [e, if_true]; exact .cons r ih
    · simp only [e, if_false]; exact .cons r' ih
theorem Al.snoc {vs : List (Key × V)} {ws : List (Key × W)} (h : Al K c H vs ws) {k : Key} {v : V} {w : W} (r : RpW K c H v w) : Al K c H (vs ++ [(k, v)]) (ws ++ [(k, w)]) := by
  induction h with
  | nil => exact .cons r .nil
  | cons r' _ ih => exact .cons r' ih
theorem Al.put {vs : List (Key × V)} {ws : List (Key × W)} (h : Al K c H vs ws) {k : Key} {v : V} {w : W} (r : RpW K c H v w) : Al K c H (putK vs k v) (putW ws k w) := by
  unfold putK putW
  rw [h.any k]
  split
  · exact h.upd r
  · exact h.snoc r
theorem Al.len {vs : List (Key × V)} {ws : List (Key × W)} (h : Al K c H vs ws) : vs.length = ws.length := by
  induction h with
  | nil => rfl
  | cons _ _ ih => simp [ih]
theorem Al.get {vs : List (Key × V)} {ws : List (Key × W)} (h : Al K c H vs ws) {k : Key} {w : W} (e : getW ws k = some w) : ∃ v, valV vs k = some v ∧ RpW K c H v w := by
  induction h with
  | nil => cases e
  | @cons k' v' w' vs ws r _ ih =>
    unfold getW at e
    by_cases q : k' = k
    · subst q
      simp at e
      subst e
      exact ⟨v', valV_pos rfl, r⟩
    · rw [List.find?_cons_of_neg (by simpa using q)] at e
      obtain ⟨v, e1, r1⟩ := ih e
      exact ⟨v, by rw [valV_neg q]; exact e1, r1⟩
theorem Al.sub {vs : List (Key × V)} {ws : List (Key × W)} {c' : Cfg} {H' : Hp} (h : Al K c H vs ws) (e : Sub c H c' H') : Al K c' H' vs ws := by
  induction h with
  | nil => exact .nil
  | cons r _ ih => exact .cons (r.sub e) ih
theorem putK_len {vs : List (Key × V)} {k : Key} {v : V} : (putK vs k v).length ≤ vs.length + 1 := by
  unfold putK
  split <;> simp
theorem HRel.dct (hm : HRel K c m H) {n : Nat} {a : Addr} {kvs : List (Key × W)} (h : c.rho[n]? = some a) (q : m[n]? = some (.dct kvs)) : ∃ vs, H a = some (.dK vs) ∧ vs.length ≤ sizeLine ∧ Al K c H vs kvs := by
  obtain ⟨b, hb, vs, hx, z, k, rr⟩ := hm.at_ _ _ q
  rw [h] at hb; cases hb
  exact ⟨vs, hx, z, .of k rr⟩
end
/-- d[y] = v -/
def setKy (o y w : W) (m : Hm) : Option Hm := match o, y with
  | .loc n, .p d => match m[n]?, keyP d with
    | some (.dct kvs), some k => if kvs.length < sizeLine then some (m.set n (.dct (putW kvs k w))) else none
    | _, _ => none
  | _, _ => none
def sSetKy (fo fi f : EX W) : SX := fun s m => (f s m).st s fun w m1 => (fo s m1).st s fun o m2 => (fi s m2).st s fun i m3 => match setKy o i w m3 with
  | some m4 => some (.nx s, m4)
  | none => none
theorem s_setKy {X : Cx} {U : WX} {pos pos' : Pos} {e o i : Expr} {fo fi f : EX W} (hu : X.A.units + 1 < cLine) (he : PE X e (T X.K U f)) (ho : PE X o (T X.K U fo)) (hi : PE X i (T X.K U fi))
    (hs : swapsWith e (some (.Subscript o i pos')) pos.line X.env = pure false := by rfl) : PS X (.Assign [.Subscript o i pos'] e pos) (TSt X.K U (sSetKy fo fi f)) := by
  refine impS (ps_dput hu ho hi he hs) fun D σ H h => ?_
  obtain ⟨c, s, m, hs, hm, hp⟩ := h
  refine ⟨c, s, m, hs, hm, Post.st hs hp fun c1 H1 w m1 e1 hs1 hm1 hp1 v rv => ?_⟩
  refine ⟨c1, s, m1, hs1, hm1, Post.st hs1 hp1 fun c2 H2 o m2 e2 hs2 hm2 hp2 ov ro => ?_⟩
  refine ⟨c2, s, m2, hs2, hm2, Post.st hs2 hp2 fun c3 H3 i m3 e3 hs3 hm3 hp3 iv ri => ?_⟩
  have rv := (rv.mono e2).mono e3
  have ro := ro.mono e3
  split at hp3
  · rename_i m4 e4
    unfold setKy at e4
    split at e4
    · rename_i n d
      split at e4
      · rename_i kvs k q1 q2
        split at e4
        · rename_i hl
          cases e4
          cases ro with | loc h =>
          cases ri with | p ri =>
          obtain ⟨vs, hx, z, al⟩ := hm3.dct h q1
          have ln := al.len
          have ex : Ext c3 H3 c3 (upd H3 _ (.dK (putK vs k v))) := Ext.write h
          refine ⟨_, _, rfl, .inl ⟨vs, k, hx, key_ok ri q2, by omega, rfl⟩, ?_⟩
          have al2 := (al.put (k := k) rv).sub ex.sub
          have pl := putK_len (vs := vs) (k := k) (v := v)
          exact hp3 c3 _ ex (hm3.write h ⟨_, upd_same, by omega, al2.to.1, al2.to.2⟩) σ (hs3.mono ex)
        · cases e4
      · cases e4
    · cases e4
  · exact hp3.elim
end Mir

namespace Mir
open PySem PySem.Spec PyProof.Rows L2

/-! ### sorted(d), sum(xs) -/
def inlK : List (Key × W) → Option (List Int)
  | [] => some []
  | (.inl i, _) :: r => (inlK r).map (i :: ·)
  | _ :: _ => none
theorem inlK_keys : ∀ {kvs : List (Key × W)} {ks : List Int}, inlK kvs = some ks → kvs.map (·.1) = ks.map Sum.inl
  | [], ks, e => by cases e; rfl
  | (.inl i, w) :: r, ks, e => by
    unfold inlK at e
    obtain ⟨ks', e', rfl⟩ := Option.map_eq_some_iff.mp e
    simp [inlK_keys e']
  | (.inr x, w) :: r, ks, e => by cases e
def srtI (ks : List Int) : List Int := isortB (fun a b => decide (a ≤ b)) ks
theorem srtI_eq (ks : List Int) : ks.mergeSort (fun a b => decide (a ≤ b)) = srtI ks := isortB_eq (fun a b c h1 h2 => by simp at *; omega) (fun a b => by simp; omega) ks
theorem srtI_perm (ks : List Int) : (srtI ks).Perm ks := by rw [← srtI_eq]; exact List.mergeSort_perm ks _
theorem srtI_sorted (ks : List Int) : (srtI ks).Pairwise (· ≤ ·) := by
  have := List.pairwise_mergeSort (le := fun a b : Int => decide (a ≤ b)) (fun a b c h1 h2 => by simp at *; omega) (fun a b => by simp; omega) ks
  rw [← srtI_eq]
  exact this.imp fun h => by simpa using h
theorem srtI_unique {ks ys : List Int} (p : ys.Perm ks) (s : ys.Pairwise (· ≤ ·)) : ys = srtI ks := by
  have p2 := srtI_perm ks
  have s2 := srtI_sorted ks
  exact List.Perm.eq_of_pairwise (le := (· ≤ ·)) (fun a b _ _ h1 h2 => Int.le_antisymm h1 h2) s s2 (p.trans p2.symm)
def sortedKM : List W → Hm → Res W
  | [.loc n], m => match m[n]? with
    | some (.dct kvs) => (match inlK kvs with
      | some ks => if ks.length < 64 then .ok (.p (.list ((srtI ks).map .int))) m else .stuck
      | none => .stuck)
    | _ => .stuck
  | _, _ => .stuck
abbrev rSortK (K : PySem.W.Frag) : List V → Hp → VK → Prop := fun xs H Q => ∃ (a : Addr) (kvs : List (Key × V)) (ks : List Int), xs = [.ref a] ∧ Rd H a (.dK kvs) ∧ kvs.map (·.1) = ks.map Sum.inl ∧ ks.length < 64 ∧
    ∀ (ys : List Int) (p : Addr), ys.Perm ks → ys.Pairwise (· ≤ ·) → H p = none → Q (.ref p) (upd H p (.lst (ys.map V.int)))
theorem sortedKM_ok {K : PySem.W.Frag} : CallM K (rSortK K) sortedKM := by
  intro U σ c H m vs ws Q hm r hp
  unfold sortedKM at hp
  split at hp
  · obtain ⟨v, rfl, r1⟩ := r.oneI
    cases r1 with | loc h =>
    split at hp
    · rename_i kvs q
      split at hp
      · rename_i ks ek
        split at hp
        · rename_i hl
          obtain ⟨vs', hx, z, al⟩ := hm.dct h q
          refine ⟨_, vs', ks, rfl, .inl hx, al.to.1.trans (inlK_keys ek), hl, fun ys p hy hs hpn => ?_⟩
          rw [srtI_unique hy hs]
          have len : (srtI ks).length = ks.length := (srtI_perm ks).length_eq
          exact hp c _ (Ext.new hpn) (hm.new hpn) _ (.p (Rp.newL hm hpn (by rw [List.length_map, len, sizeLine_eq]; omega) (rpI _)))
        · exact hp.elim
      · exact hp.elim
    · exact hp.elim
  · exact hp.elim
def sumM : List W → Hm → Res W
  | [w], m => if isL w = true then (match ((seqW m w).bind allP).bind intsOf with
    | some ns => .ok (.p (.int ns.sum)) m
    | none => .stuck) else .stuck
  | _, _ => .stuck
theorem sumM_ok {K : PySem.W.Frag} : CallM K (rSum K) sumM := by
  intro U σ c H m vs ws Q hm r hp
  unfold sumM at hp
  split at hp
  · obtain ⟨v, rfl, r1⟩ := r.oneI
    split at hp
    · rename_i hl
      split at hp
      · rename_i ns en
        obtain ⟨ds, ed, ei⟩ := Option.bind_eq_some_iff.mp en
        obtain ⟨ws', e1, e2⟩ := Option.bind_eq_some_iff.mp ed
        obtain ⟨a, xs, rfl, hs, z, rr⟩ := seqW_list hm r1 e1 hl
        have ra := allP_rp rr e2
        rw [intsOf_eq ei] at ra
        have := ra.ints
        subst this
        exact ⟨a, ns, rfl, hs, hp.ok hm _ (.p (.int _))⟩
      · exact hp.elim
    · exact hp.elim
  · exact hp.elim
end Mir

namespace Mir
open PySem PySem.Spec PyProof.Rows L2

/-! ### comprehensions with two fors: the new list is a cell, k its number -/
def lcC (k : Nat) (gs : List (Nat × List W)) (t : Tg) (g : EX Bool) (f : EX W) (s : Ev) : List W → Hm → Res Unit
  | [], m => if gOk m gs = true then .ok () m else .stuck
  | w :: r, m => if gOk m gs = true then (match t.put w s with
    | none => .stuck
    | some s1 => match g s1 m with
      | .ok b m1 => if b = true then (match f s1 m1 with
          | .ok y m2 => (match m2[k]? with
            | some (.lst ws) => if ws.length < sizeLine then lcC k gs t g f s r (m2.set k (.lst (ws ++ [y]))) else .stuck
            | _ => .stuck)
          | _ => .stuck) else lcC k gs t g f s r m1
      | _ => .stuck) else .stuck
def lc2 (k : Nat) (gs : List (Nat × List W)) (t : Tg) (g : EX Bool) (src1 : IX) (t1 : Tg) (g1 : EX Bool) (f : EX W) (vs1 : List Nat) (s : Ev) : List W → Hm → Res Unit
  | [], m => if gOk m gs = true then .ok () m else .stuck
  | w :: r, m => if gOk m gs = true then (match t.put w s with
    | none => .stuck
    | some s1 => match g s1 m with
      | .ok b m1 => if b = true then (match src1 s1 m1 with
          | .ok sc m2 => (lcC k sc.gs t1 g1 f (wipeE s1 vs1) sc.items m2).bind fun _ m3 => lc2 k gs t g src1 t1 g1 f vs1 s r m3
          | _ => .stuck) else lc2 k gs t g src1 t1 g1 f vs1 s r m1
      | _ => .stuck) else .stuck
def eLc2 (src : IX) (t : Tg) (g : EX Bool) (src1 : IX) (t1 : Tg) (g1 : EX Bool) (f : EX W) (vs vs1 : List Nat) : EX W := fun s m => (src s m).bind fun sc m1 =>
  (lc2 m1.length sc.gs t g src1 t1 g1 f vs1 (wipeE s vs) sc.items (m1 ++ [.lst []])).bind fun _ m2 => .ok (.loc m1.length) m2
theorem lc2_imp {K : PySem.W.Frag} {U : WX} {src src1 : IX} {t t1 : Tg} {g g1 : EX Bool} {f : EX W} {vs vs1 : List Nat} (hv : t.inn vs = true) (hv1 : t1.inn vs1 = true) {σ : L2.St} {H : Hp} {Q : VK}
    (h : T K U (eLc2 src t g src1 t1 g1 f vs vs1) σ H Q) : tLc2 (TI' K U src) (TG' K t) (TB K U0 g) (TI' K U0 src1) (TG' K t1) (TB K U0 g1) (T K U0 f) vs vs1 σ H Q := by
  obtain ⟨c, s, m, hs, hm, hp⟩ := h
  unfold eLc2 at hp
  refine TI'.run hs hm hp fun c1 H1 sc m1 J e1 hs1 hm1 hJ hp1 => ?_
  intro D hD
  have eD : Ext c1 H1 ⟨c1.fb, c1.rho ++ [D]⟩ (upd H1 D (.lst [])) := Ext.cell hD
  have hmD : HRel K ⟨c1.fb, c1.rho ++ [D]⟩ (m1 ++ [.lst []]) (upd H1 D (.lst [])) := hm1.cell hD ⟨[], upd_same, Nat.zero_le _, .nil⟩
  have atD : (⟨c1.fb, c1.rho ++ [D]⟩ : Cfg).rho[m1.length]? = some D := by rw [← hm1.len]; simp
  have hsD := hs1.mono eD
  refine ⟨fun i me H => i ≤ sc.items.length ∧ me = sc.items.length - i ∧ ∃ c m, Ext ⟨c1.fb, c1.rho ++ [D]⟩ (upd H1 D (.lst [])) c H ∧ HRel K c m H ∧
    Post K U σ c H (RQ K Q) ((lc2 m1.length sc.gs t g src1 t1 g1 f vs1 (wipeE s vs) (sc.items.drop i) m).bind fun _ m2 => .ok (.loc m1.length) m2), ⟨sc.items.length, Nat.zero_le _, by simp, _, _, .refl, hmD, by simpa using hp1.ext eD⟩, ?_⟩
  rintro i me H ⟨hi, rfl, c, m, e, hm, hp⟩
  by_cases hi2 : i < sc.items.length
  case neg =>
    have hi3 : sc.items.length ≤ i := by omega
    rw [List.drop_eq_nil_of_le hi3] at hp
    unfold lc2 at hp
    by_cases hg : gOk m sc.gs = true
    case neg => rw [if_neg hg] at hp; exact hp.elim
    rw [if_pos hg] at hp
    exact .inl ⟨(hJ c H m (eD.trans e) hm hg i).1 (by omega), hp.ok hm _ (.loc (e.at atD))⟩
  case pos =>
    rw [List.drop_eq_getElem_cons hi2] at hp
    unfold lc2 at hp
    by_cases hg : gOk m sc.gs = true
    case neg => rw [if_neg hg] at hp; exact hp.elim
    rw [if_pos hg] at hp
    obtain ⟨go, yl⟩ := (hJ c H m (eD.trans e) hm hg i).2 _ (List.getElem?_eq_getElem hi2)
    cases es1 : t.put sc.items[i] (wipeE s vs) with
    | none => rw [es1] at hp; exact hp.elim
    | some s1 =>
    rw [es1] at hp
    refine .inr ⟨go, fun H' => ∃ c m, Ext ⟨c1.fb, c1.rho ++ [D]⟩ (upd H1 D (.lst [])) c H' ∧ HRel K c m H' ∧ Post K U σ c H' (RQ K Q) ((lc2 m1.length sc.gs t g src1 t1 g1 f vs1 (wipeE s vs) (sc.items.drop (i + 1)) m).bind fun _ m2 => .ok (.loc m1.length) m2), fun H' q => ⟨_, by omega, by omega, rfl, q⟩, fun x H' y => ?_⟩
    obtain ⟨yy, rx⟩ := yl x H' y
    obtain ⟨ey, hmy⟩ := yld_ext hm yy
    have e2 := e.trans ey
    refine ⟨c, wipeE s vs, _, s1, ((hsD.mono e2).wipe vs), rx, es1, fun σ2 hs2 hwp => ⟨?_, ?_⟩⟩
    · rw [hwp vs hv]
      exact wipe_wipe σ vs
    refine ⟨c, s1, m, hs2, hmy, ?_⟩
    have hp := hp.ext ey
    cases eg : g s1 m with
    | stuck => simp only [eg] at hp; exact hp.elim
    | exc x m2 => simp only [eg] at hp; exact hp.elim
    | ok b m2 =>
    simp only [eg] at hp
    intro c3 H3 e3 hm3
    have hp := hp.ext e3
    cases b with
    | false =>
      simp only [Bool.false_eq_true, if_false] at hp ⊢
      exact ⟨c3, m2, e2.trans e3, hm3, hp⟩
    | true =>
    simp only [if_true] at hp ⊢
    refine ⟨c3, s1, m2, hs2.mono e3, hm3, ?_⟩
    cases ei : src1 s1 m2 with
    | stuck => simp only [ei] at hp; exact hp.elim
    | exc x m3 => simp only [ei] at hp; exact hp.elim
    | ok sc1 m3 =>
    simp only [ei] at hp
    intro c4 H4 e4 hm4 J1 hJ1
    have hp := hp.ext e4
    have hs4 := (hs2.mono e3).mono e4
    have eo := (e2.trans e3).trans e4
    rw [Res.bind_assoc] at hp
    refine ⟨fun j k H => j ≤ sc1.items.length ∧ k = sc1.items.length - j ∧ ∃ c m, Ext c4 H4 c H ∧ HRel K c m H ∧ Post K U σ c H (RQ K Q) ((lcC m1.length sc1.gs t1 g1 f (wipeE s1 vs1) (sc1.items.drop j) m).bind fun _ m3 => (lc2 m1.length sc.gs t g src1 t1 g1 f vs1 (wipeE s vs) (sc.items.drop (i + 1)) m3).bind fun _ m2 => .ok (.loc m1.length) m2),
      ⟨sc1.items.length, Nat.zero_le _, by simp, c4, m3, .refl, hm4, by simpa using hp⟩, ?_⟩
    rintro j k H ⟨hj, rfl, c5, m5, e5, hm5, hp⟩
    by_cases hj2 : j < sc1.items.length
    case neg =>
      have hj3 : sc1.items.length ≤ j := by omega
      rw [List.drop_eq_nil_of_le hj3] at hp
      unfold lcC at hp
      by_cases hg : gOk m5 sc1.gs = true
      case neg => rw [if_neg hg] at hp; exact hp.elim
      rw [if_pos hg] at hp
      exact .inl ⟨(hJ1 c5 H m5 e5 hm5 hg j).1 (by omega), c5, m5, eo.trans e5, hm5, hp⟩
    case pos =>
      rw [List.drop_eq_getElem_cons hj2] at hp
      unfold lcC at hp
      by_cases hg : gOk m5 sc1.gs = true
      case neg => rw [if_neg hg] at hp; exact hp.elim
      rw [if_pos hg] at hp
      obtain ⟨go1, yl1⟩ := (hJ1 c5 H m5 e5 hm5 hg j).2 _ (List.getElem?_eq_getElem hj2)
      cases es2 : t1.put sc1.items[j] (wipeE s1 vs1) with
      | none => rw [es2] at hp; exact hp.elim
      | some s2 =>
      rw [es2] at hp
      refine .inr ⟨go1, fun H' => ∃ c m, Ext c4 H4 c H' ∧ HRel K c m H' ∧ Post K U σ c H' (RQ K Q) ((lcC m1.length sc1.gs t1 g1 f (wipeE s1 vs1) (sc1.items.drop (j + 1)) m).bind fun _ m3 => (lc2 m1.length sc.gs t g src1 t1 g1 f vs1 (wipeE s vs) (sc.items.drop (i + 1)) m3).bind fun _ m2 => .ok (.loc m1.length) m2),
        fun H' q => ⟨_, by omega, by omega, rfl, q⟩, fun x H' y => ?_⟩
      obtain ⟨yy1, rx1⟩ := yl1 x H' y
      obtain ⟨ey1, hmy1⟩ := yld_ext hm5 yy1
      have e6 := e5.trans ey1
      refine ⟨c5, wipeE s1 vs1, _, s2, ((hs4.mono e6).wipe vs1), rx1, es2, fun σ3 hs3 hwp1 => ⟨?_, ?_⟩⟩
      · rw [hwp1 vs1 hv1]
        exact wipe_wipe σ2 vs1
      refine ⟨c5, s2, m5, hs3, hmy1, ?_⟩
      have hp := hp.ext ey1
      cases eg1 : g1 s2 m5 with
      | stuck => simp only [eg1] at hp; exact hp.elim
      | exc x m6 => simp only [eg1] at hp; exact hp.elim
      | ok b m6 =>
      simp only [eg1] at hp
      intro c7 H7 e7 hm7
      have hp := hp.ext e7
      cases b with
      | false =>
        simp only [Bool.false_eq_true, if_false] at hp ⊢
        exact ⟨c7, m6, e6.trans e7, hm7, hp⟩
      | true =>
      simp only [if_true] at hp ⊢
      refine ⟨c7, s2, m6, hs3.mono e7, hm7, ?_⟩
      cases ef : f s2 m6 with
      | stuck => simp only [ef] at hp; exact hp.elim
      | exc x m8 => simp only [ef] at hp; exact hp.elim
      | ok w m8 =>
      simp only [ef] at hp
      intro c8 H8 e8 hm8 v rv
      have hp := hp.ext e8
      have eall := eo.trans ((e6.trans e7).trans e8)
      have hDr := eall.at atD
      split at hp
      · rename_i ws q
        split at hp
        · rename_i hl
          obtain ⟨xs, hx, z, rr⟩ := hm8.lst hDr q
          have ex : Ext c8 H8 c8 (upd H8 D (.lst (xs ++ [v]))) := Ext.write hDr
          have ln := rr.length
          refine ⟨xs, hx, by omega, c8, m8.set m1.length (.lst (ws ++ [w])), ((e6.trans e7).trans e8).trans ex, ?_, hp.ext ex⟩
          exact hm8.write hDr ⟨xs ++ [v], upd_same, by simp; omega, (rr.append (.cons rv .nil)).mono ex⟩
        · exact hp.elim
      · exact hp.elim
section
variable {X : Cx} {U : WX} {elt tg iter tg1 iter1 : Expr} {ifs ifs1 : List Expr} {scope : Scope} {own : List (Str × Nat)} {vs1 : List Nat} {pos spos py : Pos} {src src1 : IX} {t t1 : Tg} {g g1 : EX Bool} {f : EX W}
theorem x_lc2 (hv : t.inn (own.map (·.2)) = true) (hv1 : t1.inn vs1 = true) (hc : X.calm = true) (hN : X.N.Nodup) (hi : PI X tg iter (TI' X.K U src)) (bo : BlkOk X.N X.env.scope scope own) (hvs : ∀ i ∈ vs1, i ∈ own.map (·.2))
    (hg : ∀ (s : Shared) (H : Hp) (C : Addr) (cl : List (Str × Addr)) (fp : List Addr), PG (X.blk s H scope (compEnvC scope cl C X.env) fp) tg (TG' X.K t)) (ht : ∀ (s : Shared) (H : Hp) (C : Addr) (cl : List (Str × Addr)) (fp : List Addr), PTs (X.blk s H scope (compEnvC scope cl C X.env) fp) ifs (TB X.K U0 g))
    (hi1 : ∀ (s : Shared) (H : Hp) (C : Addr) (cl : List (Str × Addr)) (fp : List Addr), PI (X.blk s H scope (compEnvC scope cl C X.env) fp) tg1 iter1 (TI' X.K U0 src1))
    (hg1 : ∀ (s : Shared) (H : Hp) (C : Addr) (cl : List (Str × Addr)) (fp : List Addr), PG (X.blk s H scope (compEnvC scope cl C X.env) fp) tg1 (TG' X.K t1)) (ht1 : ∀ (s : Shared) (H : Hp) (C : Addr) (cl : List (Str × Addr)) (fp : List Addr), PTs (X.blk s H scope (compEnvC scope cl C X.env) fp) ifs1 (TB X.K U0 g1))
    (he : ∀ (s : Shared) (H : Hp) (C : Addr) (cl : List (Str × Addr)) (fp : List Addr), PE (X.blk s H scope (compEnvC scope cl C X.env) fp) elt (T X.K U0 f)) (hs : ∀ x, foldedSetIterable iter X.env x = pure x := by intro _; rfl) (hs1 : ∀ env x, foldedSetIterable iter1 env x = pure x := by intro _ _; rfl) :
    PE X (.ListComp elt [⟨tg, iter, ifs, 0⟩, ⟨tg1, iter1, ifs1, 0⟩] scope pos) (T X.K U (eLc2 src t g src1 t1 g1 f (own.map (·.2)) vs1)) :=
  imp (pe_lc2 hc hN hi bo hvs hg ht hi1 hg1 ht1 he hs hs1) fun _ _ _ h => lc2_imp hv hv1 h
end
/-! ### a fresh list, frozen at once -/
def frzE (k : Nat) (w : W) (m : Hm) : Res W := if okM k m = true then (match frz k m 4 w with
  | some d => .ok (.p d) (m.take k)
  | none => .ok w m) else .ok w m
def eFrz (f : EX W) : EX W := fun s m => (f s m).bind fun w m1 => frzE m.length w m1
theorem frz_imp {K : PySem.W.Frag} {U : WX} {f : EX W} {σ : L2.St} {H : Hp} {Q : VK} (h : T K U (eFrz f) σ H Q) : T K U f σ H Q := by
  obtain ⟨c, s, m, hs, hm, hp⟩ := h
  refine ⟨c, s, m, hs, hm, ?_⟩
  unfold eFrz at hp
  cases e : f s m with
  | stuck => rw [e] at hp; exact hp
  | exc x m1 => rw [e] at hp; exact hp
  | ok w m1 =>
    rw [e] at hp
    intro c' H' e' hm1 v rv
    have hp : Post K U σ c H (RQ K Q) (frzE m.length w m1) := hp
    unfold frzE at hp
    split at hp
    · rename_i hb
      split at hp
      · rename_i d ed
        exact hp _ H' (e'.cut (Nat.le_of_eq hm.len)) (hm1.cut hb) v (.p ((frz_ok hm1 4).1 _ _ _ rv ed))
      · exact hp c' H' e' hm1 v rv
    · exact hp c' H' e' hm1 v rv
theorem x_frz {X : Cx} {U : WX} {e : Expr} {f : EX W} (h : PE X e (T X.K U f)) : PE X e (T X.K U (eFrz f)) := imp h fun _ _ _ h => frz_imp h
section
variable {X : Cx} {U : WX} {elt tg iter tg1 iter1 : Expr} {ifs ifs1 : List Expr} {scope : Scope} {own : List (Str × Nat)} {vs1 : List Nat} {pos spos py : Pos} {src src1 : IX} {t t1 : Tg} {g g1 : EX Bool} {f : EX W}
/-- name = [.. for .. for ..], frozen -/
theorem s_setLc2 {i : Nat} {y : Str} (hv : t.inn (own.map (·.2)) = true) (hv1 : t1.inn vs1 = true) (hc : X.calm = true) (hN : X.N.Nodup) (hy : X.N[i]? = some y) (hyl : X.env.scope.names.lookup y = some .local)
    (hsw : swapsWith (.ListComp elt [⟨tg, iter, ifs, 0⟩, ⟨tg1, iter1, ifs1, 0⟩] scope pos) (some (.Name y py)) spos.line X.env = pure true) (hi : PI X tg iter (TI' X.K U src)) (bo : BlkOk X.N X.env.scope scope own) (hvs : ∀ i ∈ vs1, i ∈ own.map (·.2))
    (hg : ∀ (s : Shared) (H : Hp) (C : Addr) (cl : List (Str × Addr)) (fp : List Addr), PG (X.blk s H scope (compEnvC scope cl C X.env) fp) tg (TG' X.K t)) (ht : ∀ (s : Shared) (H : Hp) (C : Addr) (cl : List (Str × Addr)) (fp : List Addr), PTs (X.blk s H scope (compEnvC scope cl C X.env) fp) ifs (TB X.K U0 g))
    (hi1 : ∀ (s : Shared) (H : Hp) (C : Addr) (cl : List (Str × Addr)) (fp : List Addr), PI (X.blk s H scope (compEnvC scope cl C X.env) fp) tg1 iter1 (TI' X.K U0 src1))
    (hg1 : ∀ (s : Shared) (H : Hp) (C : Addr) (cl : List (Str × Addr)) (fp : List Addr), PG (X.blk s H scope (compEnvC scope cl C X.env) fp) tg1 (TG' X.K t1)) (ht1 : ∀ (s : Shared) (H : Hp) (C : Addr) (cl : List (Str × Addr)) (fp : List Addr), PTs (X.blk s H scope (compEnvC scope cl C X.env) fp) ifs1 (TB X.K U0 g1))
    (he : ∀ (s : Shared) (H : Hp) (C : Addr) (cl : List (Str × Addr)) (fp : List Addr), PE (X.blk s H scope (compEnvC scope cl C X.env) fp) elt (T X.K U0 f)) (hs : ∀ x, foldedSetIterable iter X.env x = pure x := by intro _; rfl) (hs1 : ∀ env x, foldedSetIterable iter1 env x = pure x := by intro _ _; rfl) :
    PS X (.Assign [.Name y py] (.ListComp elt [⟨tg, iter, ifs, 0⟩, ⟨tg1, iter1, ifs1, 0⟩] scope pos) spos) (TSt X.K U (sSet i (eFrz (eLc2 src t g src1 t1 g1 f (own.map (·.2)) vs1)))) := by
  refine impS (ps_setLc2 hc hN hy hyl hsw hi bo hvs hg ht hi1 hg1 ht1 he hs hs1) fun D σ H h => ?_
  obtain ⟨c, s, m, hs, hm, hp⟩ := h
  exact lc2_imp hv hv1 (frz_imp ⟨c, s, m, hs, hm, Post.st hs hp fun c1 H1 a m1 e1 hs1 hm1 hp1 v rv => hp1.ok hm1 _ (hs1.set rv)⟩)
end
theorem u1 {k : Nat} {A : Around} (r : Room k A) : A.units + 1 < cLine := by have := r.un; omega
end Mir

namespace Mir
open PySem PySem.Spec PyProof.Rows L2
theorem lcC_pure {β : Type} {k : Nat} {t : Tg} {f : EX W} {s : Ev} {e : β → W} (h : β → PyData) : ∀ (ys : List β) (m : Hm) (ws : List W), m[k]? = some (.lst ws) → ws.length + ys.length ≤ 16777216 →
    (∀ y ∈ ys, ∃ s1, t.put (e y) s = some s1 ∧ ∀ m', f s1 m' = .ok (.p (h y)) m') → lcC k [] t bYes f s (ys.map e) m = .ok () (m.set k (.lst (ws ++ (ys.map h).map .p)))
  | [], m, ws, hk, _, _ => by
    have : m.set k (.lst ws) = m := by
      apply List.ext_getElem?
      intro i
      by_cases e : k = i
      · subst e
        rw [List.getElem?_set_self (List.getElem?_eq_some_iff.mp hk).1, hk]
      · rw [List.getElem?_set_ne e]
    simp [lcC, this]
  | y :: ys, m, ws, hk, hl, hb => by
    obtain ⟨s1, h1, h2⟩ := hb y List.mem_cons_self
    have hlt := (List.getElem?_eq_some_iff.mp hk).1
    have ih := lcC_pure h ys (m.set k (.lst (ws ++ [.p (h y)]))) (ws ++ [.p (h y)]) (List.getElem?_set_self hlt) (by simp at hl ⊢; omega) fun z hz => hb z (List.mem_cons_of_mem _ hz)
    have hz : ws.length < sizeLine := by rw [sizeLine_eq]; simp at hl; omega
    simp only [List.map_cons, lcC, gOk_nil, if_true, h1, r_byes, h2, hk, hz, ih, List.set_set, List.append_assoc, List.cons_append, List.nil_append]
theorem lc2_pure {α β : Type} {k : Nat} {t t1 : Tg} {src1 : IX} {f : EX W} {vs1 : List Nat} {s : Ev} {e : α → W} (e1 : β → W) (ys : α → List β) (h : α → β → PyData) : ∀ (xs : List α) (m : Hm) (ws : List W), m[k]? = some (.lst ws) → ws.length + (xs.flatMap fun x => (ys x).map (h x)).length ≤ 16777216 →
    (∀ x ∈ xs, ∃ s1, t.put (e x) s = some s1 ∧ (∀ m', src1 s1 m' = .ok ⟨(ys x).map e1, []⟩ m') ∧ ∀ y ∈ ys x, ∃ s2, t1.put (e1 y) (wipeE s1 vs1) = some s2 ∧ ∀ m', f s2 m' = .ok (.p (h x y)) m') →
    lc2 k [] t bYes src1 t1 bYes f vs1 s (xs.map e) m = .ok () (m.set k (.lst (ws ++ (xs.flatMap fun x => (ys x).map (h x)).map .p)))
  | [], m, ws, hk, _, _ => by
    have := lcC_pure (k := k) (t := t) (f := f) (s := s) (e := e1) (fun _ : β => PyData.none) [] m ws hk (by simpa using Nat.le_trans (Nat.le_add_right _ _) ‹_›) (by simp)
    simp [lcC] at this
    simp [lc2]
    exact this
  | x :: xs, m, ws, hk, hl, hb => by
    obtain ⟨s1, h1, h2, h3⟩ := hb x List.mem_cons_self
    have hlt := (List.getElem?_eq_some_iff.mp hk).1
    simp only [List.flatMap_cons, List.length_append, List.length_map] at hl
    have c := lcC_pure (k := k) (t := t1) (f := f) (s := wipeE s1 vs1) (e := e1) (h x) (ys x) m ws hk (by omega) h3
    have ih := lc2_pure e1 ys h xs (m.set k (.lst (ws ++ ((ys x).map (h x)).map .p))) (ws ++ ((ys x).map (h x)).map .p) (List.getElem?_set_self hlt) (by simp only [List.length_append, List.length_map]; omega) fun z hz => hb z (List.mem_cons_of_mem _ hz)
    simp only [List.map_cons, lc2, gOk_nil, if_true, h1, r_byes, h2, c, bind_ok, ih, List.set_set, List.flatMap_cons, List.map_append, List.append_assoc]
/-- a two-for comprehension of data, frozen -/
theorem frz_lc2 {α β : Type} {t t1 : Tg} {src src1 : IX} {f : EX W} {vs vs1 : List Nat} {s : Ev} {m : Hm} (xs : List α) (e : α → W) (e1 : β → W) (ys : α → List β) (h : α → β → PyData) (hs : src s m = .ok ⟨xs.map e, []⟩ m) (hw : okM m.length m = true) (hl : (xs.flatMap fun x => (ys x).map (h x)).length ≤ 16777216)
    (hb : ∀ x ∈ xs, ∃ s1, t.put (e x) (wipeE s vs) = some s1 ∧ (∀ m', src1 s1 m' = .ok ⟨(ys x).map e1, []⟩ m') ∧ ∀ y ∈ ys x, ∃ s2, t1.put (e1 y) (wipeE s1 vs1) = some s2 ∧ ∀ m', f s2 m' = .ok (.p (h x y)) m') :
    eFrz (eLc2 src t bYes src1 t1 bYes f vs vs1) s m = .ok (.p (.list (xs.flatMap fun x => (ys x).map (h x)))) m := by
  have hk : (m ++ [Cell.lst []])[m.length]? = some (.lst []) := by simp
  have q := lc2_pure (k := m.length) e1 ys h xs (m ++ [.lst []]) [] hk (by simpa using hl) hb
  unfold eFrz eLc2
  rw [hs]
  simp only [bind_ok, q, List.nil_append]
  have e2 : (m ++ [Cell.lst []]).set m.length (.lst ((xs.flatMap fun x => (ys x).map (h x)).map .p)) = m ++ [.lst ((xs.flatMap fun x => (ys x).map (h x)).map .p)] := by simp
  rw [e2]
  unfold frzE
  have o1 : okM m.length (m ++ [.lst ((xs.flatMap fun x => (ys x).map (h x)).map .p)]) = true := by
    unfold okM at hw ⊢
    rw [List.take_left' rfl]
    rw [List.take_of_length_le (Nat.le_refl _)] at hw
    exact hw
  have o2 := frz_loc (k := m.length) (n := 3) (j := m.length) (m := m ++ [.lst ((xs.flatMap fun x => (ys x).map (h x)).map .p)]) (h := fun d : PyData => d) (xs := xs.flatMap fun x => (ys x).map (h x)) (Nat.le_refl _) (by simp)
  rw [if_pos o1, o2]
  simp
end Mir

namespace Mir
open PySem PySem.Spec PyProof.Rows L2
/-! ### more for the plain laws -/
abbrev sd (s : List Int) : PyData := .tuple (s.map .int)
theorem okM_app {k : Nat} {m e : Hm} (h : m.length = k) : okM k (m ++ e) = okM k m := by
  subst h; simp [okM]
theorem take_app {k : Nat} {m e : Hm} (h : m.length = k) : (m ++ e).take k = m := by
  subst h; simp
/-- a list of data, frozen or a new cell -/
def RD (k : Nat) (m : Hm) (w : W) (ds : List PyData) : Prop := w = .p (.list ds) ∨ ∃ n, w = .loc n ∧ k ≤ n ∧ m[n]? = some (.lst (ds.map .p))
section
variable {k : Nat} {m e : Hm} {w : W} {ds : List PyData}
theorem RD.src (h : RD k m w ds) : ∃ gs, srcOf w m = .ok ⟨ds.map .p, gs⟩ m ∧ ∀ g, gOk (m ++ g) gs = true := by
  rcases h with rfl | ⟨n, rfl, _, e⟩
  · exact ⟨[], rfl, fun _ => rfl⟩
  · refine ⟨[(n, ds.map .p)], by simp only [srcOf, e], fun g => ?_⟩
    have : (m ++ g)[n]? = some (.lst (ds.map .p)) := by rw [List.getElem?_append_left (List.getElem?_eq_some_iff.mp e).1]; exact e
    simp [gOk, this]
theorem end_p {d : PyData} {fz : Bool} (hk : m.length = k) (hw : okM k m = true) : endFn fz k (.p d) (m ++ e) = .ok (.p d) m := by
  unfold endFn
  rw [okM_app hk, if_pos hw, if_pos (show okW k (W.p d) = true from rfl), take_app hk]
theorem end_kt {fz : Bool} (hk : m.length = k) (hw : okM k m = true) : endFn fz k (.kt ds) (m ++ e) = .ok (.kt ds) m := by
  unfold endFn
  rw [okM_app hk, if_pos hw, if_pos (show okW k (W.kt ds) = true from rfl), take_app hk]
theorem end_RD (hk : m.length = k) (hw : okM k m = true) (h : RD k (m ++ e) w ds) : endFn true k w (m ++ e) = .ok (.p (.list ds)) m := by
  rcases h with rfl | ⟨n, rfl, hn, q⟩
  · exact end_p hk hw
  · unfold endFn
    have o2 := frz_loc (k := k) (n := 3) (j := n) (m := m ++ e) (h := fun d : PyData => d) (xs := ds) hn q
    have o3 : okW k (.loc n) = false := by simp [okW]; omega
    rw [okM_app hk, if_pos hw, o3, o2, take_app hk]
    simp
end
/-- a loop that goes through -/
theorem for_fold {α β : Type} {gs : List (Nat × List W)} {t : Tg} {body : SX} {e : α → W} {s : Ev} {m : Hm} (st : β → α → β) (I : β → Ev) (M : β → Hm) (Iv : List α → β → Prop) (xs : List α) (b : β) (hs : I b = s) (hm : M b = m) (hg : ∀ pre b, Iv pre b → gOk (M b) gs = true)
    (hb : ∀ pre x post b, xs = pre ++ x :: post → Iv pre b → ∃ s1, t.put (e x) (I b) = some s1 ∧ body s1 (M b) = some (.nx (I (st b x)), M (st b x)) ∧ Iv (pre ++ [x]) (st b x)) (h0 : Iv [] b) :
    forGo gs t body (xs.map e) s m = some (.nx (I (xs.foldl st b)), M (xs.foldl st b)) ∧ Iv xs (xs.foldl st b) := by
  subst hs hm
  have go : ∀ suf pre b, xs = pre ++ suf → Iv pre b → forGo gs t body (suf.map e) (I b) (M b) = some (.nx (I (suf.foldl st b)), M (suf.foldl st b)) ∧ Iv xs (suf.foldl st b) := by
    intro suf
    induction suf with
    | nil =>
      intro pre b hx h0
      exact ⟨by simp [forGo, hg pre b h0], by rw [hx, List.append_nil]; exact h0⟩
    | cons x suf ih =>
      intro pre b hx h0
      obtain ⟨s1, h1, h2, h3⟩ := hb pre x suf b hx h0
      have := ih (pre ++ [x]) (st b x) (by rw [hx]; simp) h3
      simp only [List.map_cons, forGo, hg pre b h0, if_true, h1, h2, List.foldl_cons]
      exact this
  exact go xs [] b rfl h0
/-- a loop that looks for the first one -/
theorem for_find {α : Type} {gs : List (Nat × List W)} {t : Tg} {body : SX} {e : α → W} {s : Ev} {m : Hm} (p : α → Bool) (r : α → W) (hg : gOk m gs = true) : ∀ (xs : List α),
    (∀ x ∈ xs, ∃ s1, t.put (e x) s = some s1 ∧ body s1 m = if p x = true then some (.rt (r x), m) else some (.nx s, m)) →
    forGo gs t body (xs.map e) s m = match xs.find? p with
      | some x => some (.rt (r x), m)
      | none => some (.nx s, m)
  | [], _ => by simp [forGo, hg]
  | x :: xs, hb => by
    obtain ⟨s1, h1, h2⟩ := hb x List.mem_cons_self
    have ih := for_find p r hg xs fun y hy => hb y (List.mem_cons_of_mem _ hy)
    cases hp : p x with
    | true =>
      rw [hp, if_pos rfl] at h2
      simp only [List.map_cons, forGo, hg, if_true, h1, h2, List.find?_cons, hp]
    | false =>
      rw [hp, if_neg Bool.false_ne_true] at h2
      simp only [List.map_cons, forGo, hg, if_true, h1, h2, List.find?_cons, hp]
      exact ih
/-- a comprehension by an invariant -/
theorem lc_ex {α : Type} {src : IX} {gs : List (Nat × List W)} {t : Tg} {g : EX Bool} {f : EX W} {vs : List Nat} {s : Ev} {m m0 : Hm} (xs : List α) (e : α → W) (Iv : List α → List PyData → Hm → Prop) (hs : src s m = .ok ⟨xs.map e, gs⟩ m0) (hz : xs.length ≤ 16777216) (hg : ∀ pre ds m, Iv pre ds m → gOk m gs = true)
    (hb : ∀ pre x post ds m, xs = pre ++ x :: post → Iv pre ds m → ∃ s1, t.put (e x) (wipeE s vs) = some s1 ∧ ∃ b m1, g s1 m = .ok b m1 ∧ (b = true → ∃ d m2, f s1 m1 = .ok (.p d) m2 ∧ Iv (pre ++ [x]) (ds ++ [d]) m2) ∧ (b = false → Iv (pre ++ [x]) ds m1)) (h0 : Iv [] [] m0) :
    ∃ ds m', eLc lcFin src t g f vs s m = .ok (.p (.list ds)) m' ∧ Iv xs ds m' := by
  have go : ∀ suf pre ds m, xs = pre ++ suf → Iv pre ds m → ∃ ys m', lcGo gs t g f (wipeE s vs) (suf.map e) m = .ok (ys.map .p) m' ∧ Iv xs (ds ++ ys) m' := by
    intro suf
    induction suf with
    | nil =>
      intro pre ds m hx h0
      exact ⟨[], m, by simp [lcGo, hg pre ds m h0], by rw [hx]; simpa using h0⟩
    | cons x suf ih =>
      intro pre ds m hx h0
      obtain ⟨s1, h1, b, m1, h2, h3, h4⟩ := hb pre x suf ds m hx h0
      cases b with
      | false =>
        obtain ⟨ys, m', q1, q2⟩ := ih (pre ++ [x]) ds m1 (by rw [hx]; simp) (h4 rfl)
        exact ⟨ys, m', by simp only [List.map_cons, lcGo, hg pre ds m h0, if_true, h1, h2, Bool.false_eq_true, if_false]; exact q1, q2⟩
      | true =>
        obtain ⟨d, m2, h5, h6⟩ := h3 rfl
        obtain ⟨ys, m', q1, q2⟩ := ih (pre ++ [x]) (ds ++ [d]) m2 (by rw [hx]; simp) h6
        exact ⟨d :: ys, m', by simp only [List.map_cons, lcGo, hg pre ds m h0, if_true, h1, h2, h5, q1, bind_ok], by simpa using q2⟩
  obtain ⟨ys, m', q1, q2⟩ := go xs [] [] m0 rfl h0
  refine ⟨ys, m', ?_, by simpa using q2⟩
  unfold eLc
  rw [hs]
  simp only [bind_ok, List.length_map]
  rw [if_pos (decide_eq_true (le_size hz)), q1]
  simp only [bind_ok, lcFin, allP_map]
/-! equality of tuples of ints -/
theorem eqvAll_ints : ∀ a b : List Int, PyData.eqvAll (a.map .int) (b.map .int) = decide (a = b)
  | [], [] => rfl
  | [], _ :: _ => rfl
  | _ :: _, [] => rfl
  | x :: a, y :: b => by
    have ih := eqvAll_ints a b
    have : PyData.eqvAll ((x :: a).map .int) ((y :: b).map .int) = ((x == y) && PyData.eqvAll (a.map .int) (b.map .int)) := rfl
    rw [this, ih, Bool.eq_iff_iff]
    simp
theorem eqv_sd (a b : List Int) : PyData.eqv (sd a) (sd b) = decide (a = b) := eqvAll_ints a b
theorem sh_sd (n : Nat) (a : List Int) : Sh (n + 1) (sd a) := Sh.tup fun x hx => by
  obtain ⟨i, _, rfl⟩ := List.mem_map.mp hx
  exact Sh.int i
@[simp] theorem o_eqT {a b : List Int} {m : Hm} : eqM false (.p (.tuple (a.map .int))) (.p (.tuple (b.map .int))) m = .ok (.p (.bool (decide (a = b)))) m := by
  have h1 := (sh_sd 0 a).ok (by omega)
  have h2 := (sh_sd 0 b).ok (by omega)
  have h3 := eqv_sd a b
  unfold sd at h1 h2 h3
  simp [eqM, h1, h2, h3]
@[simp] theorem o_neT {a b : List Int} {m : Hm} : eqM true (.p (.tuple (a.map .int))) (.p (.tuple (b.map .int))) m = .ok (.p (.bool (!decide (a = b)))) m := by
  have h1 := (sh_sd 0 a).ok (by omega)
  have h2 := (sh_sd 0 b).ok (by omega)
  have h3 := eqv_sd a b
  unfold sd at h1 h2 h3
  simp [eqM, h1, h2, h3]
theorem any_sd (v : List Int) (L : List (List Int)) : ((L.map sd).any fun z => PyData.eqv z (sd v)) = decide (v ∈ L) := by
  rw [List.any_map, Bool.eq_iff_iff]
  simp only [List.any_eq_true, Function.comp_apply, eqv_sd, decide_eq_true_eq]
  exact ⟨fun ⟨x, h, e⟩ => e ▸ h, fun h => ⟨v, h, rfl⟩⟩
theorem o_inLs {v : List Int} {L : List (List Int)} {m : Hm} : inM false (.p (sd v)) (.p (.list (L.map sd))) m = .ok (.p (.bool (decide (v ∈ L)))) m ∧ inM true (.p (sd v)) (.p (.list (L.map sd))) m = .ok (.p (.bool (!decide (v ∈ L)))) m := by
  have h1 := (sh_sd 0 v).ok (by omega)
  have h2 : SeqAt.shaped (.list (L.map sd)) = true := (Sh.lst (n := 1) fun x hx => by
    obtain ⟨a, _, rfl⟩ := List.mem_map.mp hx
    exact sh_sd 0 a).ok (by omega)
  have h3 := any_sd v L
  constructor <;> simp only [inM, rd_p, h1, h2, h3, Bool.and_self, if_true, Bool.false_eq_true, if_false]
theorem o_inTI {v : Int} {ns : List Int} {m : Hm} : inM true (.p (.int v)) (.p (.tuple (ns.map .int))) m = .ok (.p (.bool (!decide (v ∈ ns)))) m := by
  have := o_inT v ns (m := m)
  unfold inM at this ⊢
  simp only [rd_p] at this ⊢
  split at this
  · rename_i h
    rw [if_pos h]
    simp at this ⊢
    rw [this]
  · cases this
/-! sorted ints -/
theorem dataLe_int (a b : Int) : PySem.W.dataLe false id (.int a) (.int b) = decide (a ≤ b) := by
  have : PySem.W.dataLe false id (.int a) (.int b) = !(PyProof.Rows.lexLt itemOrd [.inl b] [.inl a]) := rfl
  rw [this]
  have e : PyProof.Rows.lexLt itemOrd [.inl b] [.inl a] = decide (b < a) := by
    simp [PyProof.Rows.lexLt, itemLt]
  rw [e, Bool.eq_iff_iff]
  simp
theorem insB_map {α β : Type} {le : α → α → Bool} {le' : β → β → Bool} {f : α → β} (h : ∀ a b, le' (f a) (f b) = le a b) (a : α) : ∀ l : List α, insB le' (f a) (l.map f) = (insB le a l).map f
  | [] => rfl
  | b :: l => by
    simp only [List.map_cons, insB, h]
    split
    · rfl
    · rw [insB_map h a l]; rfl
theorem isortB_map {α β : Type} {le : α → α → Bool} {le' : β → β → Bool} {f : α → β} (h : ∀ a b, le' (f a) (f b) = le a b) : ∀ l : List α, isortB le' (l.map f) = (isortB le l).map f
  | [] => rfl
  | a :: l => by
    simp only [List.map_cons, isortB]
    rw [isortB_map h l, insB_map h]
theorem srt_ints (ks : List Int) : srt (ks.map .int) = (srtI ks).map .int := isortB_map (fun a b => dataLe_int a b) ks
theorem sortB_ints (ks : List Int) : sortB (ks.map .int) = true := by
  have h1 : alikeB (ks.map .int) = true := by
    simp only [alikeB, List.all_eq_true, List.mem_map]
    rintro _ ⟨a, _, rfl⟩ _ ⟨b, _, rfl⟩
    rfl
  have h2 : (ks.map PyData.int).all noT = true := by
    simp only [List.all_eq_true, List.mem_map]
    rintro _ ⟨a, _, rfl⟩
    rfl
  have h3 : ((ks.map PyData.int).all fun d => decide (d.depth ≤ 60)) = true := by
    simp only [List.all_eq_true, List.mem_map]
    rintro _ ⟨a, _, rfl⟩
    rfl
  simp only [sortB, h1, h2, h3, Bool.or_true, Bool.and_self]
end Mir

namespace Mir
open PySem PySem.Spec PyProof.Rows L2

/-! ### dicts whose keys are ints and texts: read -/
def dctAt (w : W) (m : Hm) : Option (List (Key × W)) := match w with
  | .loc n => (match m[n]? with
    | some (.dct kvs) => some kvs
    | _ => none)
  | _ => none
def keyW : W → Option Key
  | .p d => keyP d
  | _ => none
section
variable {K : PySem.W.Frag} {c : Cfg} {H : Hp} {m : Hm}
theorem keyW_ok {v : V} {w : W} {k : Key} (r : RpW K c H v w) (e : keyW w = some k) : v = kV k := by
  unfold keyW at e
  split at e
  · cases r with | p r => exact key_ok r e
  · cases e
theorem dctAt_ok {v : V} {w : W} {kvs : List (Key × W)} (hm : HRel K c m H) (r : RpW K c H v w) (e : dctAt w m = some kvs) : ∃ a vs, v = .ref a ∧ H a = some (.dK vs) ∧ vs.length ≤ sizeLine ∧ Al K c H vs kvs := by
  unfold dctAt at e
  split at e
  · cases r with | loc h =>
    split at e
    · rename_i q
      cases e
      obtain ⟨vs, hx, z, al⟩ := hm.dct h q
      exact ⟨_, vs, rfl, hx, z, al⟩
    · cases e
  · cases e
theorem Al.none {vs : List (Key × V)} {ws : List (Key × W)} (h : Al K c H vs ws) {k : Key} (e : getW ws k = Option.none) : valV vs k = Option.none := by
  have h1 := h.any k
  rw [valV_any] at h1
  have h2 : (ws.any fun kv => decide (kv.1 = k)) = false := by
    unfold getW at e
    rw [Option.map_eq_none_iff, List.find?_eq_none] at e
    rw [List.any_eq_false]
    exact fun x hx => e x hx
  rw [h2] at h1
  cases q : valV vs k with
  | none => rfl
  | some v => rw [q] at h1; cases h1
theorem Al.isSome {vs : List (Key × V)} {ws : List (Key × W)} (h : Al K c H vs ws) (k : Key) : (valV vs k).isSome = (getW ws k).isSome := by
  cases e : getW ws k with
  | none => rw [h.none e]; rfl
  | some w => obtain ⟨v, hv, _⟩ := h.get e; rw [hv]; rfl
end
def eDGet (f g : EX W) : EX W := fun s m => (f s m).bind fun w m1 => (g s m1).bind fun y m2 => match dctAt w m2, keyW y with
  | some kvs, some k => (match getW kvs k with
    | some v => .ok v m2
    | none => .stuck)
  | _, _ => .stuck
def eDGet2 (f g h : EX W) : EX W := fun s m => (f s m).bind fun w m1 => if (dctAt w m1).isSome = true then (g s m1).bind fun y m2 => (h s m2).bind fun z m3 => match dctAt w m3, keyW y with
  | some kvs, some k => .ok ((getW kvs k).getD z) m3
  | _, _ => .stuck else .stuck
def eDIn (neg : Bool) (g f : EX W) : EX W := fun s m => (g s m).bind fun y m1 => (f s m1).bind fun w m2 => match dctAt w m2, keyW y with
  | some kvs, some k => .ok (.p (.bool (if neg = true then !(getW kvs k).isSome else (getW kvs k).isSome))) m2
  | _, _ => .stuck
section
variable {X : Cx} {U : WX} {pos apos cpos : Pos} {o i e x : Expr} {f g h : EX W}
theorem x_dget (hu : X.A.units + 1 < cLine) (ho : PE X o (T X.K U f)) (hi : PE X i (T X.K U g)) (hs : NoSl i := by intro _ _; rfl) : PE X (.Subscript o i pos) (T X.K U (eDGet f g)) := by
  refine imp (pe_dget hu ho hi hs) ?_
  rintro σ H Q ⟨c, s, m, hs, hm, hp⟩
  refine T.run hs hm hp fun c1 H1 w m1 v e1 hs1 hm1 r1 hp1 => T.run hs1 hm1 hp1 fun c2 H2 y m2 yv e2 hs2 hm2 r2 hp2 => ?_
  have r1 := r1.mono e2
  split at hp2
  · rename_i kvs k q hk
    split at hp2
    · rename_i v' hv
      obtain ⟨a, vs, rfl, hx, z, al⟩ := dctAt_ok hm2 r1 q
      have := keyW_ok r2 hk
      subst this
      obtain ⟨u, hu, ru⟩ := al.get hv
      exact ⟨a, u, rfl, by rw [← hu]; exact DGet.k hx, hp2.ok hm2 _ ru⟩
    · exact hp2.elim
  · exact hp2.elim
theorem x_dget2 (hu : X.A.units + 1 < cLine) (ho : PE X o (T X.K U f)) (he : PE X e (T X.K U g)) (hx : PE X x (T X.K U h)) (M : M2 X o "get" apos e x cpos) : PE X (.Call (.Attribute o "get" apos) [e, x] [] cpos) (T X.K U (eDGet2 f g h)) := by
  refine imp (pe_dget2 hu ho he hx M) ?_
  rintro σ H Q ⟨c, s, m, hs, hm, hp⟩
  refine T.run hs hm hp fun c1 H1 w m1 v e1 hs1 hm1 r1 hp1 => ?_
  split at hp1
  · rename_i hq
    obtain ⟨kvs0, q0⟩ := Option.isSome_iff_exists.mp hq
    obtain ⟨a, vs0, rfl, hx0, z0, al0⟩ := dctAt_ok hm1 r1 q0
    refine ⟨a, rfl, .inl ⟨vs0, .inl hx0⟩, T.run hs1 hm1 hp1 fun c2 H2 y m2 yv e2 hs2 hm2 r2 hp2 => T.run hs2 hm2 hp2 fun c3 H3 z m3 zv e3 hs3 hm3 r3 hp3 => ?_⟩
    have r1 := (r1.mono e2).mono e3
    have r2 := r2.mono e3
    split at hp3
    · rename_i kvs k q hk
      obtain ⟨b, vs, hb, hx, z, al⟩ := dctAt_ok hm3 r1 q
      cases hb
      have := keyW_ok r2 hk
      subst this
      refine ⟨_, DGet.k hx, ?_⟩
      cases hg : getW kvs k with
      | none =>
        rw [al.none hg]
        rw [hg] at hp3
        exact hp3.ok hm3 _ r3
      | some w' =>
        obtain ⟨u, hu, ru⟩ := al.get hg
        rw [hu]
        rw [hg] at hp3
        exact hp3.ok hm3 _ ru
    · exact hp3.elim
  · exact hp1.elim
theorem din_t {neg : Bool} {σ : L2.St} {H : Hp} {Q : VK} (h : T X.K U (eDIn neg g f) σ H Q) : T X.K U g σ H fun y H1 => T X.K U f σ H1 fun x H2 => ∃ a o, x = .ref a ∧ DGet H2 a y o ∧ Q (.bl (if neg = true then !o.isSome else o.isSome)) H2 := by
  obtain ⟨c, s, m, hs, hm, hp⟩ := h
  refine T.run hs hm hp fun c1 H1 y m1 yv e1 hs1 hm1 r1 hp1 => T.run hs1 hm1 hp1 fun c2 H2 w m2 v e2 hs2 hm2 r2 hp2 => ?_
  have r1 := r1.mono e2
  split at hp2
  · rename_i kvs k q hk
    obtain ⟨a, vs, rfl, hx, z, al⟩ := dctAt_ok hm2 r2 q
    have := keyW_ok r1 hk
    subst this
    refine ⟨a, _, rfl, DGet.k hx, ?_⟩
    rw [al.isSome]
    exact hp2.ok hm2 _ (.p (.bl _))
  · exact hp2.elim
theorem pc_in_t (hu : X.A.units + 1 < cLine) (hi : PE X i (T X.K U g)) (ho : PE X o (T X.K U f)) : PC X .In i o (T X.K U (eDIn false g f)) := ⟨fun pins s σ H Q I hw => (pc_din hu hi ho).run pins s σ H Q I (din_t hw)⟩
theorem pc_notin_t (hu : X.A.units + 1 < cLine) (hi : PE X i (T X.K U g)) (ho : PE X o (T X.K U f)) : PC X .NotIn i o (T X.K U (eDIn true g f)) := ⟨fun pins s σ H Q I hw => (pc_dnotin hu hi ho).run pins s σ H Q I (din_t hw)⟩
theorem x_din (hu : X.A.units + 1 < cLine) (hi : PE X i (T X.K U g)) (ho : PE X o (T X.K U f)) (h1 : behindInMarks .In o = false := by first | exact nomark _ | rfl | with_unfolding_all rfl) : PE X (.Compare i [.In] [o] pos) (T X.K U (eDIn false g f)) := pe_cmp (pc_in_t hu hi ho) h1
theorem x_dnotin (hu : X.A.units + 1 < cLine) (hi : PE X i (T X.K U g)) (ho : PE X o (T X.K U f)) (h1 : behindInMarks .NotIn o = false := by first | exact nomark _ | rfl | with_unfolding_all rfl) : PE X (.Compare i [.NotIn] [o] pos) (T X.K U (eDIn true g f)) := pe_cmp (pc_notin_t hu hi ho) h1
theorem tB_of {σ : L2.St} {H : Hp} {Q : Bool → Hp → Prop} (h : TB X.K U (bVal f) σ H Q) : tB (T X.K U f) σ H Q := by
  obtain ⟨c, s, m, hs, hm, hp⟩ := h
  refine T.run hs hm hp fun c1 H1 w m1 v e1 hs1 hm1 r1 hp1 => ?_
  unfold boolOf at hp1
  split at hp1
  · cases r1 with | p r1 =>
    cases r1
    exact ⟨_, rfl, hp1.ok hm1⟩
  · exact hp1.elim
theorem b_din (hu : X.A.units + 1 < cLine) (hi : PE X i (T X.K U g)) (ho : PE X o (T X.K U f)) (h1 : behindInMarks .In o = false := by first | exact nomark _ | rfl | with_unfolding_all rfl) : PT X (.Compare i [.In] [o] pos) (TB X.K U (bVal (eDIn false g f))) := impT (pt_cmp (pc_in_t hu hi ho) h1) fun _ _ _ h => tB_of h
theorem b_dnotin (hu : X.A.units + 1 < cLine) (hi : PE X i (T X.K U g)) (ho : PE X o (T X.K U f)) (h1 : behindInMarks .NotIn o = false := by first | exact nomark _ | rfl | with_unfolding_all rfl) : PT X (.Compare i [.NotIn] [o] pos) (TB X.K U (bVal (eDIn true g f))) := impT (pt_cmp (pc_notin_t hu hi ho) h1) fun _ _ _ h => tB_of h
end

/-! ### dict displays -/
def mergeW (kvs more : List (Key × W)) : List (Key × W) := more.foldl (fun acc kv => putW acc kv.1 kv.2) kvs
def dpGo : List (EX W × EX W) → EX (List (Key × W))
  | [], _, m => .ok [] m
  | p :: r, s, m => (p.1 s m).bind fun k m1 => (p.2 s m1).bind fun v m2 => match keyW k with
    | some kk => (dpGo r s m2).bind fun l m3 => .ok ((kk, v) :: l) m3
    | none => .stuck
def eDisp (ps : List (EX W × EX W)) : EX W := fun s m => (dpGo ps s (m ++ [.dct []])).bind fun l m1 => if decide (l.length ≤ 15) = true then (match m1[m.length]? with
  | some (.dct []) => .ok (.loc m.length) (m1.set m.length (.dct (mergeW [] l)))
  | _ => .stuck) else .stuck
section
variable {K : PySem.W.Frag} {c : Cfg} {H : Hp} {m : Hm}
theorem Al.mono {c' : Cfg} {H' : Hp} {vs : List (Key × V)} {ws : List (Key × W)} (e : Ext c H c' H') (h : Al K c H vs ws) : Al K c' H' vs ws := h.sub e.sub
theorem Al.merge : ∀ {more : List (Key × V)} {more' : List (Key × W)} {vs : List (Key × V)} {ws : List (Key × W)}, Al K c H more more' → Al K c H vs ws → Al K c H (mergeK vs more) (mergeW ws more') := by
  intro more more' vs ws h
  induction h generalizing vs ws with
  | nil => exact id
  | cons r t ih => exact fun q => ih (q.put r)
theorem mergeK_len : ∀ {more vs : List (Key × V)}, (mergeK vs more).length ≤ vs.length + more.length
  | [], vs => by simp [mergeK]
  | kv :: more, vs => by
    have h1 := mergeK_len (more := more) (vs := putK vs kv.1 kv.2)
    have h2 := putK_len (vs := vs) (k := kv.1) (v := kv.2)
    have e : mergeK vs (kv :: more) = mergeK (putK vs kv.1 kv.2) more := rfl
    rw [e]
    simp only [List.length_cons]
    omega
theorem dp_imp {U : WX} {σ : L2.St} {s : Ev} {α : Type} {R : Cfg → Hp → α → Hm → Prop} : ∀ (ps : List (EX W × EX W)) {c : Cfg} {H : Hp} {m : Hm} {k : List (Key × W) → Hm → Res α} {Q : List (V × V) → Hp → Prop}, SRel K c H s σ → HRel K c m H → Post K U σ c H R ((dpGo ps s m).bind k) →
    (∀ c1 H1 l m1 (kvs : List (Key × V)), Ext c H c1 H1 → SRel K c1 H1 s σ → HRel K c1 m1 H1 → Al K c1 H1 kvs l → Post K U σ c1 H1 R (k l m1) → Q (kvs.map fun kv => (kV kv.1, kv.2)) H1) → tPairs (ps.map fun p => (T K U p.1, T K U p.2)) σ H Q
  | [], c, H, m, k, Q, hs, hm, hp, h => h c H [] m [] .refl hs hm .nil hp
  | p :: ps, c, H, m, k, Q, hs, hm, hp, h => by
    unfold dpGo at hp
    rw [Res.bind_assoc] at hp
    refine T.run hs hm hp fun c1 H1 w m1 v e1 hs1 hm1 r1 hp1 => ?_
    rw [Res.bind_assoc] at hp1
    refine T.run hs1 hm1 hp1 fun c2 H2 w2 m2 v2 e2 hs2 hm2 r2 hp2 => ?_
    have r1 := r1.mono e2
    split at hp2
    · rename_i kk hk
      rw [Res.bind_assoc] at hp2
      refine dp_imp ps hs2 hm2 hp2 fun c3 H3 l m3 kvs e3 hs3 hm3 al hp3 => ?_
      have := keyW_ok r1 hk
      subst this
      exact h c3 H3 _ m3 ((kk, v2) :: kvs) ((e1.trans e2).trans e3) hs3 hm3 (.cons (r2.mono e3) al) hp3
    · exact hp2.elim
theorem x_disp {X : Cx} {U : WX} {pos : Pos} {keys : List (Option Expr)} {values : List Expr} {ps : List (EX W × EX W)} (h : PPs X pos keys values (ps.map fun p => (T X.K U p.1, T X.K U p.2))) (hall : keys.all (·.isSome) = true := by rfl) (hl : keys.length = values.length := by rfl) (h0 : keys ≠ [] := by simp) (h15 : keys.length ≤ 15 := by simp) :
    PE X (.Dict keys values pos) (T X.K U (eDisp ps)) := by
  refine imp (pe_disp h hall hl h0 h15) ?_
  rintro σ H Q ⟨c, s, m, hs, hm, hp⟩
  intro p hpn
  have e0 : Ext c H ⟨c.fb, c.rho ++ [p]⟩ (upd H p (.dK [])) := Ext.cell hpn
  have hm0 : HRel X.K ⟨c.fb, c.rho ++ [p]⟩ (m ++ [.dct []]) (upd H p (.dK [])) := hm.cell hpn ⟨[], upd_same, Nat.zero_le _, rfl, .nil⟩
  have atp : (⟨c.fb, c.rho ++ [p]⟩ : Cfg).rho[m.length]? = some p := by rw [← hm.len]; simp
  have hp := hp.ext e0
  unfold eDisp at hp
  refine dp_imp ps (hs.mono e0) hm0 hp fun c1 H1 l m1 kvs e1 hs1 hm1 al hp1 => ?_
  split at hp1
  · rename_i hl
    have hl := of_decide_eq_true hl
    split at hp1
    · rename_i q
      have at1 := e1.at atp
      obtain ⟨vs, hx, z, al0⟩ := hm1.dct at1 q
      have : vs = [] := by cases al0; rfl
      subst this
      have ln := al.len
      refine ⟨hx, kvs, rfl, by omega, ?_⟩
      have ex : Ext c1 H1 c1 (upd H1 p (.dK (mergeK [] kvs))) := Ext.write at1
      have al2 := (Al.merge (al.mono ex) (vs := []) (ws := []) .nil)
      have ml := mergeK_len (more := kvs) (vs := [])
      exact hp1 c1 _ ex (hm1.write at1 ⟨_, upd_same, by rw [sizeLine_eq]; simp at ml; omega, al2.to.1, al2.to.2⟩) _ (.loc at1)
    · exact hp1.elim
  · exact hp1.elim
end
end Mir

namespace Mir
open PySem PySem.Spec PyProof.Rows L2

/-! ### dict comprehensions over lists, tuples, zips -/
def dcC (k : Nat) (gs : List (Nat × List W)) (t : Tg) (g : EX Bool) (fk fv : EX W) (s : Ev) : List W → Hm → Res Unit
  | [], m => if gOk m gs = true then .ok () m else .stuck
  | w :: r, m => if gOk m gs = true then (match t.put w s with
    | none => .stuck
    | some s1 => match g s1 m with
      | .ok b m1 => if b = true then (match fk s1 m1 with
          | .ok y m2 => (match fv s1 m2 with
            | .ok z m3 => (match m3[k]?, keyW y with
              | some (.dct kvs), some kk => if kvs.length < sizeLine then dcC k gs t g fk fv s r (m3.set k (.dct (putW kvs kk z))) else .stuck
              | _, _ => .stuck)
            | _ => .stuck)
          | _ => .stuck) else dcC k gs t g fk fv s r m1
      | _ => .stuck) else .stuck
def eDc (src : IX) (t : Tg) (g : EX Bool) (fk fv : EX W) (vs : List Nat) : EX W := fun s m => (src s m).bind fun sc m1 => (dcC m1.length sc.gs t g fk fv (wipeE s vs) sc.items (m1 ++ [.dct []])).bind fun _ m2 => .ok (.loc m1.length) m2
theorem dc_imp {K : PySem.W.Frag} {U : WX} {src : IX} {t : Tg} {g : EX Bool} {fk fv : EX W} {vs : List Nat} (hv : t.inn vs = true) {σ : L2.St} {H : Hp} {Q : VK} (h : T K U (eDc src t g fk fv vs) σ H Q) : tDc (TI' K U src) (TG' K t) (TB K U0 g) (T K U0 fk) (T K U0 fv) vs σ H Q := by
  obtain ⟨c, s, m, hs, hm, hp⟩ := h
  unfold eDc at hp
  refine TI'.run hs hm hp fun c1 H1 sc m1 J e1 hs1 hm1 hJ hp1 => ?_
  intro D hD
  have eD : Ext c1 H1 ⟨c1.fb, c1.rho ++ [D]⟩ (upd H1 D (.dK [])) := Ext.cell hD
  have hmD : HRel K ⟨c1.fb, c1.rho ++ [D]⟩ (m1 ++ [.dct []]) (upd H1 D (.dK [])) := hm1.cell hD ⟨[], upd_same, Nat.zero_le _, rfl, .nil⟩
  have atD : (⟨c1.fb, c1.rho ++ [D]⟩ : Cfg).rho[m1.length]? = some D := by rw [← hm1.len]; simp
  have hsD := hs1.mono eD
  refine ⟨fun i me H => i ≤ sc.items.length ∧ me = sc.items.length - i ∧ ∃ c m, Ext ⟨c1.fb, c1.rho ++ [D]⟩ (upd H1 D (.dK [])) c H ∧ HRel K c m H ∧
    Post K U σ c H (RQ K Q) ((dcC m1.length sc.gs t g fk fv (wipeE s vs) (sc.items.drop i) m).bind fun _ m2 => .ok (.loc m1.length) m2), ⟨sc.items.length, Nat.zero_le _, by simp, _, _, .refl, hmD, by simpa using hp1.ext eD⟩, ?_⟩
  rintro i me H ⟨hi, rfl, c, m, e, hm, hp⟩
  by_cases hi2 : i < sc.items.length
  case neg =>
    have hi3 : sc.items.length ≤ i := by omega
    rw [List.drop_eq_nil_of_le hi3] at hp
    unfold dcC at hp
    by_cases hg : gOk m sc.gs = true
    case neg => rw [if_neg hg] at hp; exact hp.elim
    rw [if_pos hg] at hp
    exact .inl ⟨(hJ c H m (eD.trans e) hm hg i).1 (by omega), hp.ok hm _ (.loc (e.at atD))⟩
  case pos =>
    rw [List.drop_eq_getElem_cons hi2] at hp
    unfold dcC at hp
    by_cases hg : gOk m sc.gs = true
    case neg => rw [if_neg hg] at hp; exact hp.elim
    rw [if_pos hg] at hp
    obtain ⟨go, yl⟩ := (hJ c H m (eD.trans e) hm hg i).2 _ (List.getElem?_eq_getElem hi2)
    cases es1 : t.put sc.items[i] (wipeE s vs) with
    | none => rw [es1] at hp; exact hp.elim
    | some s1 =>
    rw [es1] at hp
    refine .inr ⟨go, fun H' => ∃ c m, Ext ⟨c1.fb, c1.rho ++ [D]⟩ (upd H1 D (.dK [])) c H' ∧ HRel K c m H' ∧ Post K U σ c H' (RQ K Q) ((dcC m1.length sc.gs t g fk fv (wipeE s vs) (sc.items.drop (i + 1)) m).bind fun _ m2 => .ok (.loc m1.length) m2), fun H' q => ⟨_, by omega, by omega, rfl, q⟩, fun x H' y => ?_⟩
    obtain ⟨yy, rx⟩ := yl x H' y
    obtain ⟨ey, hmy⟩ := yld_ext hm yy
    have e2 := e.trans ey
    refine ⟨c, wipeE s vs, _, s1, ((hsD.mono e2).wipe vs), rx, es1, fun σ2 hs2 hwp => ⟨?_, ?_⟩⟩
    · rw [hwp vs hv]
      exact wipe_wipe σ vs
    refine ⟨c, s1, m, hs2, hmy, ?_⟩
    have hp := hp.ext ey
    cases eg : g s1 m with
    | stuck => simp only [eg] at hp; exact hp.elim
    | exc x m2 => simp only [eg] at hp; exact hp.elim
    | ok b m2 =>
    simp only [eg] at hp
    intro c3 H3 e3 hm3
    have hp := hp.ext e3
    cases b with
    | false =>
      simp only [Bool.false_eq_true, if_false] at hp ⊢
      exact ⟨c3, m2, e2.trans e3, hm3, hp⟩
    | true =>
    simp only [if_true] at hp ⊢
    refine ⟨c3, s1, m2, hs2.mono e3, hm3, ?_⟩
    cases ek : fk s1 m2 with
    | stuck => simp only [ek] at hp; exact hp.elim
    | exc x m3 => simp only [ek] at hp; exact hp.elim
    | ok ky m3 =>
    simp only [ek] at hp
    intro c4 H4 e4 hm4 kv rk
    have hp := hp.ext e4
    refine ⟨c4, s1, m3, (hs2.mono e3).mono e4, hm4, ?_⟩
    cases ef : fv s1 m3 with
    | stuck => simp only [ef] at hp; exact hp.elim
    | exc x m5 => simp only [ef] at hp; exact hp.elim
    | ok w m5 =>
    simp only [ef] at hp
    intro c8 H8 e8 hm8 v rv
    have hp := hp.ext e8
    have eall := (e2.trans e3).trans (e4.trans e8)
    have hDr := eall.at atD
    split at hp
    · rename_i kvs kk q hk
      split at hp
      · rename_i hl
        have := keyW_ok (rk.mono e8) hk
        subst this
        obtain ⟨xs, hx, z, al⟩ := hm8.dct hDr q
        have ln := al.len
        have ex : Ext c8 H8 c8 (upd H8 D (.dK (putK xs kk v))) := Ext.write hDr
        have al2 := (al.put (k := kk) rv).sub ex.sub
        have pl := putK_len (vs := xs) (k := kk) (v := v)
        exact ⟨xs, kk, rfl, hx, by omega, c8, m5.set m1.length (.dct (putW kvs kk w)), eall.trans ex, hm8.write hDr (x := .dct (putW kvs kk w)) ⟨putK xs kk v, upd_same, by omega, al2.to.1, al2.to.2⟩, hp.ext ex⟩
      · exact hp.elim
    · exact hp.elim
section
variable {X : Cx} {U : WX} {kx vx tg iter : Expr} {ifs : List Expr} {scope : Scope} {own : List (Str × Nat)} {pos : Pos} {src : IX} {t : Tg} {g : EX Bool} {fk fv : EX W}
theorem x_dc (hv : t.inn (own.map (·.2)) = true) (hc : X.calm = true) (hN : X.N.Nodup) (hi : PI X tg iter (TI' X.K U src)) (bo : BlkOk X.N X.env.scope scope own)
    (hg : ∀ (s : Shared) (H : Hp) (C : Addr) (cl : List (Str × Addr)) (fp : List Addr), PG (X.blk s H scope (compEnvC scope cl C X.env) fp) tg (TG' X.K t)) (ht : ∀ (s : Shared) (H : Hp) (C : Addr) (cl : List (Str × Addr)) (fp : List Addr), PTs (X.blk s H scope (compEnvC scope cl C X.env) fp) ifs (TB X.K U0 g))
    (hk : ∀ (s : Shared) (H : Hp) (C : Addr) (cl : List (Str × Addr)) (fp : List Addr), PE (X.blk s H scope (compEnvC scope cl C X.env) fp) kx (T X.K U0 fk))
    (he : ∀ (s : Shared) (H : Hp) (C : Addr) (cl : List (Str × Addr)) (fp : List Addr), PE (X.blk s H scope (compEnvC scope cl C X.env) fp) vx (T X.K U0 fv)) (hs : ∀ x, foldedSetIterable iter X.env x = pure x := by intro _; rfl) :
    PE X (.DictComp kx vx [⟨tg, iter, ifs, 0⟩] scope pos) (T X.K U (eDc src t g fk fv (own.map (·.2)))) :=
  imp (pe_dc hc hN hi bo hg ht hk he hs) fun _ _ _ h => dc_imp hv h
end

/-! ### {k: d[k] for k in d}: the same once more -/
def nodupB (ks : List Key) : Bool := decide ks.Nodup
def eDCopy (i j : Nat) : EX W := fun s m => match s[i]? with
  | some (some w) => (match dctAt w m with
    | some kvs => if (nodupB (kvs.map (·.1)) && decide (j < s.length)) = true then .ok (.loc m.length) (m ++ [.dct kvs]) else .stuck
    | none => .stuck)
  | _ => .stuck
theorem putK_app {vs : List (Key × V)} {k : Key} {v : V} (h : k ∉ vs.map (·.1)) : putK vs k v = vs ++ [(k, v)] := by
  unfold putK
  rw [if_neg]
  rw [List.any_eq_true]
  rintro ⟨x, hx, e⟩
  exact h (List.mem_map.mpr ⟨x, hx, by simpa using e⟩)
theorem putK_take {vs : List (Key × V)} (nd : (vs.map (·.1)).Nodup) {i : Nat} {k : Key} {v : V} (e : vs[i]? = some (k, v)) : putK (vs.take i) k v = vs.take (i + 1) := by
  obtain ⟨hi, e⟩ := List.getElem?_eq_some_iff.mp e
  rw [putK_app, List.take_succ, List.getElem?_eq_getElem hi, e]
  · rfl
  · intro hm
    obtain ⟨x, hx, ek⟩ := List.mem_map.mp hm
    obtain ⟨j, hj, ej⟩ := List.mem_iff_getElem.mp hx
    have hj2 : j < i := by simp at hj; omega
    rw [List.getElem_take] at ej
    have h1 : (vs.map (·.1))[j]'(by simp; omega) = (vs.map (·.1))[i]'(by simpa using hi) := by simp [ej, ek, e]
    have := (List.getElem_inj nd).mp h1
    omega
theorem val_at {vs : List (Key × V)} (nd : (vs.map (·.1)).Nodup) {i : Nat} {k : Key} {v : V} (e : vs[i]? = some (k, v)) : valV vs k = some v := by
  have hm := List.mem_of_getElem? e
  unfold valV
  induction vs generalizing i with
  | nil => simp at e
  | cons p vs ih =>
    rw [List.map_cons, List.nodup_cons] at nd
    rw [List.find?_cons]
    by_cases q : p.1 = k
    · rw [decide_eq_true q]
      cases i with
      | zero => simp at e; simp [e]
      | succ i =>
        exfalso
        have e' : vs[i]? = some (k, v) := by simpa using e
        exact nd.1 (List.mem_map.mpr ⟨_, List.mem_of_getElem? e', q.symm⟩)
    · rw [decide_eq_false q]
      cases i with
      | zero => simp at e; simp [e] at q
      | succ i =>
        have e' : vs[i]? = some (k, v) := by simpa using e
        exact ih nd.2 e' (List.mem_of_getElem? e')
theorem upd_comm {H : Hp} {a b : Addr} {o u : HO} (h : a ≠ b) : upd (upd H a o) b u = upd (upd H b u) a o := by
  funext x
  unfold upd
  by_cases h1 : x = a
  · subst h1; simp [h]
  · by_cases h2 : x = b
    · simp [h1, h2]; exact fun e => (h e.symm).elim
    · simp [h1, h2]
theorem upd_id {H : Hp} {a : Addr} {o : HO} (h : H a = some o) : upd H a o = H := by
  funext x
  unfold upd
  by_cases h1 : x = a
  · subst h1; simp [h]
  · simp [h1]
section
variable {U : WX} {i j : Nat}
theorem dcopy_imp {K : PySem.W.Frag} {σ : L2.St} {H : Hp} {Q : VK} (hij : i ≠ j) (h : T K U (eDCopy i j) σ H Q) : ∃ d u, H d = some u ∧ Mut (some u) ∧ ∀ od, tDc (iKeys (tVar i)) (gName j) tYes (tVar j) (tDGet (tVar i) (tVar j)) [j] σ (upd H d (.frz od u)) fun v H' => H' d = some (.frz od u) ∧ Q v (upd H' d u) := by
  obtain ⟨c, s, m, hsr, hm, hp⟩ := h
  unfold eDCopy at hp
  split at hp
  · rename_i w hw
    split at hp
    · rename_i kvs hq
      split at hp
      · rename_i hnd
        rw [Bool.and_eq_true] at hnd
        obtain ⟨v, hv, rv⟩ := hsr.2 i w hw
        obtain ⟨d, vs, rfl, hx, z, al⟩ := dctAt_ok hm rv hq
        have nd : (vs.map (·.1)).Nodup := by rw [al.to.1]; exact of_decide_eq_true hnd.1
        have hjl : j < σ.length := by rw [← hsr.1]; exact of_decide_eq_true hnd.2
        refine ⟨d, .dK vs, hx, trivial, fun od => ?_⟩
        have hd1 : upd H d (.frz od (.dK vs)) d = some (.frz od (.dK vs)) := upd_same
        refine ⟨.ref d, hv, d, od, rfl, .inl ⟨vs, hd1, fun D hD => ?_⟩⟩
        have hDd : D ≠ d := fun e => by subst e; rw [hd1] at hD; cases hD
        have hD0 : H D = none := by rw [upd_ne hDd] at hD; exact hD
        refine ⟨fun n me H' => n ≤ vs.length ∧ me = vs.length - n ∧ H' = upd (upd H d (.frz od (.dK vs))) D (.dK (vs.take n)), ⟨vs.length, Nat.zero_le _, by simp, by simp⟩, ?_⟩
        rintro n me H' ⟨hn, rfl, rfl⟩
        have hd2 : upd (upd H d (.frz od (.dK vs))) D (.dK (vs.take n)) d = some (.frz od (.dK vs)) := by rw [upd_ne hDd.symm]; exact hd1
        by_cases hn2 : n < vs.length
        · refine .inr ⟨⟨hd2, hn2⟩, fun H' => H' = upd (upd H d (.frz od (.dK vs))) D (.dK (vs.take (n + 1))), fun H' e => ⟨_, by omega, by omega, rfl, e⟩, ?_⟩
          rintro x H' ⟨rfl, k, u, e, rfl⟩
          have w1 : wipe σ [j] = σ.set j none := rfl
          have hj2 : ((wipe σ [j]).set j (some (kV k)))[j]? = some (some (kV k)) := by rw [w1, List.getElem?_set_self (by simpa using hjl)]
          have hi2 : ((wipe σ [j]).set j (some (kV k)))[i]? = some (some (.ref d)) := by rw [w1, List.getElem?_set_ne hij.symm, List.getElem?_set_ne hij.symm]; exact hv
          refine ⟨(wipe_set (by simp)).trans (wipe_wipe σ [j]), ?_⟩
          unfold tYes
          simp only [if_true]
          refine ⟨kV k, hj2, .ref d, hi2, kV k, hj2, d, u, rfl, .inl ⟨vs, k, .inr ⟨od, hd2⟩, rfl, (val_at nd e).symm⟩, vs.take n, k, rfl, upd_same, by simp; omega, ?_⟩
          rw [putK_take nd e, upd_upd]
        · have hn3 : n = vs.length := by omega
          subst hn3
          refine .inl ⟨⟨hd2, Nat.le_refl _⟩, hd2, ?_⟩
          rw [List.take_length, upd_comm hDd, upd_upd, upd_id hx]
          have e1 : Ext c H ⟨c.fb, c.rho ++ [D]⟩ (upd H D (.dK vs)) := Ext.cell hD0
          have al2 := al.mono e1
          exact hp _ _ e1 (hm.cell hD0 ⟨vs, upd_same, z, al2.to.1, al2.to.2⟩) _ (.loc (by rw [← hm.len]; simp))
      · exact hp.elim
    · exact hp.elim
  · exact hp.elim
end
section
variable {X : Cx} {U : WX} {kx vx tg iter : Expr} {scope : Scope} {own : List (Str × Nat)} {pos : Pos} {i j : Nat}
theorem x_dcopy (hij : i ≠ j) (ho : own.map (·.2) = [j]) (hc : X.calm = true) (hN : X.N.Nodup) (hi : PE X iter (tVar i)) (bo : BlkOk X.N X.env.scope scope own)
    (hg : ∀ (s : Shared) (H : Hp) (C : Addr) (cl : List (Str × Addr)) (fp : List Addr), PG (X.blk s H scope (compEnvC scope cl C X.env) fp) tg (gName j)) (ht : ∀ (s : Shared) (H : Hp) (C : Addr) (cl : List (Str × Addr)) (fp : List Addr), PTs (X.blk s H scope (compEnvC scope cl C X.env) fp) [] tYes)
    (hk : ∀ (s : Shared) (H : Hp) (C : Addr) (cl : List (Str × Addr)) (fp : List Addr), PE (X.blk s H scope (compEnvC scope cl C X.env) fp) kx (tVar j))
    (he : ∀ (s : Shared) (H : Hp) (C : Addr) (cl : List (Str × Addr)) (fp : List Addr), PE (X.blk s H scope (compEnvC scope cl C X.env) fp) vx (tDGet (tVar i) (tVar j))) (hs : ∀ x, foldedSetIterable iter X.env x = pure x := by intro _; rfl) :
    PE X (.DictComp kx vx [⟨tg, iter, [], 0⟩] scope pos) (T X.K U (eDCopy i j)) := by
  refine imp (pe_lock (pe_dc hc hN (pi_keys hi) bo hg ht hk he hs)) fun σ H Q h => ?_
  obtain ⟨d, u, hd, mu, q⟩ := dcopy_imp hij h
  refine ⟨d, u, hd, mu, fun od => ?_⟩
  rw [ho]
  exact q od
end

/-! ### for k in d: f[k] = d[k] -/
def sDInto (iF iK j : Nat) : SX := fun s m => match s[iF]?, s[iK]? with
  | some (some (.loc nf)), some (some (.loc nk)) => (match m[nf]?, m[nk]? with
    | some (.dct kf), some (.dct kk) => if (nodupB (kk.map (·.1)) && (decide (j < s.length) && (decide (nf ≠ nk) && decide (kf.length + kk.length < sizeLine)))) = true then some (.nx (s.set j none), m.set nf (.dct (mergeW kf kk))) else none
    | _, _ => none)
  | _, _ => none
theorem mergeK_take {vf vs : List (Key × V)} {i : Nat} {k : Key} {v : V} (e : vs[i]? = some (k, v)) : putK (mergeK vf (vs.take i)) k v = mergeK vf (vs.take (i + 1)) := by
  obtain ⟨hi, e⟩ := List.getElem?_eq_some_iff.mp e
  rw [List.take_succ, List.getElem?_eq_getElem hi, e]
  unfold mergeK
  rw [List.foldl_append]
  rfl
section
variable {X : Cx} {U : WX} {tg iter oF oK kE kE2 : Expr} {pos pos1 pos2 pos3 : Pos} {iF iK j : Nat}
theorem s_dinto (hFj : iF ≠ j) (hKj : iK ≠ j) (hu : X.A.units + 1 < cLine) (hp : PassesOwn (model X.prog X.w) X.A X.env X.xe) (hc : X.calm = true) (hi : PE X iter (tVar iK)) (hg : PG X tg (gName j)) (hF : PE X oF (tVar iF)) (hk : PE X kE (tVar j)) (hk2 : PE X kE2 (tVar j)) (hK : PE X oK (tVar iK)) (hsl : NoSl kE2 := by intro _ _; rfl)
    (hsw : swapsWith (.Subscript oK kE2 pos1) (some (.Subscript oF kE pos2)) pos3.line X.env = pure false := by rfl) (hs : ∀ x, foldedSetIterable iter X.env x = pure x := by intro _; rfl) :
    PS X (.For tg iter [.Assign [.Subscript oF kE pos2] (.Subscript oK kE2 pos1) pos3] [] pos) (TSt X.K U (sDInto iF iK j)) := by
  refine impS (ps_lock (ps_for hp hc (pi_keys hi) hg (pss_one (ps_dput hu hF hk (pe_dget hu hK hk2 hsl) hsw)) hs)) ?_
  rintro D σ H ⟨c, s, m, hsr, hm, hps⟩
  unfold sDInto at hps
  split at hps
  · rename_i nf nk h1 h2
    split at hps
    · rename_i kf kk q1 q2
      split at hps
      · rename_i hnd
        rw [Bool.and_eq_true, Bool.and_eq_true, Bool.and_eq_true] at hnd
        obtain ⟨hnd1, hj, hne, hlen⟩ := hnd
        have hne := of_decide_eq_true hne
        have hlen := of_decide_eq_true hlen
        obtain ⟨vF, hvF, rF⟩ := hsr.2 iF _ h1
        obtain ⟨vK, hvK, rK⟩ := hsr.2 iK _ h2
        cases rF with | @loc F _ hF1 =>
        cases rK with | @loc d _ hK1 =>
        obtain ⟨vf, hxF, zF, alF⟩ := hm.dct hF1 q1
        obtain ⟨vs, hx, z, al⟩ := hm.dct hK1 q2
        have hFd : F ≠ d := fun e => by
          subst e
          exact hne ((List.getElem?_inj (List.getElem?_eq_some_iff.mp hF1).1 hm.nd).mp (hF1.trans hK1.symm))
        have nd : (vs.map (·.1)).Nodup := by rw [al.to.1]; exact of_decide_eq_true hnd1
        have hjl : j < σ.length := by rw [← hsr.1]; exact of_decide_eq_true hj
        have ln := al.len
        have lnF := alF.len
        refine ⟨d, .dK vs, hx, trivial, fun od => ?_⟩
        have hd1 : upd H d (.frz od (.dK vs)) d = some (.frz od (.dK vs)) := upd_same
        refine ⟨.ref d, hvK, d, od, rfl, .inl ⟨vs, hd1, ?_⟩⟩
        refine ⟨fun n me σ' H' => n ≤ vs.length ∧ me = vs.length - n ∧ H' = upd (upd H d (.frz od (.dK vs))) F (.dK (mergeK vf (vs.take n))) ∧ ∃ o, σ' = σ.set j o, ⟨vs.length, Nat.zero_le _, by simp, ?_, σ[j], ?_⟩, ?_⟩
        · rw [List.take_zero, upd_comm hFd.symm]
          have : mergeK vf [] = vf := rfl
          rw [this, upd_id hxF]
        · rw [List.set_getElem_self]
        rintro n me σ' H' ⟨hn, rfl, rfl, o, rfl⟩
        have hd2 : upd (upd H d (.frz od (.dK vs))) F (.dK (mergeK vf (vs.take n))) d = some (.frz od (.dK vs)) := by rw [upd_ne hFd.symm]; exact hd1
        by_cases hn2 : n < vs.length
        · refine .inr ⟨⟨hd2, hn2⟩, fun σ' H' => H' = upd (upd H d (.frz od (.dK vs))) F (.dK (mergeK vf (vs.take (n + 1)))) ∧ ∃ o, σ' = σ.set j o, fun σ' H' e => ⟨_, by omega, by omega, rfl, e⟩, ?_⟩
          rintro x H' ⟨rfl, k, u, e, rfl⟩
          have hj2 : ((σ.set j o).set j (some (kV k)))[j]? = some (some (kV k)) := by rw [List.getElem?_set_self (by simpa using hjl)]
          have hi2 : ((σ.set j o).set j (some (kV k)))[iK]? = some (some (.ref d)) := by rw [List.getElem?_set_ne hKj.symm, List.getElem?_set_ne hKj.symm]; exact hvK
          have hi3 : ((σ.set j o).set j (some (kV k)))[iF]? = some (some (.ref F)) := by rw [List.getElem?_set_ne hFj.symm, List.getElem?_set_ne hFj.symm]; exact hvF
          have ml := mergeK_len (more := vs.take n) (vs := vf)
          rw [List.length_take] at ml
          refine ⟨.ref d, hi2, kV k, hj2, d, u, rfl, .inl ⟨vs, k, .inr ⟨od, hd2⟩, rfl, (val_at nd e).symm⟩, .ref F, hi3, kV k, hj2, F, _, rfl, .inl ⟨mergeK vf (vs.take n), k, upd_same, rfl, by omega, rfl⟩, ?_, some (kV k), by rw [List.set_set]⟩
          rw [mergeK_take e, upd_upd]
        · have hn3 : n = vs.length := by omega
          subst hn3
          refine .inl ⟨⟨hd2, Nat.le_refl _⟩, hd2, ?_⟩
          rw [List.take_length, upd_comm hFd, upd_upd, upd_id hx]
          have e1 : Ext c H c (upd H F (.dK (mergeK vf vs))) := Ext.write hF1
          have al2 := (Al.merge al alF).mono e1
          have ml := mergeK_len (more := vs) (vs := vf)
          refine hps c _ e1 (hm.write hF1 (x := .dct (mergeW kf kk)) ⟨_, upd_same, by omega, al2.to.1, al2.to.2⟩) _ ?_
          have h3 := hsr.mono e1
          refine ⟨by simp [h3.1], fun i w q => ?_⟩
          by_cases e : j = i
          · subst e
            rw [List.getElem?_set_self (by rw [h3.1]; exact hjl)] at q
            cases q
          · rw [List.getElem?_set_ne e] at q ⊢
            exact h3.2 i w q
      · exact hps.elim
    · exact hps.elim
  · exact hps.elim
end

/-! ### t * k, l * k -/
theorem tuple_mul1 (l : Addr) (items : Array Value) (n : Nat) (dd : Option Addr) (sl : Array (Option Value)) (u : Tok) :
    Meets (Builtin.«tuple.__mul__» ⟨[.ref l, .int 1 u], []⟩) (fun _ R s => s.heap.get? l = some { cls := .type "tuple", dict := dd, data := .seq items n, slots := sl } ∧ R (.ok (.ret (Value.ref l))) s) :=
  .of_wp fun prog w A R s h => by
    obtain ⟨hp, g, d, tk, os⟩ := s
    obtain ⟨hl, h⟩ := h
    have f1 := AutoSeq1.idx_int
    wp_walk using wpAny_loadPart' hl
    exact ⟨_, rfl, h⟩
def rRepT1 (K : PySem.W.Frag) : R2 := fun x y H Q => ∃ l xs, x = .ref l ∧ y = .int 1 ∧ SqT K H l xs ∧ Q (.ref l) H
theorem op_repT1 {X : Cx} : OpR X (binaryOp .Mult) (rRepT1 X.K) := by
  intro pins s σ H x y v u Q I rx ry h
  obtain ⟨l, xs, rfl, rfl, hT, q⟩ := h
  cases rx
  obtain ⟨t, rfl⟩ := ry
  obtain ⟨its, r, ⟨⟨cls, dd, data, sl⟩, ho, hc, n, hd⟩, hs⟩ := I.tuple hT
  simp only at hc hd
  subst hc hd
  refine wpAny_binaryOp_repeat_ref (T := "tuple") (U := "int") (by decide) ⟨_, ho, rfl⟩ (fun s' => typeIs_int s' 1 t) noFill_tuple_mul F.fills_int_mul F.slot_int_rmul repeat_tuple F.slot_int_index.lookup
    (call_meets F.slot_int_rmul (typeIs_int s 1 t) F.entry_int_rmul (F.args_int_rmul_2 _ _) (int_rmul_tuple 1 t l its.toArray n dd sl)
      ⟨ho, rfl, ⟨_, ho, rfl⟩, call_meets F.slot_tuple_mul ⟨_, ho, rfl⟩ F.entry_tuple_mul (F.args_tuple_mul_2 _ _) (tuple_mul1 l its.toArray n dd sl t) ⟨ho, ?_⟩⟩)
  exact ⟨.ref l, H, I, rfl, q⟩
abbrev rRepAny (K : PySem.W.Frag) : R2 := fun x y H Q => rRepT K x y H Q ∨ (rRepT1 K x y H Q ∨ rRep x y H Q)
theorem op_repAny {X : Cx} : OpR X (binaryOp .Mult) (rRepAny X.K) := op_repT.or (op_repT1.or op_rep)
def repM : W → W → Hm → Res W
  | .p (.tuple ds), .p (.int k), m => if (decide (ds ≠ []) && (decide (1 ≤ k) && (decide (k ≤ 1000) && decide (ds.length ≤ 1000)))) = true then .ok (.p (.tuple (List.replicate k.toNat ds).flatten)) m else .stuck
  | .p (.list ds), .p (.int k), m => if (decide (0 ≤ k) && (decide (k ≤ 1000) && decide (ds.length ≤ 1000))) = true then .ok (.p (.list (List.replicate k.toNat ds).flatten)) m else .stuck
  | _, _, _ => .stuck
theorem RpAll.rep {K : PySem.W.Frag} {c : Cfg} {H : Hp} {xs : List V} {ds : List PyData} (r : RpAll K c H xs ds) : ∀ n : Nat, RpAll K c H (List.replicate n xs).flatten (List.replicate n ds).flatten
  | 0 => .nil
  | n + 1 => by
    rw [List.replicate_succ, List.replicate_succ, List.flatten_cons, List.flatten_cons]
    exact RpAll.append r (RpAll.rep r n)
theorem rep_len {α : Type} (xs : List α) : ∀ n : Nat, (List.replicate n xs).flatten.length = n * xs.length
  | 0 => by simp
  | n + 1 => by
    rw [List.replicate_succ, List.flatten_cons, List.length_append, rep_len xs n, Nat.succ_mul, Nat.add_comm]
theorem repM_ok {K : PySem.W.Frag} : OpM K (rRepAny K) repM := by
  intro U σ c H m v1 v2 w1 w2 Q hm r1 r2 hp
  unfold repM at hp
  split at hp
  · rename_i ds k
    cases r1 with | p r1 => cases r2 with | p r2 =>
    split at hp
    · rename_i hz
      rw [Bool.and_eq_true, Bool.and_eq_true, Bool.and_eq_true] at hz
      obtain ⟨h1, h2, h3, h4⟩ := hz
      have h1 := of_decide_eq_true h1
      have h2 := of_decide_eq_true h2
      have h3 := of_decide_eq_true h3
      have h4 := of_decide_eq_true h4
      cases r2
      obtain ⟨a, xs, rfl, ht, z, q⟩ := r1.tupI
      have ln := q.length
      by_cases hk : k = 1
      · subst hk
        refine .inr (.inl ⟨a, xs, rfl, rfl, ht.sq, ?_⟩)
        have e : (List.replicate (1 : Int).toNat ds).flatten = ds := by simp
        rw [e] at hp
        exact hp.ok hm _ (.p (.tup ht z q))
      · refine .inl ⟨a, k, xs, rfl, rfl, ht.sq, fun e => h1 (q.nil_iff.mp e), by omega, h3, by omega, fun p hpn => ?_⟩
        have hl := rep_len xs k.toNat
        have hl2 : k.toNat * xs.length ≤ 1000 * 1000 := Nat.mul_le_mul (by omega) (by omega)
        exact hp c (upd H p _) (Ext.new hpn) (hm.new hpn) _ (.p (Rp.newT hm hpn (by rw [sizeLine_eq]; omega) (q.rep k.toNat)))
    · exact hp.elim
  · rename_i ds k
    cases r1 with | p r1 => cases r2 with | p r2 =>
    split at hp
    · rename_i hz
      rw [Bool.and_eq_true, Bool.and_eq_true] at hz
      obtain ⟨h2, h3, h4⟩ := hz
      have h2 := of_decide_eq_true h2
      have h3 := of_decide_eq_true h3
      have h4 := of_decide_eq_true h4
      cases r2
      obtain ⟨a, xs, rfl, hx, _, _, z, q⟩ := r1.lstI
      have ln := q.length
      have hl := rep_len xs k.toNat
      have hl2 : k.toNat * xs.length ≤ 1000 * 1000 := Nat.mul_le_mul (by omega) (by omega)
      refine .inr (.inr ⟨a, k, xs, rfl, rfl, hx, by omega, by omega, by rw [sizeLine_eq, Nat.mul_comm]; omega, fun p hpn => ?_⟩)
      exact hp c (upd H p _) (Ext.new hpn) (hm.new hpn) _ (.p (Rp.newL hm hpn (by rw [sizeLine_eq]; omega) (q.rep k.toNat)))
    · exact hp.elim
  · exact hp.elim

/-! ### name = {..} with the name a local -/
section
variable {X : Cx} {kx vx tg iter : Expr} {ifs : List Expr} {scope : Scope} {own : List (Str × Nat)} {pos spos py : Pos} {wi : TI} {g : TG} {tt : TT} {tk tv : TE} {i : Nat} {y : Str}
theorem ps_setDc (hc : X.calm = true) (hN : X.N.Nodup) (hy : X.N[i]? = some y) (hyl : X.env.scope.names.lookup y = some .local)
    (hsw : swapsWith (.DictComp kx vx [⟨tg, iter, ifs, 0⟩] scope pos) (some (.Name y py)) spos.line X.env = pure true) (hi : PI X tg iter wi) (ok : BlkOk X.N X.env.scope scope own)
    (hg : ∀ (s : Shared) (H : Hp) (C : Addr) (cl : List (Str × Addr)) (fp : List Addr), PG (X.blk s H scope (compEnvC scope cl C X.env) fp) tg g) (ht : ∀ (s : Shared) (H : Hp) (C : Addr) (cl : List (Str × Addr)) (fp : List Addr), PTs (X.blk s H scope (compEnvC scope cl C X.env) fp) ifs tt)
    (hk : ∀ (s : Shared) (H : Hp) (C : Addr) (cl : List (Str × Addr)) (fp : List Addr), PE (X.blk s H scope (compEnvC scope cl C X.env) fp) kx tk)
    (he : ∀ (s : Shared) (H : Hp) (C : Addr) (cl : List (Str × Addr)) (fp : List Addr), PE (X.blk s H scope (compEnvC scope cl C X.env) fp) vx tv) (hs : ∀ x, foldedSetIterable iter X.env x = pure x := by intro _; rfl) :
    PS X (.Assign [.Name y py] (.DictComp kx vx [⟨tg, iter, ifs, 0⟩] scope pos) spos) (tAsg (tDc wi g tt tk tv (own.map (·.2))) (gName i)) := by
  refine ⟨fun pins s σ H D I h => ?_⟩
  rw [exec_Assign_Name_used _ _ _ _ hsw]
  refine wpAny_bind (wpAny_standAt (wpAny_bind ?_))
  show wpAny _ X.A (do let _ ← comprehension (.DictComp kx vx [⟨tg, iter, ifs, 0⟩] scope pos) scope X.env (firstIterPos [⟨tg, iter, ifs, 0⟩] pos) newDict false (eval iter X.env) (some (assign (.Name y py) X.env))) _ _ s
  have h : tDc wi g tt tk tv (own.map (·.2)) σ H (fun x H1 => gName i x σ H1 D.nx) := h
  refine wpAny_bind (thn (dc_core (Qf := fun _ s' => SP X pins D .next s') hc hN I hi ok hg ht hk he hs h fun L C s' m H' I' q hn f => ?_) fun _ s' hq => wpAny_pure (wpAny_pure hq))
  show wpAny _ _ (assign (.Name y py) X.env (.ref L)) _ _ _
  refine wpAny_assign_Name (store_ok2 (v := V.ref L) I' hN hy (.inl hyl) rfl (fun s2 I2 ⟨a, sb, ha⟩ => ?_) (.inr hyl))
  obtain ⟨f0, f1, f2, f3, f4, f5⟩ := f
  have haC : C ≠ a := by
    rcases ha with z | z
    · rw [z]; exact f1
    · exact fun e => f4 y a z e.symm
  refine ⟨m, hn.sameBut sb haC, fun h3 sb3 => ?_⟩
  exact ⟨_, H', I2.turned (t' := s2.toks) (fun b o hb e => (sb3.2 b hb).trans e) f0 f1 f3 f4 f5, q⟩
theorem sw_trueD {elt elt2 : Expr} {gs : List Comprehension} {scope : Scope} {pos py : Pos} {y : Str} {l : Nat} {env : Env} (hk : env.scope.kind = .function) (hy : env.scope.names.lookup y = some .local) (hl : (py.line == pos.line) = true)
    (ha : (scope.names.any fun (n, k) => n == y && (k == .local || k == .cell)) = false) : swapsWith (.DictComp elt elt2 gs scope pos) (some (.Name y py)) l env = pure true := by
  have ky : env.kindOf y = some .local := hy
  have hb : env.blockKind = .function := by unfold Env.blockKind; rw [hk]; rfl
  unfold swapsWith
  simp only [hb, ky, ha, Expr.pos, hl]
  rfl
theorem s_setDc {U : WX} {src : IX} {t : Tg} {g : EX Bool} {fk fv : EX W} (hv : t.inn (own.map (·.2)) = true) (hc : X.calm = true) (hN : X.N.Nodup) (hy : X.N[i]? = some y) (hyl : X.env.scope.names.lookup y = some .local)
    (hsw : swapsWith (.DictComp kx vx [⟨tg, iter, ifs, 0⟩] scope pos) (some (.Name y py)) spos.line X.env = pure true) (hi : PI X tg iter (TI' X.K U src)) (ok : BlkOk X.N X.env.scope scope own)
    (hg : ∀ (s : Shared) (H : Hp) (C : Addr) (cl : List (Str × Addr)) (fp : List Addr), PG (X.blk s H scope (compEnvC scope cl C X.env) fp) tg (TG' X.K t)) (ht : ∀ (s : Shared) (H : Hp) (C : Addr) (cl : List (Str × Addr)) (fp : List Addr), PTs (X.blk s H scope (compEnvC scope cl C X.env) fp) ifs (TB X.K U0 g))
    (hk : ∀ (s : Shared) (H : Hp) (C : Addr) (cl : List (Str × Addr)) (fp : List Addr), PE (X.blk s H scope (compEnvC scope cl C X.env) fp) kx (T X.K U0 fk))
    (he : ∀ (s : Shared) (H : Hp) (C : Addr) (cl : List (Str × Addr)) (fp : List Addr), PE (X.blk s H scope (compEnvC scope cl C X.env) fp) vx (T X.K U0 fv)) (hs : ∀ x, foldedSetIterable iter X.env x = pure x := by intro _; rfl) :
    PS X (.Assign [.Name y py] (.DictComp kx vx [⟨tg, iter, ifs, 0⟩] scope pos) spos) (TSt X.K U (sSet i (eDc src t g fk fv (own.map (·.2))))) := by
  refine impS (ps_setDc hc hN hy hyl hsw hi ok hg ht hk he hs) fun D σ H h => ?_
  obtain ⟨c, s, m, hs, hm, hp⟩ := h
  exact dc_imp hv ⟨c, s, m, hs, hm, Post.st hs hp fun c1 H1 a m1 e1 hs1 hm1 hp1 v rv => hp1.ok hm1 _ (hs1.set rv)⟩
end
section
variable {X : Cx} {U : WX} {kx vx tg iter : Expr} {scope : Scope} {own : List (Str × Nat)} {pos spos py : Pos} {i j n : Nat} {y : Str}
theorem s_setDCopy (hij : i ≠ j) (ho : own.map (·.2) = [j]) (hc : X.calm = true) (hN : X.N.Nodup) (hy : X.N[n]? = some y) (hyl : X.env.scope.names.lookup y = some .local)
    (hsw : swapsWith (.DictComp kx vx [⟨tg, iter, [], 0⟩] scope pos) (some (.Name y py)) spos.line X.env = pure true) (hi : PE X iter (tVar i)) (bo : BlkOk X.N X.env.scope scope own)
    (hg : ∀ (s : Shared) (H : Hp) (C : Addr) (cl : List (Str × Addr)) (fp : List Addr), PG (X.blk s H scope (compEnvC scope cl C X.env) fp) tg (gName j)) (ht : ∀ (s : Shared) (H : Hp) (C : Addr) (cl : List (Str × Addr)) (fp : List Addr), PTs (X.blk s H scope (compEnvC scope cl C X.env) fp) [] tYes)
    (hk : ∀ (s : Shared) (H : Hp) (C : Addr) (cl : List (Str × Addr)) (fp : List Addr), PE (X.blk s H scope (compEnvC scope cl C X.env) fp) kx (tVar j))
    (he : ∀ (s : Shared) (H : Hp) (C : Addr) (cl : List (Str × Addr)) (fp : List Addr), PE (X.blk s H scope (compEnvC scope cl C X.env) fp) vx (tDGet (tVar i) (tVar j))) (hs : ∀ x, foldedSetIterable iter X.env x = pure x := by intro _; rfl) :
    PS X (.Assign [.Name y py] (.DictComp kx vx [⟨tg, iter, [], 0⟩] scope pos) spos) (TSt X.K U (sSet n (eDCopy i j))) := by
  refine impS (ps_lock (ps_setDc hc hN hy hyl hsw (pi_keys hi) bo hg ht hk he hs)) fun D σ H h => ?_
  obtain ⟨c, s, m, hs, hm, hp⟩ := h
  obtain ⟨d, u, hd, mu, q⟩ := dcopy_imp (Q := fun v H' => D.nx (σ.set n (some v)) H') hij ⟨c, s, m, hs, hm, Post.st hs hp fun c1 H1 a m1 e1 hs1 hm1 hp1 v rv => hp1.ok hm1 _ (hs1.set rv)⟩
  refine ⟨d, u, hd, mu, fun od => ?_⟩
  rw [ho]
  exact q od
end
end Mir

namespace Mir
open PySem PySem.Spec PyProof.Rows L2

/-! ### enumerate(a tuple) -/
section
open AutoSeq1 (wpAny_loadPart')
theorem meets_enumerate_newT (l : Addr) (items : Array Value) (n : Nat) (dct : Option Addr) (sl : Array (Option Value)) :
    Meets (Builtin.«enumerate.__new__» ⟨[.type "enumerate", .ref l], []⟩) (fun _ R s => s.heap.get? l = some { cls := .type "tuple", dict := dct, data := .seq items n, slots := sl } ∧
      R (.ok (.ret (.ref (s.heap.push { cls := .type "tuple_iterator", data := .fields #[.ref l, .int 0 0] }).objs.size)))
        { s with heap := (s.heap.push { cls := .type "tuple_iterator", data := .fields #[.ref l, .int 0 0] }).push { cls := .type "enumerate", data := .fields #[.none, .bool false, .ref s.heap.objs.size, rawInt 0, .none, .none] } }) :=
  .of_wp fun prog w A R s h => by
    obtain ⟨hp, g, d, tk, os⟩ := s; obtain ⟨hl, h⟩ := h
    have hsub := sub_enumerate
    have hL : Heap.IsTuple (Shared.heap ⟨hp, g, d, tk, os⟩) l items := ⟨_, hl, rfl, n, rfl⟩
    wp_walk using wpAny_loadPart' hl
    refine wpAny_stack_any fun st => wpAny_pure ?_
    split
    · rename_i c _ _ _ _ _
      cases (c == Value.type "enumerate")
      · wp_walk using wpAny_loadPart' hl, wpAny_pyIter_tuple hL
        exact ⟨_, rfl, h⟩
      · wp_walk using wpAny_loadPart' hl, wpAny_pyIter_tuple hL
        exact ⟨_, rfl, h⟩
    · wp_walk using wpAny_loadPart' hl, wpAny_pyIter_tuple hL
      exact ⟨_, rfl, h⟩
end
section
variable {prog : Program} {w : World} {A : Around} {E : Value → Shared → Prop} {s : Shared}
theorem call_enumerate_tuple {l : Addr} {items : Array Value} {Q : Value → Shared → Prop} (hL : s.heap.IsTuple l items)
    (h : ∀ h', IsEnum h' (s.heap.objs.size + 1) s.heap.objs.size 0 .none → h'.IsTupleIter s.heap.objs.size l 0 → h'.objs.size = s.heap.objs.size + 2 →
      (∀ b o, s.heap.get? b = some o → h'.get? b = some o) → Q (.ref (s.heap.objs.size + 1)) { s with heap := h' }) :
    wpAny (model prog w) A (call (.type "enumerate") [.ref l]) Q E s := by
  obtain ⟨⟨c, dct, dt, sl⟩, hl, hc, n, hd⟩ := hL
  replace hc : c = .type "tuple" := hc
  replace hd : dt = .seq items n := hd
  subst hc hd
  refine callType_new F.called_enumerate (by decide) (F.typeCall_enumerate_1 _) (F.newCall_enumerate_1 _) (fun obj => F.args_object_init_2 obj _) F.entry_enumerate_new
    (meets_enumerate_newT l items n dct sl) ⟨hl, ?_⟩
  have hz : (s.heap.push { cls := .type "tuple_iterator", data := .fields #[.ref l, .int 0 0] }).objs.size = s.heap.objs.size + 1 := Heap.size_push ..
  show _ ∧ _
  rw [hz]
  have he : IsEnum ((s.heap.push { cls := .type "tuple_iterator", data := .fields #[.ref l, .int 0 0] }).push
      { cls := .type "enumerate", data := .fields #[.none, .bool false, .ref s.heap.objs.size, rawInt 0, .none, .none] }) (s.heap.objs.size + 1) s.heap.objs.size 0 .none := by
    have := Heap.get?_push_size (s.heap.push { cls := .type "tuple_iterator", data := .fields #[.ref l, .int 0 0] })
      (o := { cls := .type "enumerate", data := .fields #[.none, .bool false, .ref s.heap.objs.size, rawInt 0, .none, .none] }) rfl
    rw [hz] at this; exact this
  refine ⟨⟨_, he, rfl⟩, h _ he ⟨_, Heap.get?_push_of_some _ (Heap.get?_push_size _ rfl), rfl, rfl⟩ (by rw [Heap.size_push, hz]) fun b o x => Heap.get?_push_of_some _ (Heap.get?_push_of_some _ x)⟩
end
/-- the tuple at a as it stands at each turn, each item in a new pair -/
def IteT (K : PySem.W.Frag) (a : Addr) : It :=
  ⟨fun i H => ∃ (xs : List V) (x : V), SqT K H a xs ∧ xs[i]? = some x, fun i H v H' => ∃ T x, v = .ref T ∧ H T = none ∧ H' = upd H T (.tup [.int (i : Nat), x]) ∧ ∀ xs, SqT K H a xs → xs[i]? = some x, fun i H => ∃ xs : List V, SqT K H a xs ∧ xs.length ≤ i⟩
theorem turn_enumT {P : Program} {w : World} {K : PySem.W.Frag} {elts : List Expr} {kk : Nat} {tpos : Pos} (a e it : Addr) (hae : a ≠ e) (hai : a ≠ it) :
    Turn P w K (.Tuple elts kk tpos) (IteT K a) [e, it] e (fun i h => (∃ old, IsEnum h e it ((i : Nat) : Int) old) ∧ h.IsTupleIter it a i ∧ e ≠ it) where
  mem := by simp
  obj := fun i h st b hb => by
    obtain ⟨⟨old, he⟩, ⟨o, ho, hc, hd⟩, _⟩ := st
    have e' : b = e ∨ b = it := by simpa using hb
    rcases e' with z | z
    · rw [z]; exact ⟨_, he, fun v q => nomatch q⟩
    · rw [z]; exact ⟨o, ho, fun v q => by rw [hd] at q; cases q⟩
  keep := fun i h h' st k => let ⟨⟨old, he⟩, hi, hne⟩ := st; ⟨⟨old, k e (by simp) _ he⟩, hi.at fun o q => k it (by simp) o q, hne⟩
  item := by
    intro X hP hw hK hc i pins s σ H E I hf st hg
    subst hP hw hK
    obtain ⟨⟨old, he⟩, hit, hne⟩ := st
    obtain ⟨xs, x, hq, hx⟩ := hg
    obtain ⟨its, rv, p, hz⟩ := I.tuple hq
    obtain ⟨u, hu, ru⟩ := rv.get hx
    have hel : e < s.heap.objs.size := Heap.lt_size he
    have hil : it < s.heap.objs.size := by obtain ⟨_, q, _⟩ := hit; exact Heap.lt_size q
    have pt : s.heap.IsTuple a its.toArray := p
    have hlt : i < its.toArray.size := by
      have := (List.getElem?_eq_some_iff.mp hu).1
      simpa using this
    refine wpAny_pyNext_enum_itemD (Draws.tuple (A := X.A.in1) (I.ok.hd hc) it a hai its.toArray) he ⟨hit, pt⟩ hlt hne (by simp; exact ⟨hne, fun q => hae q.symm⟩) fun x' h' tk hx' ho st' hT hsz hk => ?_
    have : x' = u := by
      have e1 : its.toArray[i]? = some u := by simpa using hu
      rw [e1] at hx'
      exact (Option.some.inj hx').symm
    subst this
    obtain ⟨hit', _⟩ := st'
    refine ⟨_, rfl, wpAny_letOwnedTupleGo_enum (s := { s with heap := h', toks := tk + 1 }) ho fun h'' he' sb => ?_⟩
    have hT2 : h''.get? s.heap.objs.size = some { cls := .type "tuple", data := .seq #[.int i tk, x'] } := (sb.2 _ (Nat.ne_of_gt hel)).trans hT
    have new : ObjOk X.prog X.w (upd H s.heap.objs.size (.tup [.int (i : Nat), x])) h'' s.heap.objs.size (.tup [.int (i : Nat), x]) :=
      ⟨by show 2 ≤ sizeLine; decide, [.int i tk, x'], .cons ⟨_, rfl⟩ (.cons ru .nil), ⟨_, hT2, rfl, _, rfl⟩⟩
    have I1 : Inv X pins σ (upd H s.heap.objs.size (.tup [.int (i : Nat), x])) { s with heap := h'', toks := tk + 1 } :=
      I.turnedNew (ch := [e, it]) (fun b ob hb q => (sb.2 b (fun z => hb (by simp [z]))).trans (hk b ob (fun z => hb (by simp [z])) (fun z => hb (by simp [z])) q)) hf (Nat.le_refl _) new
    refine ⟨.ref s.heap.objs.size, _, I1, rfl, ⟨_, x, rfl, I.hok.fresh (Nat.le_refl _), rfl, fun ys hy => by rw [I.tuple_inj hy hq]; exact hx⟩, ⟨⟨x', ?_⟩, hit'.at fun o q => (sb.2 it (Ne.symm hne)).trans q, hne⟩, fun b hb => ?_⟩
    · have e1 : ((i + 1 : Nat) : Int) = (i : Int) + 1 := by omega
      rw [e1]; exact he'
    · have hb' : b < s.heap.objs.size := by
        have e' : b = e ∨ b = it := by simpa using hb
        rcases e' with z | z
        · rw [z]; exact hel
        · rw [z]; exact hil
      rw [upd_ne (Nat.ne_of_lt hb')]
      exact (hf b hb).1
  done := by
    intro X hP hw hK hc i pins s σ H E I hf st hg
    subst hP hw hK
    obtain ⟨⟨old, he⟩, hit, hne⟩ := st
    obtain ⟨xs, hq, hx⟩ := hg
    obtain ⟨its, rv, p, hz⟩ := I.tuple hq
    obtain ⟨f0, f1, f2, f3, f4, f5⟩ := hf it (by simp)
    have hl := rv.length
    have pt : s.heap.IsTuple a its.toArray := p
    have hT : s.TypeIs (.ref e) "enumerate" := ⟨_, he, rfl⟩
    unfold pyNext
    refine wpAny_bind (wpAny_attempt (wpAny_callSpecial?_slot (name := Str.ofString "__next__") hT F.slot_enumerate_next
      (wpAny_call_entry F.slot_enumerate_next hT F.entry_enumerate_next ?_ (F.args_enumerate_next_1 _))))
    show wpAny _ _ (field (.ref e) 2 >>= _) _ _ _
    refine wpAny_bind (wpAny_field he rfl (x := .ref it) rfl ?_)
    refine wpAny_bind (wpAny_nextOf_tuple_end (I.ok.hd hc) hit pt (by simp; omega) fun h' x he' hx' => ?_)
    obtain ⟨o, ho, hc'⟩ := hx'
    refine wpAny_bind (wpAny_isInstance (T := "StopIteration") (b := true) ⟨o, ho, hc'⟩ isSubtype_stop ?_)
    exact wpAny_pure ⟨rfl, I.turned (t' := s.toks) (fun b o hb q => he' b o hb q) f0 f1 f3 f4 f5⟩
  self := fun A i s Q E st h => let ⟨⟨_, he⟩, _⟩ := st; wpAny_pyIter_enum he h
def iEnumT (K : PySem.W.Frag) (ta : TA) : TI := fun σ H R => ta σ H fun vs H1 => ∃ a xs, vs = [.ref a] ∧ SqT K H1 a xs ∧ R (IteT K a) H1
theorem pi_enumT {X : Cx} {e : Expr} {ta : TA} {p pos tpos : Pos} {elts : List Expr} {kk : Nat} (hg : Gl X "enumerate") (hm : X.mg "enumerate" = none) (ha : PA X [e] ta) (hs : starEach [e] X.env = [(false, eval e X.env)] := by rfl) :
    PI X (.Tuple elts kk tpos) (.Call (.Name "enumerate" p) [e] [] pos) (iEnumT X.K ta) := by
  refine ⟨fun pins s σ H R I h => ?_⟩
  refine Call_ (ld_blt I hg hm boot_enumerate (PyProof.Rows.callWith_type1 (thn (ha.run pos pins s σ H _ I h) fun us s1 ⟨vs, H1, I1, r1, q1⟩ => ?_) hs rfl))
  obtain ⟨a, xs, ex, hq, q⟩ := q1
  subst ex
  cases r1 with
  | cons r rr =>
    cases rr
    cases r
    obtain ⟨its, rv, p', hz⟩ := I1.tuple hq
    obtain ⟨o1, ho1, _⟩ := id p'
    have hal := Heap.lt_size ho1
    refine call_enumerate_tuple (show s1.heap.IsTuple a its.toArray from p') fun h' he hit hsz hk => wpAny_pyIter_enum he ?_
    have I2 : Inv X pins σ H1 { s1 with heap := h' } := I1.kept (t' := s1.toks) hk
    refine ⟨s1.heap.objs.size + 1, [s1.heap.objs.size + 1, s1.heap.objs.size], _, _, H1, rfl, I2, turn_enumT a (s1.heap.objs.size + 1) s1.heap.objs.size (Nat.ne_of_lt (Nat.lt_succ_of_lt hal)) (Nat.ne_of_lt hal), ⟨⟨.none, he⟩, hit, Nat.succ_ne_self _⟩, fun b hb => ?_, q⟩
    have e' : b = s1.heap.objs.size + 1 ∨ b = s1.heap.objs.size := by simpa using hb
    have hle : s1.heap.objs.size ≤ b := by
      rcases e' with z | z
      · rw [z]; exact Nat.le_add_right _ _
      · rw [z]; exact Nat.le_refl _
    exact I1.fpOk hle (I1.hok.fresh hle)
def iEnT (f : EX W) : IX := fun s m => (f s m).bind fun w m1 => if isL w = false then (srcOf w m1).bind fun src m2 => .ok ⟨numbered 0 src.items, src.gs⟩ m2 else .stuck
theorem i_enumT {X : Cx} {U : WX} {a : Expr} {f : EX W} {p pos tpos : Pos} {elts : List Expr} {kk : Nat} (hr : X.mg "enumerate" = none) (ha : PE X a (T X.K U f)) (hg : Gl X "enumerate" := by rfl) (na : starEach [a] X.env = (false, eval a X.env) :: starEach [] X.env := by rfl) (hs : starEach [a] X.env = [(false, eval a X.env)] := by rfl) :
    PI X (.Tuple elts kk tpos) (.Call (.Name "enumerate" p) [a] [] pos) (TI' X.K U (iEnT f)) := by
  refine impI (pi_enumT hg hr (pa_cons ha pa_nil na) hs) ?_
  rintro σ H R ⟨c, s, m, hs, hm, hp⟩
  refine T.run hs hm hp fun c1 H1 w1 m1 v1 e1 hs1 hm1 r1 hp1 => ?_
  split at hp1
  · rename_i k
    cases e2 : srcOf w1 m1 with
    | stuck => rw [e2] at hp1; exact hp1.elim
    | exc x m' => exact absurd e2 srcOf_exc
    | ok src m2 =>
      rw [e2] at hp1
      simp only [bind_ok] at hp1
      obtain ⟨rfl, a, rfl, ⟨xs, q1⟩, q2⟩ := srcOf_okT hm1 r1 e2 k
      refine ⟨a, xs, rfl, q1, hp1.ok hm1 _ ?_⟩
      intro c' H' m' e hm' g i
      have q := q2 c' H' m' e hm' g
      refine ⟨fun hi => (q i).1 (by simpa [numbered_length] using hi), fun w hw => ?_⟩
      obtain ⟨x, h1, rfl⟩ := numbered_get _ _ _ _ hw
      obtain ⟨g1, g2⟩ := (q i).2 x h1
      refine ⟨g1, fun v H'' y => ?_⟩
      obtain ⟨T, x', rfl, hT, rfl, hy⟩ := y
      obtain ⟨_, rx⟩ := g2 x' H' ⟨rfl, hy⟩
      exact ⟨.inr ⟨T, _, hT, rfl⟩, new_pair hm' hT (.p (by simpa using Rp.int _)) rx⟩
  · exact hp1.elim
end Mir

namespace Mir
open PySem PySem.Spec PyProof.Rows L2

/-! ### zip(a list, a tuple) -/
def ItzM (K : PySem.W.Frag) (a b : Addr) : It where
  go := fun i H => ∃ (xs ys : List V) (x y : V), SqL K H a xs ∧ SqT K H b ys ∧ xs[i]? = some x ∧ ys[i]? = some y
  yld := fun i H v H' => ∃ T x y, v = .ref T ∧ H T = none ∧ H' = upd H T (.tup [x, y]) ∧ (∀ xs, SqL K H a xs → xs[i]? = some x) ∧ ∀ ys, SqT K H b ys → ys[i]? = some y
  stop := fun i H => ∃ xs ys : List V, SqL K H a xs ∧ SqT K H b ys ∧ i ≤ xs.length ∧ i ≤ ys.length ∧ (i = xs.length ∨ i = ys.length)
/-- what stands of the zip at n + 4 ahead of its turn i -/
def ZSt (n a b : Addr) (i : Nat) (h : Heap) : Prop := IsZip h (n + 4) (n + 2) (n + 3) .none ∧ IsTupOf2 h (n + 2) (.ref n) (.ref (n + 1)) ∧ (∃ x y, IsTupOf2 h (n + 3) x y) ∧ h.IsListIter n a i ∧ h.IsTupleIter (n + 1) b i
def zfp (n : Addr) : List Addr := [n + 4, n + 2, n + 3, n, n + 1]
theorem zsep {n a b : Nat} (ha : a < n) (hb : b < n) : ZipSep2 (n + 4) (n + 2) (n + 3) n (n + 1) [n, a] [n + 1, b] := by
  have nm : ∀ x y z : Nat, x ≠ y → x ≠ z → x ∉ [y, z] := fun x y z h1 h2 hm => by
    rcases List.mem_cons.mp hm with e | hm
    · exact h1 e
    · exact h2 (List.mem_singleton.mp hm)
  have ne : ∀ x y : Nat, n + x = n + y → x = y := fun x y h => Nat.add_left_cancel h
  refine ⟨?_, ?_, ?_, ?_, List.mem_cons_self, nm _ _ _ ?_ ?_, nm _ _ _ ?_ ?_, ?_, List.mem_cons_self, nm _ _ _ ?_ ?_, nm _ _ _ ?_ ?_, nm _ _ _ ?_ ?_, nm _ _ _ ?_ ?_⟩
  all_goals first
    | exact Nat.ne_of_gt (by omega)
    | exact Nat.ne_of_lt (by omega)
theorem turn_zipM {P : Program} {w : World} {K : PySem.W.Frag} {elts : List Expr} {kk : Nat} {tpos : Pos} {n a b : Nat} (ha : a < n) (hb : b < n) :
    Turn P w K (.Tuple elts kk tpos) (ItzM K a b) (zfp n) (n + 4) (ZSt n a b) where
  mem := by simp [zfp]
  obj := by
    rintro i h ⟨q1, q2, ⟨x, y, q3⟩, ⟨p1, k1, _, r1⟩, p2, k2, _, r2⟩ c hc
    simp only [zfp, List.mem_cons, List.not_mem_nil, or_false] at hc
    rcases hc with rfl | rfl | rfl | rfl | rfl
    · exact ⟨_, q1, fun _ q => nomatch q⟩
    · exact ⟨_, q2, fun _ q => nomatch q⟩
    · exact ⟨_, q3, fun _ q => nomatch q⟩
    · exact ⟨p1, k1, fun _ q => by rw [r1] at q; cases q⟩
    · exact ⟨p2, k2, fun _ q => by rw [r2] at q; cases q⟩
  keep := by
    rintro i h h' ⟨q1, q2, ⟨x, y, q3⟩, q4, q5⟩ k
    have m1 : n + 4 ∈ zfp n := by simp [zfp]
    have m2 : n + 2 ∈ zfp n := by simp [zfp]
    have m3 : n + 3 ∈ zfp n := by simp [zfp]
    have m4 : n ∈ zfp n := by simp [zfp]
    have m5 : n + 1 ∈ zfp n := by simp [zfp]
    exact ⟨k _ m1 _ q1, k _ m2 _ q2, ⟨x, y, k _ m3 _ q3⟩, q4.at fun o q => k _ m4 o q, q5.at fun o q => k _ m5 o q⟩
  item := by
    intro X hP hw hK hc i pins s σ H E I hf st hg
    subst hP hw hK
    obtain ⟨q1, q2, ⟨x0, y0, q3⟩, q4, q5⟩ := st
    obtain ⟨xs, ys, x, y, sx, sy, ex, ey⟩ := hg
    obtain ⟨its, rv, p1, _⟩ := I.list sx
    obtain ⟨jts, rw', p2, _⟩ := I.tuple sy
    obtain ⟨u, hu, ru⟩ := rv.get ex
    obtain ⟨v, hv, rv'⟩ := rw'.get ey
    have S := zsep (n := n) ha hb
    have D1 := Draws.list (prog := X.prog) (w := X.w) (A := X.A.in1) (I.ok.hd hc) n a (Nat.ne_of_lt ha) its.toArray
    have D2 := Draws.tuple (prog := X.prog) (w := X.w) (A := X.A.in1) (I.ok.hd hc) (n + 1) b (Nat.ne_of_lt (Nat.lt_succ_of_lt hb)) jts.toArray
    have t2 : s.heap.IsTuple b jts.toArray := p2
    have l1 : i < its.toArray.size := by have := (List.getElem?_eq_some_iff.mp hu).1; simpa using this
    have l2 : i < jts.toArray.size := by have := (List.getElem?_eq_some_iff.mp hv).1; simpa using this
    have zl : n + 4 < s.heap.objs.size := Heap.lt_size q1
    refine wpAny_pyNext_zipD2_item S D1 D2 q1 q2 q3 ⟨q4, p1.isList⟩ ⟨q5, t2⟩ l1 l2 fun z1 z2 h1 tk g1 g2 a1 a2 a3 a4 a5 a6 a7 => ?_
    have e1 : z1 = u := by
      have : its.toArray[i]? = some u := by simpa using hu
      rw [this] at g1
      exact (Option.some.inj g1).symm
    have e2 : z2 = v := by
      have : jts.toArray[i]? = some v := by simpa using hv
      rw [this] at g2
      exact (Option.some.inj g2).symm
    subst e1 e2
    refine ⟨_, rfl, wpAny_letOwnedTupleGo_zip (s := { s with heap := h1, toks := tk }) a1 fun h2 b1 sb => ?_⟩
    have T2 : h2.get? s.heap.objs.size = some { cls := .type "tuple", data := .seq #[z1, z2] } := (sb.2 _ (Nat.ne_of_gt zl)).trans a5
    have new : ObjOk X.prog X.w (upd H s.heap.objs.size (.tup [x, y])) h2 s.heap.objs.size (.tup [x, y]) := ⟨(by show 2 ≤ sizeLine; decide), [z1, z2], .cons ru (.cons rv' .nil), ⟨_, T2, rfl, _, rfl⟩⟩
    have far : ∀ c o, c ∉ zfp n → s.heap.get? c = some o → h2.get? c = some o := fun c o hc q => by
      simp only [zfp, List.mem_cons, List.not_mem_nil, or_false, not_or] at hc
      exact (sb.2 c hc.1).trans (a7 c o hc.1 hc.2.2.1 hc.2.2.2.1 hc.2.2.2.2 q)
    have I1 : Inv X pins σ (upd H s.heap.objs.size (.tup [x, y])) { s with heap := h2, toks := tk } := I.turnedNew (ch := zfp n) (fun c o hb q => far c o hb q) hf (Nat.le_refl _) new
    have d1 : n + 2 ≠ n + 4 := by omega
    have d2 : n + 3 ≠ n + 4 := by omega
    have d3 : n ≠ n + 4 := by omega
    have d4 : n + 1 ≠ n + 4 := by omega
    refine ⟨.ref s.heap.objs.size, _, I1, rfl, ⟨_, x, y, rfl, I.hok.fresh (Nat.le_refl _), rfl, fun l hl => by rw [I.list_inj hl sx]; exact ex, fun l hl => by rw [I.tuple_inj hl sy]; exact ey⟩, ⟨b1, ?_, ⟨z1, z2, (sb.2 _ d2).trans a2⟩, a3.1.at fun o q => (sb.2 _ d3).trans q, a4.1.at fun o q => (sb.2 _ d4).trans q⟩, fun c hcm => ?_⟩
    · exact (sb.2 _ d1).trans (a7 _ _ d1 (Nat.ne_of_lt (Nat.lt_succ_self (n + 2))) (Nat.ne_of_gt (Nat.lt_add_of_pos_right (by decide))) (Nat.ne_of_gt (Nat.lt_succ_self (n + 1))) q2)
    · have hlt : c < s.heap.objs.size := by
        simp only [zfp, List.mem_cons, List.not_mem_nil, or_false] at hcm
        have l4 : n + 4 < s.heap.objs.size := zl
        have l3 : n + 3 < s.heap.objs.size := Nat.lt_of_succ_lt l4
        have l2 : n + 2 < s.heap.objs.size := Nat.lt_of_succ_lt l3
        have l1 : n + 1 < s.heap.objs.size := Nat.lt_of_succ_lt l2
        rcases hcm with rfl | rfl | rfl | rfl | rfl
        · exact l4
        · exact l2
        · exact l3
        · exact Nat.lt_of_succ_lt l1
        · exact l1
      rw [upd_ne (Nat.ne_of_lt hlt)]
      exact (hf c hcm).1
  done := by
    intro X hP hw hK hc i pins s σ H E I hf st hg
    subst hP hw hK
    obtain ⟨q1, q2, ⟨x0, y0, q3⟩, q4, q5⟩ := st
    obtain ⟨xs, ys, sx, sy, h1, h2, h3⟩ := hg
    obtain ⟨its, rv, p1, _⟩ := I.list sx
    obtain ⟨jts, rw', p2, _⟩ := I.tuple sy
    have e1 := rv.length
    have e2 := rw'.length
    have S := zsep (n := n) ha hb
    have D1 := Draws.list (prog := X.prog) (w := X.w) (A := X.A.in1) (I.ok.hd hc) n a (Nat.ne_of_lt ha) its.toArray
    have D2 := Draws.tuple (prog := X.prog) (w := X.w) (A := X.A.in1) (I.ok.hd hc) (n + 1) b (Nat.ne_of_lt (Nat.lt_succ_of_lt hb)) jts.toArray
    have t2 : s.heap.IsTuple b jts.toArray := p2
    refine wpAny_pyNext_zipD2_end S D1 D2 q1 q2 q3 ⟨q4, p1.isList⟩ ⟨q5, t2⟩ (by simp; omega) (by simp; omega) (by simp; omega) fun h1 tk hk => ⟨rfl, I.turnedL (t' := tk) (ch := zfp n) (fun c o hb q => ?_) hf⟩
    simp only [zfp, List.mem_cons, List.not_mem_nil, or_false, not_or] at hb
    exact hk c o hb.1 hb.2.2.1 hb.2.2.2.1 hb.2.2.2.2 q
  self := fun A i s Q E st h => wpAny_pyIter_zip st.1 h
def iZipM (K : PySem.W.Frag) (ta : TA) : TI := fun σ H R => ta σ H fun vs H1 => ∃ a b xs ys, vs = [.ref a, .ref b] ∧ SqL K H1 a xs ∧ SqT K H1 b ys ∧ R (ItzM K a b) H1
theorem pi_zipM {X : Cx} {e e2 : Expr} {ta : TA} {p pos tpos : Pos} {elts : List Expr} {kk : Nat} (hg : Gl X "zip") (hm : X.mg "zip" = none) (ha : PA X [e, e2] ta)
    (hs : starEach [e, e2] X.env = (false, eval e X.env) :: starEach [e2] X.env := by rfl) (hpl : (backTo pos (starEach [e2] X.env)).any (·.1) = false := by rfl) :
    PI X (.Tuple elts kk tpos) (.Call (.Name "zip" p) [e, e2] [] pos) (iZipM X.K ta) := by
  refine ⟨fun pins s σ H R I h => ?_⟩
  refine Call_ (ld_blt I hg hm PyProof.Rows.boot_zip (PyProof.Rows.callWith_type1 (thn (ha.run pos pins s σ H _ I h) fun us s1 ⟨vs, H1, I1, r1, q1⟩ => ?_) hs hpl))
  obtain ⟨a, b, xs, ys, rfl, sx, sy, q⟩ := q1
  cases r1 with | cons r rr =>
  cases rr with | cons r' rr =>
  cases rr
  cases r
  cases r'
  obtain ⟨its, rv, p1, _⟩ := I1.list sx
  obtain ⟨jts, rv2, p2, _⟩ := I1.tuple sy
  obtain ⟨o2, ho2, _⟩ := id p2
  have hal : a < s1.heap.objs.size := p1.lt
  have hbl : b < s1.heap.objs.size := Heap.lt_size ho2
  refine zip_begins2 (begins_list a its.toArray) (begins_tuple b jts.toArray) p1.isList (show s1.heap.IsTuple b jts.toArray from p2) fun h' z1 z2 z3 z4 z5 hsz hk => wpAny_pyIter_zip z1 ?_
  have I2 : Inv X pins σ H1 { s1 with heap := h' } := I1.kept (t' := s1.toks) hk
  refine ⟨s1.heap.objs.size + 4, zfp s1.heap.objs.size, _, _, H1, rfl, I2, turn_zipM hal hbl, ⟨z1, z2, ⟨_, _, z3⟩, ⟨_, z4, rfl, rfl⟩, ⟨_, z5, rfl, rfl⟩⟩, fun c hcm => ?_, q⟩
  have hle : s1.heap.objs.size ≤ c := by
    simp only [zfp, List.mem_cons, List.not_mem_nil, or_false] at hcm
    rcases hcm with rfl | rfl | rfl | rfl | rfl <;> omega
  exact I1.fpOk hle (I1.hok.fresh hle)
def zipRM (w w' : W) (m : Hm) : Res Src := if (isL w && !isL w') = true then (srcOf w m).bind fun a m1 => (srcOf w' m1).bind fun b m2 => .ok ⟨zipped a.items b.items, a.gs ++ b.gs⟩ m2 else .stuck
def iZpM (f g : EX W) : IX := fun s m => (f s m).bind fun w m1 => (g s m1).bind fun w' m2 => zipRM w w' m2
section
variable {K : PySem.W.Frag} {c : Cfg} {H : Hp} {m : Hm}
theorem srcOf_hL {v : V} {w : W} {src : Src} {m' : Hm} (hm : HRel K c m H) (r : RpW K c H v w) (e : srcOf w m = .ok src m') (k : isL w = true) : m' = m ∧ ∃ a, v = .ref a ∧ ∀ c' H' m', Ext c H c' H' → HRel K c' m' H' → gOk m' src.gs = true → ∃ xs, SqL K H' a xs ∧ RpWs K c' H' xs src.items := by
  cases r with
  | p r =>
    cases r with
    | lst h n n2 z r =>
      cases e
      exact ⟨rfl, _, rfl, fun c' H' m' e hm g => ⟨_, SqL.of (e.keep _ _ h n n2), (r.mono e).toWs⟩⟩
    | _ => cases k
  | ro => cases e
  | @loc a n h =>
    simp only [srcOf] at e
    cases q : m[n]? with
    | none => rw [q] at e; cases e
    | some x =>
      rw [q] at e
      cases x with
      | lst ws =>
        cases e
        obtain ⟨xs, hx, z, rr⟩ := hm.lst h q
        refine ⟨rfl, _, rfl, fun c' H' m' e hm' g => ?_⟩
        obtain ⟨xs', hx', _, rr'⟩ := hm'.lst (e.at h) (gOk_get g).1
        exact ⟨xs', SqL.of hx', rr'⟩
      | _ => cases e
  | tw h z r => cases k
  | kt => cases k
theorem srcOf_hT {v : V} {w : W} {src : Src} {m' : Hm} (hm : HRel K c m H) (r : RpW K c H v w) (e : srcOf w m = .ok src m') (k : isL w = false) : m' = m ∧ ∃ a, v = .ref a ∧ ∀ c' H' m', Ext c H c' H' → HRel K c' m' H' → gOk m' src.gs = true → ∃ xs, SqT K H' a xs ∧ RpWs K c' H' xs src.items := by
  cases r with
  | p r =>
    cases r with
    | lst => cases k
    | tup h z r =>
      cases e
      exact ⟨rfl, _, rfl, fun c' H' m' e hm g => ⟨_, (h.sub e.sub).sq, (r.mono e).toWs⟩⟩
    | _ => cases e
  | ro => cases e
  | loc => cases k
  | tw h z r =>
    cases e
    exact ⟨rfl, _, rfl, fun c' H' m' e hm g => ⟨_, (h.sub e.sub).sq, r.mono e⟩⟩
  | kt => cases e
end
theorem i_zipM {X : Cx} {U : WX} {a b : Expr} {f g : EX W} {p pos tpos : Pos} {elts : List Expr} {kk : Nat} (hr : X.mg "zip" = none) (ha : PE X a (T X.K U f)) (hb : PE X b (T X.K U g)) (hg : Gl X "zip" := by rfl) (na : starEach [a, b] X.env = (false, eval a X.env) :: starEach [b] X.env := by rfl) (nb : starEach [b] X.env = (false, eval b X.env) :: starEach [] X.env := by rfl)
    (hpl : (backTo pos (starEach [b] X.env)).any (·.1) = false := by rfl) : PI X (.Tuple elts kk tpos) (.Call (.Name "zip" p) [a, b] [] pos) (TI' X.K U (iZpM f g)) := by
  refine impI (pi_zipM hg hr (pa_cons ha (pa_cons hb pa_nil nb) na) na hpl) ?_
  rintro σ H R ⟨c, s, m, hs, hm, hp⟩
  refine T.run hs hm hp fun c1 H1 w1 m1 v1 e1 hs1 hm1 r1 hp1 => T.run hs1 hm1 hp1 fun c2 H2 w2 m2 v2 e2 hs2 hm2 r2 hp2 => ?_
  have r1' := r1.mono e2
  unfold zipRM at hp2
  split at hp2
  · rename_i kk
    rw [Bool.and_eq_true, Bool.not_eq_true'] at kk
    cases q1 : srcOf w1 m2 with
    | stuck => rw [q1] at hp2; exact hp2.elim
    | exc x m' => exact absurd q1 srcOf_exc
    | ok A m3 =>
      rw [q1] at hp2
      simp only [bind_ok] at hp2
      cases q2 : srcOf w2 m3 with
      | stuck => rw [q2] at hp2; exact hp2.elim
      | exc x m' => exact absurd q2 srcOf_exc
      | ok B m4 =>
        rw [q2] at hp2
        simp only [bind_ok] at hp2
        have g0 := hp2
        obtain ⟨rfl, a, rfl, a2⟩ := srcOf_hL hm2 r1' q1 kk.1
        obtain ⟨rfl, b, rfl, b2⟩ := srcOf_hT hm2 r2 q2 kk.2
        obtain ⟨_, a', ea, ⟨xs, a1⟩, _⟩ := srcOf_okL hm2 r1' q1 kk.1
        cases ea
        obtain ⟨_, b', eb, ⟨ys, b1⟩, _⟩ := srcOf_okT hm2 r2 q2 kk.2
        cases eb
        refine ⟨a, b, xs, ys, rfl, a1, b1, hp2.ok hm2 _ ?_⟩
        intro c' H' m' e hm' g i
        obtain ⟨g1, g2⟩ := gOk_app g
        obtain ⟨xs', x1, x2⟩ := a2 c' H' m' e hm' g1
        obtain ⟨ys', y1, y2⟩ := b2 c' H' m' e hm' g2
        have lx := x2.length
        have ly := y2.length
        refine ⟨fun hi => ⟨xs', ys', x1, y1, ?_⟩, fun w hw => ?_⟩
        · rw [zipped_length] at hi
          omega
        · obtain ⟨x, y, h1, h2, rfl⟩ := zipped_get _ _ _ _ hw
          obtain ⟨u, hu, ru⟩ := x2.get h1
          obtain ⟨v, hv, rv⟩ := y2.get h2
          refine ⟨⟨xs', ys', u, v, x1, y1, hu, hv⟩, fun v' H'' yy => ?_⟩
          obtain ⟨T, x3, y3, rfl, hT, rfl, hx, hy⟩ := yy
          have k1 := hx xs' x1
          have k2 := hy ys' y1
          rw [hu] at k1
          rw [hv] at k2
          cases k1
          cases k2
          exact ⟨.inr ⟨T, _, hT, rfl⟩, new_pair hm' hT ru rv⟩
  · exact hp2.elim
end Mir

namespace Mir
open PySem PySem.Spec PyProof.Rows L2

/-! ### instances: fields, methods, making -/
inductive AlS (K : PySem.W.Frag) (c : Cfg) (H : Hp) : List (Str × V) → List (Str × W) → Prop
  | nil : AlS K c H [] []
  | cons {f : Str} {v : V} {w : W} {vs : List (Str × V)} {ws : List (Str × W)} : RpW K c H v w → AlS K c H vs ws → AlS K c H ((f, v) :: vs) ((f, w) :: ws)
def putFW (f : Str) (w : W) : List (Str × W) → List (Str × W)
  | [] => [(f, w)]
  | (g, x) :: r => if g = f then (g, w) :: r else (g, x) :: putFW f w r
def getFW (f : Str) : List (Str × W) → Option W
  | [] => none
  | (g, x) :: r => if f = g then some x else getFW f r
section
variable {K : PySem.W.Frag} {c : Cfg} {H : Hp} {m : Hm}
theorem AlS.of : ∀ {vs : List (Str × V)} {ws : List (Str × W)}, vs.map (·.1) = ws.map (·.1) → RpWs K c H (vs.map (·.2)) (ws.map (·.2)) → AlS K c H vs ws
  | [], [], _, _ => .nil
  | (k, v) :: vs, (k', w) :: ws, e, r => by
    simp only [List.map_cons, List.cons.injEq] at e
    obtain ⟨rfl, e⟩ := e
    cases r with
    | cons r t => exact .cons r (AlS.of e t)
  | [], _ :: _, e, _ => by simp at e
  | _ :: _, [], e, _ => by simp at e
theorem AlS.to {vs : List (Str × V)} {ws : List (Str × W)} (h : AlS K c H vs ws) : vs.map (·.1) = ws.map (·.1) ∧ RpWs K c H (vs.map (·.2)) (ws.map (·.2)) := by
  induction h with
  | nil => exact ⟨rfl, .nil⟩
  | cons r _ ih => exact ⟨by simp [ih.1], .cons r ih.2⟩
theorem AlS.len {vs : List (Str × V)} {ws : List (Str × W)} (h : AlS K c H vs ws) : vs.length = ws.length := by
  induction h with
  | nil => rfl
  | cons _ _ ih => simp [ih]
theorem AlS.sub {vs : List (Str × V)} {ws : List (Str × W)} {c' : Cfg} {H' : Hp} (h : AlS K c H vs ws) (e : Sub c H c' H') : AlS K c' H' vs ws := by
  induction h with
  | nil => exact .nil
  | cons r _ ih => exact .cons (r.sub e) ih
theorem lookup_c (f g : Str) (y : V) (fs : List (Str × V)) : ((f, y) :: fs).lookup g = if g = f then some y else fs.lookup g := by
  by_cases h : g = f
  · subst h
    simp [List.lookup]
  · have e : (g == f) = false := by simpa using h
    rw [if_neg h]
    simp [List.lookup, e]
theorem AlS.get {vs : List (Str × V)} {ws : List (Str × W)} (h : AlS K c H vs ws) {f : Str} {w : W} (e : getFW f ws = some w) : ∃ v, vs.lookup f = some v ∧ RpW K c H v w := by
  induction h with
  | nil => cases e
  | @cons g v' w' vs ws r _ ih =>
    unfold getFW at e
    rw [lookup_c]
    by_cases q : f = g
    · rw [if_pos q] at e ⊢
      cases e
      exact ⟨v', rfl, r⟩
    · rw [if_neg q] at e ⊢
      exact ih e
theorem AlS.none {vs : List (Str × V)} {ws : List (Str × W)} (h : AlS K c H vs ws) {f : Str} (e : getFW f ws = Option.none) : vs.lookup f = Option.none := by
  induction h with
  | nil => rfl
  | @cons g v' w' vs ws r _ ih =>
    unfold getFW at e
    rw [lookup_c]
    by_cases q : f = g
    · rw [if_pos q] at e; cases e
    · rw [if_neg q] at e ⊢
      exact ih e
theorem AlS.put {vs : List (Str × V)} {ws : List (Str × W)} (h : AlS K c H vs ws) {f : Str} {v : V} {w : W} (r : RpW K c H v w) : AlS K c H (putF f v vs) (putFW f w ws) := by
  induction h with
  | nil => exact .cons r .nil
  | @cons g v' w' vs ws r' t ih =>
    unfold putF putFW
    by_cases q : g = f
    · rw [if_pos q, if_pos q]; exact .cons r t
    · rw [if_neg q, if_neg q]; exact .cons r' ih
theorem HRel.ins (hm : HRel K c m H) {n : Nat} {a : Addr} {C : Str} {fs : List (Str × W)} (h : c.rho[n]? = some a) (q : m[n]? = some (.ins C fs)) : ∃ dx vs, H a = some (.ins (He.ga K C) dx vs) ∧ AlS K c H vs fs := by
  obtain ⟨b, hb, dx, vs, hx, k, rr⟩ := hm.at_ _ _ q
  rw [h] at hb; cases hb
  exact ⟨dx, vs, hx, .of k rr⟩
/-- an instance's cell is written -/
theorem Post.setI {U : WX} {σ : L2.St} {α : Type} {R : Cfg → Hp → α → Hm → Prop} {a' : α} {n : Nat} {a dx : Addr} {C : Str} {ws : List (Str × W)} {ys : List (Str × V)} (hm : HRel K c m H) (h : c.rho[n]? = some a) (r : AlS K c H ys ws)
    (hp : Post K U σ c H R (.ok a' (m.set n (.ins C ws)))) : R c (upd H a (.ins (He.ga K C) dx ys)) a' (m.set n (.ins C ws)) := by
  have r2 := (r.sub (Ext.write (o := .ins (He.ga K C) dx ys) h).sub).to
  exact hp c _ (Ext.write h) (hm.write h ⟨dx, ys, upd_same, r2.1, r2.2⟩)
end
def insAt (C : Str) (w : W) (m : Hm) : Option (Nat × List (Str × W)) := match w with
  | .loc n => (match m[n]? with
    | some (.ins C' fs) => if decide (C' = C) = true then some (n, fs) else none
    | _ => none)
  | _ => none
section
variable {K : PySem.W.Frag} {c : Cfg} {H : Hp} {m : Hm}
theorem insAt_ok {C : Str} {v : V} {w : W} {n : Nat} {fs : List (Str × W)} (hm : HRel K c m H) (r : RpW K c H v w) (e : insAt C w m = some (n, fs)) : ∃ a dx vs, v = .ref a ∧ w = .loc n ∧ c.rho[n]? = some a ∧ H a = some (.ins (He.ga K C) dx vs) ∧ AlS K c H vs fs := by
  unfold insAt at e
  split at e
  · cases r with | @loc a k h =>
    split at e
    · rename_i C' fs' q
      split at e
      · rename_i hc
        have hc := of_decide_eq_true hc
        subst hc
        cases e
        obtain ⟨dx, vs, hx, al⟩ := hm.ins h q
        exact ⟨_, dx, vs, rfl, rfl, h, hx, al⟩
      · cases e
    · cases e
  · cases e
end
def eFld (C f : Str) (g : EX W) : EX W := fun s m => (g s m).bind fun w m1 => match insAt C w m1 with
  | some (_, fs) => (match getFW f fs with
    | some v => .ok v m1
    | none => .stuck)
  | none => .stuck
def sSetF (C f : Str) (fo fv : EX W) : SX := fun s m => (fv s m).st s fun w m1 => (fo s m1).st s fun o m2 => match insAt C o m2 with
  | some (n, fs) => if decide (fs.length < 1000) = true then some (.nx s, m2.set n (.ins C (putFW f w fs))) else none
  | none => none
/-- o.f += value, whole numbers -/
def sAugF (C f : Str) (fo fv : EX W) : SX := fun s m => (fo s m).st s fun o m1 => match insAt C o m1 with
  | some (n, fs) => (match getFW f fs with
    | some (.p (.int i)) => (fv s m1).st s fun w m2 => (match w, m2[n]? with
      | .p (.int j), some (.ins C' fs') => if (decide (C' = C) && decide (fs'.length < 1000)) = true then some (.nx s, m2.set n (.ins C (putFW f (.p (.int (i + j))) fs'))) else none
      | _, _ => none)
    | _ => none)
  | none => none
section
variable {X : Cx} {U : WX} {e o value : Expr} {f C : Str} {g fo fv : EX W} {pos pos' tpos : Pos}
theorem x_fld (hc : Cls X.K (He.ga X.K C)) (hn : NoAttr X.K (He.ga X.K C) f) (he : PE X e (T X.K U g)) (hb : attributeBase e f X.env (eval e X.env) = eval e X.env := by rfl) : PE X (.Attribute e f pos) (T X.K U (eFld C f g)) := by
  refine imp (pe_fld he hb) ?_
  rintro σ H Q ⟨c, s, m, hs, hm, hp⟩
  refine T.run hs hm hp fun c1 H1 w m1 v e1 hs1 hm1 r1 hp1 => ?_
  split at hp1
  · rename_i n fs q
    split at hp1
    · rename_i w' hw
      obtain ⟨a, dx, vs, rfl, rfl, ha, hx, al⟩ := insAt_ok hm1 r1 q
      obtain ⟨u, hu, ru⟩ := al.get hw
      exact ⟨a, _, dx, vs, u, rfl, hx, hc, hn, hu, hp1.ok hm1 _ ru⟩
    · exact hp1.elim
  · exact hp1.elim
theorem s_setF (hc : Cls X.K (He.ga X.K C)) (hn : NoAttr X.K (He.ga X.K C) f) (ho : PE X o (T X.K U fo)) (hv : PE X value (T X.K U fv)) (hs : swapsWith value (some (.Attribute o f pos')) pos.line X.env = pure false := by rfl) : PS X (.Assign [.Attribute o f pos'] value pos) (TSt X.K U (sSetF C f fo fv)) := by
  refine impS (ps_fld ho hv hs) fun D σ H h => ?_
  obtain ⟨c, s, m, hs, hm, hp⟩ := h
  refine ⟨c, s, m, hs, hm, Post.st hs hp fun c1 H1 w m1 e1 hs1 hm1 hp1 v rv => ?_⟩
  refine ⟨c1, s, m1, hs1, hm1, Post.st hs1 hp1 fun c2 H2 o m2 e2 hs2 hm2 hp2 ov ro => ?_⟩
  have rv := rv.mono e2
  split at hp2
  · rename_i n fs q
    split at hp2
    · rename_i hl
      have hl := of_decide_eq_true hl
      obtain ⟨a, dx, vs, rfl, rfl, ha, hx, al⟩ := insAt_ok hm2 ro q
      refine ⟨a, _, dx, vs, rfl, hx, hc, hn, by rw [al.len]; exact hl, ?_⟩
      have w2 : Ext c2 H2 c2 (upd H2 a (.ins (He.ga X.K C) dx (putF f v vs))) := Ext.write ha
      have al2 := (al.put rv (f := f)).sub w2.sub
      exact hp2 _ _ w2 (hm2.write ha ⟨dx, _, upd_same, al2.to.1, al2.to.2⟩) σ (hs2.mono w2)
    · exact hp2.elim
  · exact hp2.elim
theorem s_augF (hc : Cls X.K (He.ga X.K C)) (hn : NoAttr X.K (He.ga X.K C) f) (ho : PE X o (T X.K U fo)) (hv : PE X value (T X.K U fv)) : PS X (.AugAssign (.Attribute o f tpos) .Add value pos) (TSt X.K U (sAugF C f fo fv)) := by
  refine impS (ps_fldaug ho hv in_add) fun D σ H h => ?_
  obtain ⟨c, s, m, hs, hm, hp⟩ := h
  refine ⟨c, s, m, hs, hm, Post.st hs hp fun c1 H1 o m1 e1 hs1 hm1 hp1 ov ro => ?_⟩
  split at hp1
  · rename_i n fs q
    split at hp1
    · rename_i i hi
      obtain ⟨a, dx, vs, rfl, rfl, ha, hx, al⟩ := insAt_ok hm1 ro q
      obtain ⟨u, hu, ru⟩ := al.get hi
      cases ru with | p ru =>
      cases ru
      refine ⟨a, _, dx, vs, _, rfl, hx, hc, hn, hu, ?_⟩
      refine ⟨c1, s, m1, hs1, hm1, Post.st hs1 hp1 fun c2 H2 w m2 e2 hs2 hm2 hp2 v rv => ?_⟩
      split at hp2
      · rename_i j C' fs' q2
        split at hp2
        · rename_i hl
          rw [Bool.and_eq_true] at hl
          have h1 := of_decide_eq_true hl.1
          have h2 := of_decide_eq_true hl.2
          subst h1
          cases rv with | p rv =>
          cases rv
          have ha2 := e2.at ha
          obtain ⟨dx', vs', hx', al'⟩ := hm2.ins ha2 q2
          refine ⟨i, j, rfl, rfl, dx', vs', hx', by rw [al'.len]; exact h2, ?_⟩
          have w2 : Ext c2 H2 c2 (upd H2 a (.ins (He.ga X.K C') dx' (putF f (.int (i + j)) vs'))) := Ext.write ha2
          have al2 := (al'.put (.p (.int (i + j))) (f := f)).sub w2.sub
          exact hp2 _ _ w2 (hm2.write ha2 ⟨dx', _, upd_same, al2.to.1, al2.to.2⟩) σ (hs2.mono w2)
        · exact hp2.elim
      · exact hp2.elim
    · exact hp1.elim
  · exact hp1.elim
end
end Mir

namespace Mir
open PySem PySem.Spec PyProof.Rows L2

/-! ### methods -/
section
variable {X : Cx} {CX : CXT} {k : Nat} {C f : Addr} {fd : FuncData} {ps : List Str} {sp : Sp} {E : L2.St → XK} {m : Str} {pos apos : Pos} {e o : Expr} {es : List Expr} {ta : TE} {t : TA}
theorem pe_methE {pl : Sem Bool} (he : PE X o ta) (c : Cls X.K C) (hm : Meth X.K C m f) (F : FnOk X.prog X.w X.K X.mg X.base CX k f fd ps sp) (hr : Room k X.A) (hb : Binds X.K fd ps []) (hx : ∀ σ, PassesAt CX X σ (E σ)) (ha : PA X (e :: es) t)
    (hst : starEach (e :: es) X.env = (false, eval e X.env) :: starEach es X.env := by rfl) (hpl : (backTo pos (starEach es X.env)).any (·.1) = false := by rfl)
    (ht : eval (.Call (.Attribute o m apos) (e :: es) [] pos) X.env = (do
      let ov ← eval o X.env
      standAt apos.atName
      let (f, first) ← holding [ov] (getMethod ov m pl)
      callWith pos f first (backTo pos (starEach (e :: es) X.env)) (backToKw pos (keywordEach [] X.env))) := by rfl) :
    PE X (.Call (.Attribute o m apos) (e :: es) [] pos) (fun σ H Q => ta σ H fun x H1 => ∃ a dx fs, x = .ref a ∧ H1 a = some (.ins C dx fs) ∧ fs.lookup m = none ∧ t σ H1 fun vs H2 => sp (x :: vs) H2 Q (E σ)) := by
  refine ⟨fun pins s σ H Q I h => ?_⟩
  refine PySem.W.methodCall_KW (pl := pl) (thn (he.run pins s σ H _ I h) fun u s1 ⟨x, H1, I1, rx, a, dx, fs, ex, ea, l, q⟩ => ?_) ht
  subst ex
  obtain rfl : u = Value.ref a := rx
  refine getmeth_ok I1 ea c hm l ?_
  refine PySem.W.callWith_K (first := [.ref a]) (h₀ := X.base) I.ok.mod.kin hm.kp (thn (ha.run pos pins s1 σ H1 _ I1 q) fun us s2 ⟨vs, H2, I2, r, q2⟩ => ⟨I2.kIn, ?_⟩) hst hpl
  exact run_fnS (us := .ref a :: us) (vs := .ref a :: vs) F hr hb (hx σ) I2 (.cons rfl r) q2
theorem pe_methE0 {pl : Sem Bool} (he : PE X o ta) (c : Cls X.K C) (hm : Meth X.K C m f) (F : FnOk X.prog X.w X.K X.mg X.base CX k f fd ps sp) (hr : Room k X.A) (hb : Binds X.K fd ps []) (hx : ∀ σ, PassesAt CX X σ (E σ))
    (ht : eval (.Call (.Attribute o m apos) [] [] pos) X.env = (do
      let ov ← eval o X.env
      standAt apos.atName
      let (f, first) ← holding [ov] (getMethod ov m pl)
      callWith pos f first (backTo pos (starEach [] X.env)) (backToKw pos (keywordEach [] X.env))) := by rfl) :
    PE X (.Call (.Attribute o m apos) [] [] pos) (fun σ H Q => ta σ H fun x H1 => ∃ a dx fs, x = .ref a ∧ H1 a = some (.ins C dx fs) ∧ fs.lookup m = none ∧ sp [x] H1 Q (E σ)) := by
  refine ⟨fun pins s σ H Q I h => ?_⟩
  refine PySem.W.methodCall_KW (pl := pl) (thn (he.run pins s σ H _ I h) fun u s1 ⟨x, H1, I1, rx, a, dx, fs, ex, ea, l, q⟩ => ?_) ht
  subst ex
  obtain rfl : u = Value.ref a := rx
  refine getmeth_ok I1 ea c hm l ?_
  exact PySem.W.callWith_K0 (first := [.ref a]) I1.kIn hm.kp (run_fnS (us := [.ref a]) (vs := [.ref a]) F hr hb (hx σ) I1 (.cons rfl .nil) q)
end
/-- the method m of the class C keeps the promise of the mirror F -/
def OkM (P : Program) (w : World) (K : PySem.W.Frag) (mg : Str → Option Value) (base : Heap) (k : Nat) (C m : Str) (F : FF) (ps : List Str) : Prop :=
  ∃ f fd, Cls K (He.ga K C) ∧ Meth K (He.ga K C) m f ∧ Binds K fd ps [] ∧ FnOk P w K mg base (L2.CX P w) k f fd ps (SpF K F ps.length)
/-- the class C is made by an __init__ that keeps the promise of F -/
def OkI (P : Program) (w : World) (K : PySem.W.Frag) (mg : Str → Option Value) (base : Heap) (k : Nat) (C : Str) (F : FF) (ps : List Str) : Prop :=
  ∃ f fd, Mk K (He.ga K C) f ∧ mg C = some (.ref (He.ga K C)) ∧ Binds K fd ps [] ∧ FnOk P w K mg base (L2.CX P w) k f fd ps (SpF K F ps.length)
def eMeth (C m : Str) (p : Nat) (F : FF) (fo : EX W) (fa : EX (List W)) : EX W := fun s h => (fo s h).bind fun o m1 => match insAt C o m1 with
  | some (_, fs) => if (getFW m fs).isNone = true then (fa s m1).bind fun ws m2 => if decide (ws.length + 1 = p) = true then F (o :: ws) m2 else .stuck else .stuck
  | none => .stuck
def eMake (C : Str) (p : Nat) (F : FF) (fa : EX (List W)) : EX W := fun s h => (fa s h).bind fun ws m1 => if decide (ws.length + 1 = p) = true then (match F (.loc m1.length :: ws) (m1 ++ [.ins C []]) with
  | .ok (.p .none) m2 => .ok (.loc m1.length) m2
  | _ => .stuck) else .stuck
section
variable {X : Cx} {U : WX} {k : Nat} {C m : Str} {F : FF} {ps : List Str} {p pos apos : Pos} {e o : Expr} {es : List Expr} {fo : EX W} {fa : EX (List W)}
theorem x_meth {n : Nat} {pl : Sem Bool} (o' : OkM X.prog X.w X.K X.mg X.base k C m F ps) (hr : Room k X.A) (tk : Takes X U) (ho : PE X o (T X.K U fo)) (ha : PA X (e :: es) (TL X.K U fa)) (hn : ps.length = n := by rfl)
    (hst : starEach (e :: es) X.env = (false, eval e X.env) :: starEach es X.env := by rfl) (hpl : (backTo pos (starEach es X.env)).any (·.1) = false := by rfl)
    (ht : eval (.Call (.Attribute o m apos) (e :: es) [] pos) X.env = (do
      let ov ← eval o X.env
      standAt apos.atName
      let (f, first) ← holding [ov] (getMethod ov m pl)
      callWith pos f first (backTo pos (starEach (e :: es) X.env)) (backToKw pos (keywordEach [] X.env))) := by rfl) :
    PE X (.Call (.Attribute o m apos) (e :: es) [] pos) (T X.K U (eMeth C m n F fo fa)) := by
  subst hn
  obtain ⟨f, fd, hc, hm', hb, ok⟩ := o'
  refine imp (pe_methE (E := WE U) ho hc hm' ok hr hb (fun σ => passAt tk σ) ha hst hpl ht) ?_
  rintro σ H Q ⟨c, s, mm, hs, hm, hp⟩
  refine T.run hs hm hp fun c1 H1 w m1 v e1 hs1 hm1 r1 hp1 => ?_
  split at hp1
  · rename_i n fs q
    split at hp1
    · rename_i hN
      obtain ⟨a, dx, vs, rfl, rfl, ha', hx, al⟩ := insAt_ok hm1 r1 q
      have hN' : getFW m fs = none := by
        cases z : getFW m fs with
        | none => rfl
        | some _ => rw [z] at hN; cases hN
      refine ⟨a, dx, vs, rfl, hx, al.none hN', ?_⟩
      refine TL.run hs1 hm1 hp1 fun c2 H2 ws m2 us e2 hs2 hm2 rv hp2 => ?_
      split at hp2
      · rename_i hl
        have hl := of_decide_eq_true hl
        exact ⟨by simp [rv.length, hl], c2, .loc n :: ws, m2, hm2, .cons (r1.mono e2) rv, hp2.u fun _ _ _ h => h⟩
      · exact hp2.elim
    · exact hp1.elim
  · exact hp1.elim
theorem x_meth0 {n : Nat} {pl : Sem Bool} (o' : OkM X.prog X.w X.K X.mg X.base k C m F ps) (hr : Room k X.A) (tk : Takes X U) (ho : PE X o (T X.K U fo)) (hn : ps.length = n := by rfl)
    (ht : eval (.Call (.Attribute o m apos) [] [] pos) X.env = (do
      let ov ← eval o X.env
      standAt apos.atName
      let (f, first) ← holding [ov] (getMethod ov m pl)
      callWith pos f first (backTo pos (starEach [] X.env)) (backToKw pos (keywordEach [] X.env))) := by rfl) :
    PE X (.Call (.Attribute o m apos) [] [] pos) (T X.K U (eMeth C m n F fo aNil)) := by
  subst hn
  obtain ⟨f, fd, hc, hm', hb, ok⟩ := o'
  refine imp (pe_methE0 (E := WE U) ho hc hm' ok hr hb (fun σ => passAt tk σ) ht) ?_
  rintro σ H Q ⟨c, s, mm, hs, hm, hp⟩
  refine T.run hs hm hp fun c1 H1 w m1 v e1 hs1 hm1 r1 hp1 => ?_
  split at hp1
  · rename_i n fs q
    split at hp1
    · rename_i hN
      obtain ⟨a, dx, vs, rfl, rfl, ha', hx, al⟩ := insAt_ok hm1 r1 q
      have hN' : getFW m fs = none := by
        cases z : getFW m fs with
        | none => rfl
        | some _ => rw [z] at hN; cases hN
      refine ⟨a, dx, vs, rfl, hx, al.none hN', ?_⟩
      simp only [aNil, bind_ok] at hp1
      split at hp1
      · rename_i hl
        have hl := of_decide_eq_true hl
        exact ⟨by simpa using hl, c1, [.loc n], m1, hm1, .cons r1 .nil, hp1.u fun _ _ _ h => h⟩
      · exact hp1.elim
    · exact hp1.elim
  · exact hp1.elim
theorem mk_post {K : PySem.W.Frag} {σ : L2.St} {c : Cfg} {H : Hp} {m1 : Hm} {ws : List W} {vs : List V} {Q : VK} (hm : HRel K c m1 H) (rv : RpWs K c H vs ws) {p : Nat}
    (hp : Post K U σ c H (RQ K Q) (if decide (ws.length + 1 = p) = true then (match F (.loc m1.length :: ws) (m1 ++ [.ins C []]) with
      | .ok (.p .none) m2 => .ok (.loc m1.length) m2
      | _ => .stuck) else .stuck)) : ∀ x dx, H x = none → H dx = none → dx ≠ x → SpF K F p (.ref x :: vs) (upd (upd H dx (.own x)) x (.ins (He.ga K C) dx [])) (fun v H2 => v = .non ∧ Q (.ref x) H2) (fun _ _ _ => False) := by
  intro x dx hx hd hne
  split at hp
  · rename_i hl
    have hl := of_decide_eq_true hl
    have hx' : (upd H dx (.own x)) x = none := by rw [upd_ne (Ne.symm hne)]; exact hx
    have e1 : Ext c H c (upd H dx (.own x)) := Ext.new hd
    have hm1 : HRel K c m1 (upd H dx (.own x)) := hm.new hd
    have e2 : Ext c (upd H dx (.own x)) ⟨c.fb, c.rho ++ [x]⟩ (upd (upd H dx (.own x)) x (.ins (He.ga K C) dx [])) := Ext.cell hx'
    have hm2 : HRel K ⟨c.fb, c.rho ++ [x]⟩ (m1 ++ [.ins C []]) (upd (upd H dx (.own x)) x (.ins (He.ga K C) dx [])) := hm1.cell hx' ⟨dx, [], upd_same, rfl, .nil⟩
    have e := e1.trans e2
    have hat : (c.rho ++ [x])[m1.length]? = some x := by rw [← hm.len]; simp
    refine ⟨by simp [rv.length, hl], ⟨c.fb, c.rho ++ [x]⟩, .loc m1.length :: ws, m1 ++ [.ins C []], hm2, .cons (.loc hat) (rv.mono e), ?_⟩
    split at hp
    · rename_i m2 q
      rw [q]
      intro c' H' e' hm' v rv'
      cases rv' with | p rv' =>
      cases rv'
      exact ⟨rfl, hp c' H' (e.trans e') hm' _ (.loc (e'.at hat))⟩
    · exact hp.elim
  · exact hp.elim
theorem x_make {n : Nat} (o' : OkI X.prog X.w X.K X.mg X.base k C F ps) (hr : Room (k + 1) X.A) (tk : Takes X U) (ha : PA X (e :: es) (TL X.K U fa)) (hn : ps.length = n := by rfl) (hg : Gl X C := by rfl) (hdb : (C == ("__debug__" : Str)) = false := by decide)
    (he : starEach (e :: es) X.env = (false, eval e X.env) :: starEach es X.env := by rfl) (hpl : (backTo pos (starEach es X.env)).any (·.1) = false := by rfl) :
    PE X (.Call (.Name C p) (e :: es) [] pos) (T X.K U (eMake C n F fa)) := by
  subst hn
  obtain ⟨f, fd, M, hmg, hb, ok⟩ := o'
  refine imp (pe_make (E := fun _ _ _ => False) M ok hr hg hmg hb .nil (passes_call tk fun _ _ _ _ h => h.elim) ha hdb he hpl) ?_
  rintro σ H Q ⟨c, s, mm, hs, hm, hp⟩
  refine TL.run hs hm hp fun c1 H1 ws m1 vs e1 hs1 hm1 rv hp1 => ?_
  intro x dx hx hd hne
  have := mk_post hm1 rv hp1 x dx hx hd hne
  simpa using this
end
section
variable {P : Program} {w : World} {K : PySem.W.Frag} {mg : Str → Option Value} {base : Heap} {x qual C m : Str} {params : Arguments} {body : List Stmt} {scope : Scope} {f : Addr} {fd : FuncData}
theorem OkM.mk {N ps : List Str} {k n p : Nat} {fz : Bool} {b : SX} (F : FunD K x qual params body scope [] [] f fd) (hc : Cls K (He.ga K C)) (hm : Meth K (He.ga K C) m f) (hb : Binds K fd ps []) (S : FnScope N ps scope) (hn : N.length = n) (hp : ps.length = p)
    (h : ∀ (cd : Value) (A : Around) (outer : List Env) (s : Shared) (H : Hp) (E : XK), Room k (A.deeper (envOfC qual scope s.heap.objs.size f cd)) → PSs (cx P w K mg base N qual scope f cd A outer s H E) body (TSt K (UE E) b)) : OkM P w K mg base (k + 1) C m (mkFn fz p n b) ps :=
  ⟨f, fd, hc, hm, hb, fn_mk F S hn hp h⟩
theorem OkI.mk {N ps : List Str} {k n p : Nat} {fz : Bool} {b : SX} (F : FunD K x qual params body scope [] [] f fd) (M : Mk K (He.ga K C) f) (hmg : mg C = some (.ref (He.ga K C))) (hb : Binds K fd ps []) (S : FnScope N ps scope) (hn : N.length = n) (hp : ps.length = p)
    (h : ∀ (cd : Value) (A : Around) (outer : List Env) (s : Shared) (H : Hp) (E : XK), Room k (A.deeper (envOfC qual scope s.heap.objs.size f cd)) → PSs (cx P w K mg base N qual scope f cd A outer s H E) body (TSt K (UE E) b)) : OkI P w K mg base (k + 1) C (mkFn fz p n b) ps :=
  ⟨f, fd, M, hmg, hb, fn_mk F S hn hp h⟩
end
end Mir
namespace Mir
open PySem PySem.Spec PyProof.Rows L2
/-- f() of a def that raises nothing -/
def eCall0 (F : FF) : EX W := fun _ m => match F [] m with
  | .ok w m' => .ok w m'
  | _ => .stuck
theorem x_call0 {X : Cx} {U : WX} {k : Nat} {x : Str} {F : FF} {p pos : Pos} (o : OkD X.prog X.w X.K X.mg X.base k x F []) (hr : Room k X.A) (tk : Takes X U) (hg : Gl X x := by rfl) (hdb : (x == ("__debug__" : Str)) = false := by decide) :
    PE X (.Call (.Name x p) [] [] pos) (T X.K U (eCall0 F)) := by
  obtain ⟨f, fd, hm, hk, hb, ok⟩ := o
  refine imp (pe_call0 (E := fun _ _ _ => False) ok hr hg hm hk hb .nil (passes_call tk fun _ _ _ _ h => h.elim) hdb) ?_
  rintro σ H Q ⟨c, s, m, hs, hmm, hp⟩
  refine ⟨rfl, c, [], m, hmm, .nil, ?_⟩
  unfold eCall0 at hp
  split at hp
  · rename_i w m' e
    rw [e]
    exact hp
  · exact hp.elim
end Mir

namespace Mir
open PySem PySem.Spec PyProof.Rows L2

/-! ### own exceptions: made -/
def SpX1 (K : PySem.W.Frag) (C f : Str) : Sp := fun vs H Q _ => ∃ (a : Addr) (y : V), vs = [.ref a, y] ∧ H a = some (exo a (He.ga K C) none) ∧ ∀ dx, H dx = none → dx ≠ a → Q .non (upd (upd H dx (exd dx [(f, y)])) a (exo a (He.ga K C) (some dx)))
def SpX2 (K : PySem.W.Frag) (C f g : Str) : Sp := fun vs H Q _ => ∃ (a : Addr) (y z : V), vs = [.ref a, y, z] ∧ H a = some (exo a (He.ga K C) none) ∧
  ∀ dx, H dx = none → dx ≠ a → Q .non (upd (upd (upd H dx (exd dx [(f, y)])) a (exo a (He.ga K C) (some dx))) dx (exd dx [(g, z), (f, y)]))
section
variable {P : Program} {w : World} {K : PySem.W.Frag} {mg : Str → Option Value} {base : Heap} {qual C f g : Str} {params : Arguments} {body : List Stmt} {scope : Scope} {fI : Addr} {fd : FuncData} {k : Nat}
theorem okX1 {x : Str} (F : FunD K x qual params body scope [] [] fI fd) (S : FnScope ["self", f] ["self", f] scope) (oex : OexC K (He.ga K C)) (no : PySem.W.findIn K (.ref (He.ga K C)) f = some none)
    (h : ∀ (cd : Value) (A : Around) (outer : List Env) (s : Shared) (H : Hp) (E : XK), PSs (cx P w K mg base ["self", f] qual scope fI cd A outer s H E) body (tOst K f (tVar 0) (tVar 1))) : FnOk P w K mg base (L2.CX P w) (k + 1) fI fd ["self", f] (SpX1 K C f) := by
  refine F.ok S (fun vs H Q E h => ?_) fun cdv A outer s H vs Q E hr hs => ⟨_, h cdv A outer s H E, ?_⟩
  · obtain ⟨a, y, rfl, _⟩ := h
    rfl
  · obtain ⟨a, y, rfl, ha, hq⟩ := hs
    exact ⟨y, rfl, .ref a, rfl, a, _, rfl, oex, no, .inl ⟨ha, fun dx hd n => hq dx hd n⟩⟩
theorem okX2 {x : Str} (F : FunD K x qual params body scope [] [] fI fd) (S : FnScope ["self", f, g] ["self", f, g] scope) (oex : OexC K (He.ga K C)) (no : PySem.W.findIn K (.ref (He.ga K C)) f = some none) (no2 : PySem.W.findIn K (.ref (He.ga K C)) g = some none)
    (h : ∀ (cd : Value) (A : Around) (outer : List Env) (s : Shared) (H : Hp) (E : XK), PSs (cx P w K mg base ["self", f, g] qual scope fI cd A outer s H E) body (tSeq (tOst K f (tVar 0) (tVar 1)) (tOst K g (tVar 0) (tVar 2)))) : FnOk P w K mg base (L2.CX P w) (k + 1) fI fd ["self", f, g] (SpX2 K C f g) := by
  refine F.ok S (fun vs H Q E h => ?_) fun cdv A outer s H vs Q E hr hs => ⟨_, h cdv A outer s H E, ?_⟩
  · obtain ⟨a, y, z, rfl, _⟩ := h
    rfl
  · obtain ⟨a, y, z, rfl, ha, hq⟩ := hs
    exact ⟨y, rfl, .ref a, rfl, a, _, rfl, oex, no, .inl ⟨ha, fun dx hd n => ⟨z, rfl, .ref a, rfl, a, _, rfl, oex, no2, .inr ⟨dx, [(f, y)], upd_same, (upd_ne n).trans upd_same, by simp, hq dx hd n⟩⟩⟩⟩
end
def OkX1 (P : Program) (w : World) (K : PySem.W.Frag) (mg : Str → Option Value) (base : Heap) (k : Nat) (C f : Str) : Prop :=
  OexC K (He.ga K C) ∧ mg C = some (.ref (He.ga K C)) ∧ ∃ fI fd, PySem.W.findIn K (.ref (He.ga K C)) "__init__" = some (some (.ref fI)) ∧ PySem.W.typeIn K (.ref fI) = some (.type "function") ∧ Binds K fd ["self", f] [] ∧ FnOk P w K mg base (L2.CX P w) k fI fd ["self", f] (SpX1 K C f)
def OkX2 (P : Program) (w : World) (K : PySem.W.Frag) (mg : Str → Option Value) (base : Heap) (k : Nat) (C f g : Str) : Prop :=
  OexC K (He.ga K C) ∧ mg C = some (.ref (He.ga K C)) ∧ ∃ fI fd, PySem.W.findIn K (.ref (He.ga K C)) "__init__" = some (some (.ref fI)) ∧ PySem.W.typeIn K (.ref fI) = some (.type "function") ∧ Binds K fd ["self", f, g] [] ∧ FnOk P w K mg base (L2.CX P w) k fI fd ["self", f, g] (SpX2 K C f g)
/-- raise C(e, ..): the fields as they stand in its dict -/
def sRaise (C : Str) (names : List Str) (fa : EX (List W)) : SX := fun s m => (fa s m).st s fun ws m1 => if decide (ws.length = names.length) = true then some (.ex ⟨C, (names.zip ws).reverse⟩ s, m1) else none
theorem del_upd {H : Hp} {a d : Addr} {o o1 o2 u : HO} (ha : H a = none) (n : d ≠ a) : upd (del (upd (upd (upd H a o) d o1) a o2) a) d u = upd H d u := by
  funext b
  by_cases hd : b = d
  · subst hd; rw [upd_same, upd_same]
  · rw [upd_ne hd, upd_ne hd]
    by_cases hb : b = a
    · subst hb; rw [del_same, ha]
    · rw [del_ne hb, upd_ne hb, upd_ne hd, upd_ne hb]
theorem del_upd2 {H : Hp} {a d : Addr} {o o1 o2 o3 u : HO} (ha : H a = none) (n : d ≠ a) : upd (del (upd (upd (upd (upd H a o) d o1) a o2) d o3) a) d u = upd H d u := by
  funext b
  by_cases hd : b = d
  · subst hd; rw [upd_same, upd_same]
  · rw [upd_ne hd, upd_ne hd]
    by_cases hb : b = a
    · subst hb; rw [del_same, ha]
    · rw [del_ne hb, upd_ne hd, upd_ne hb, upd_ne hd, upd_ne hb]
section
variable {X : Cx} {U : WX} {k : Nat} {C f g : Str} {p pos pos' : Pos} {e : Expr} {es : List Expr} {fa : EX (List W)}
theorem s_raise1 (o : OkX1 X.prog X.w X.K X.mg X.base k C f) (hr : Room (k + 1) X.A) (tk : Takes X U) (ha : PA X (e :: es) (TL X.K U fa)) (hc : X.calm = true := by rfl) (hg : Gl X C := by rfl) (hdb : (C == ("__debug__" : Str)) = false := by decide)
    (he : starEach (e :: es) X.env = (false, eval e X.env) :: starEach es X.env := by rfl) (hpl : (backTo pos (starEach es X.env)).any (·.1) = false := by rfl) :
    PS X (.Raise (some (.Call (.Name C p) (e :: es) [] pos)) none pos') (TSt X.K U (sRaise C [f] fa)) := by
  obtain ⟨oex, hmg, fI, fd, iC, tI, hb, ok⟩ := o
  refine impS (ps_raise hc tk (pmk_oex oex iC tI ok hr hb .nil (passes_call tk fun _ _ _ _ h => h.elim) hg hmg ha hdb he hpl)) fun D σ H h => ?_
  obtain ⟨c, s, m, hs, hm, hp⟩ := h
  refine ⟨c, s, m, hs, hm, Post.st hs hp fun c1 H1 ws m1 e1 hs1 hm1 hp1 vs rv => ?_⟩
  split at hp1
  · rename_i hl
    have hl := of_decide_eq_true hl
    match ws, hl with
    | [w], _ =>
      obtain ⟨v, rfl, rw'⟩ := rv.oneI
      refine ⟨by simp, fun a ha => ⟨a, v, by simp, upd_same, fun dx hd n => ⟨rfl, dx, [(f, v)], upd_same, (upd_ne n).trans upd_same, ?_, ?_⟩⟩⟩
      · rw [upd_ne n] at hd; exact hd
      · rw [upd_ne n] at hd
        rw [del_upd ha n]
        refine hp1 c1 _ (Ext.new hd) (hm1.new hd) σ _ _ (hs1.mono (Ext.new hd)) ⟨rfl, dx, _, rfl, upd_same, rfl, ?_⟩
        exact .cons (rw'.mono (Ext.new hd)) .nil
  · exact hp1.elim
theorem s_raise2 (o : OkX2 X.prog X.w X.K X.mg X.base k C f g) (hr : Room (k + 1) X.A) (tk : Takes X U) (ha : PA X (e :: es) (TL X.K U fa)) (hc : X.calm = true := by rfl) (hg : Gl X C := by rfl) (hdb : (C == ("__debug__" : Str)) = false := by decide)
    (he : starEach (e :: es) X.env = (false, eval e X.env) :: starEach es X.env := by rfl) (hpl : (backTo pos (starEach es X.env)).any (·.1) = false := by rfl) :
    PS X (.Raise (some (.Call (.Name C p) (e :: es) [] pos)) none pos') (TSt X.K U (sRaise C [f, g] fa)) := by
  obtain ⟨oex, hmg, fI, fd, iC, tI, hb, ok⟩ := o
  refine impS (ps_raise hc tk (pmk_oex oex iC tI ok hr hb .nil (passes_call tk fun _ _ _ _ h => h.elim) hg hmg ha hdb he hpl)) fun D σ H h => ?_
  obtain ⟨c, s, m, hs, hm, hp⟩ := h
  refine ⟨c, s, m, hs, hm, Post.st hs hp fun c1 H1 ws m1 e1 hs1 hm1 hp1 vs rv => ?_⟩
  split at hp1
  · rename_i hl
    have hl := of_decide_eq_true hl
    match ws, hl with
    | [w, w2], _ =>
      obtain ⟨v, v2, rfl, rw1, rw2⟩ := rv.twoI
      refine ⟨by simp, fun a ha => ⟨a, v, v2, by simp, upd_same, fun dx hd n => ⟨rfl, dx, [(g, v2), (f, v)], ?_, upd_same, ?_, ?_⟩⟩⟩
      · rw [upd_ne (Ne.symm n), upd_same]
      · rw [upd_ne n] at hd; exact hd
      · rw [upd_ne n] at hd
        rw [del_upd2 ha n]
        refine hp1 c1 _ (Ext.new hd) (hm1.new hd) σ _ _ (hs1.mono (Ext.new hd)) ⟨rfl, dx, _, rfl, upd_same, rfl, ?_⟩
        exact .cons (rw2.mono (Ext.new hd)) (.cons (rw1.mono (Ext.new hd)) .nil)
  · exact hp1.elim
end

/-! ### own exceptions: caught, and something returned -/
inductive XPart where
  | c (d : PyData)
  | f (n : Str)
def XPart.val (x : Exn) : XPart → Option W
  | .c d => some (.p d)
  | .f n => getFW n x.fs
def xVals (x : Exn) : List XPart → Option (List W)
  | [] => some []
  | p :: ps => match p.val x, xVals x ps with
    | some w, some ws => some (w :: ws)
    | _, _ => none
/-- what the suite returns -/
inductive XRet where
  | one (p : XPart)
  | tup (ps : List XPart)
def XRet.val (x : Exn) : XRet → Option W
  | .one p => p.val x
  | .tup ps => match xVals x ps with
    | some ws => if decide (ws.length ≤ 16) = true then some (mkTup ws) else none
    | none => none
def sTry (i : Nat) (tbl : List (Str × Bool)) (r : XRet) (f : SX) : SX := fun s m => match f s m with
  | some (.ex x s1, m1) => (match tbl.lookup x.cls with
    | some true => (match r.val x with
      | some w => if decide (i < s1.length) = true then some (.rt w, m1) else none
      | none => none)
    | some false => some (.ex x s1, m1)
    | none => none)
  | r => r
/-- the reading of a part: a the caught exception at slot i, of the class C, d its dict -/
def tXP (i : Nat) (a : Addr) (cls : Value) (d : Option Addr) (C : Addr) : XPart → TE
  | .c q => fun σ H Q => ∃ v, (∀ K c H, Rp K c H v q) ∧ Q v H
  | .f n => fun σ H Q => σ[i]? = some (some (.ref a)) ∧ cls = .ref C ∧ ∃ (dd : Addr) (fs : List (Str × V)) (v : V), d = some dd ∧ H dd = some (.xd fs) ∧ fs.lookup n = some v ∧ Q v H
def tXPs (i : Nat) (a : Addr) (cls : Value) (d : Option Addr) (C : Addr) : List XPart → TA
  | [] => fun σ H Q => Q [] H
  | p :: ps => fun σ H Q => tXP i a cls d C p σ H fun v H1 => tXPs i a cls d C ps σ H1 fun vs H2 => Q (v :: vs) H2
section
variable {X : Cx} {a C : Addr} {oe : Obj} {cls : Value} {d : Option Addr} {pn : List (Addr × Obj)} {i : Nat} {pos p2 : Pos} {n x : Str} {e : Expr} {es : List Expr} {p : XPart} {ps : List XPart}
theorem xp_int {v : Int} {j : Nat} : PE (X.suite a pn) (.Constant (.int v) j pos) (tXP i a cls d C (.c (.int v))) := ⟨fun pins s σ H Q I ⟨u, r, q⟩ => by
  have := r [] ⟨[], []⟩ H
  cases this
  exact (pe_int (X := X.suite a pn) (pos := pos) (j := j)).run pins s σ H Q I q⟩
theorem xp_str {v : Str} {j : Nat} : PE (X.suite a pn) (.Constant (.str v) j pos) (tXP i a cls d C (.c (.str v))) := ⟨fun pins s σ H Q I ⟨u, r, q⟩ => by
  have := r [] ⟨[], []⟩ H
  cases this
  exact (pe_str (X := X.suite a pn) (pos := pos) (j := j)).run pins s σ H Q I q⟩
theorem xp_bl {v : Bool} {j : Nat} : PE (X.suite a pn) (.Constant (.bool v) j pos) (tXP i a cls d C (.c (.bool v))) := ⟨fun pins s σ H Q I ⟨u, r, q⟩ => by
  have := r [] ⟨[], []⟩ H
  cases this
  exact (pe_bl (X := X.suite a pn) (pos := pos) (j := j)).run pins s σ H Q I q⟩
theorem xp_fld (T' : XfC X.K C) (hno : PySem.W.findIn X.K (.ref C) n = some none) (hz : Zc cls d oe) (hf : ∃ vs, oe.data = .fields vs) (he : PE (X.suite a ((a, oe) :: pn)) e (tVar i)) (hb : attributeBase e n X.env (eval e X.env) = eval e X.env := by rfl) :
    PE (X.suite a ((a, oe) :: pn)) (.Attribute e n pos) (tXP i a cls d C (.f n)) := by
  refine imp (pe_xf T' hno hz hf he hb) ?_
  rintro σ H Q ⟨h1, h2, dd, fs, v, h3, h4, h5, q⟩
  exact ⟨.ref a, h1, rfl, h2, dd, fs, v, h3, h4, h5, q⟩
theorem xps_nil : PA (X.suite a pn) [] (tXPs i a cls d C []) := impA pa_nil fun σ H Q h => h
theorem xps_cons (h1 : PE (X.suite a pn) e (tXP i a cls d C p)) (h2 : PA (X.suite a pn) es (tXPs i a cls d C ps)) (hs : starEach (e :: es) X.env = (false, eval e X.env) :: starEach es X.env := by rfl) : PA (X.suite a pn) (e :: es) (tXPs i a cls d C (p :: ps)) := impA (pa_cons h1 h2 hs) fun σ H Q h => h
/-- what is to hold where the suite begins -/
def tSu (K : PySem.W.Frag) (C : Addr) (i : Nat) (r : XRet) (a : Addr) (cls : Value) (d : Option Addr) : TS := fun D σ H => ∃ c m x w, cls = .ref C ∧ XRel K c H x cls d ∧ HRel K c m H ∧ σ[i]? = some (some (.ref a)) ∧ r.val x = some w ∧ ∀ c' H', Ext c H c' H' → HRel K c' m H' → ∀ v, RpW K c' H' v w → D.rt v H'
theorem xp_of {K : PySem.W.Frag} {c : Cfg} {H : Hp} {x : Exn} {σ : L2.St} {w : W} {Q : VK} (hC : cls = .ref C) (xr : XRel K c H x cls d) (hi : σ[i]? = some (some (.ref a))) (e : p.val x = some w) (hq : ∀ v, RpW K c H v w → (∀ q, p = .c q → ∀ K c H, Rp K c H v q) → Q v H) (hc : ∀ q, p = .c q → ∃ v, ∀ K c H, Rp K c H v q) : tXP i a cls d C p σ H Q := by
  cases p with
  | c q =>
    obtain ⟨v, r⟩ := hc q rfl
    cases e
    exact ⟨v, r, hq v (.p (r K c H)) fun q' e => by cases e; exact r⟩
  | f n =>
    obtain ⟨h1, dd, fs, h2, h3, h4, h5⟩ := xr
    obtain ⟨v, hv, rv⟩ := (AlS.of h4 h5).get e
    exact ⟨hi, hC, dd, fs, v, h2, h3, hv, hq v rv fun q e => by cases e⟩
/-- constants with one value -/
def cOk : XPart → Bool
  | .c (.int _) => true
  | .c (.str _) => true
  | .c (.bool _) => true
  | .f _ => true
  | _ => false
theorem cOk_ok (h : cOk p = true) : ∀ q, p = .c q → ∃ v, ∀ K c H, Rp K c H v q := by
  rintro q rfl
  cases q with
  | int i => exact ⟨.int i, fun _ _ _ => .int i⟩
  | str i => exact ⟨.str i, fun _ _ _ => .str i⟩
  | bool i => exact ⟨.bl i, fun _ _ _ => .bl i⟩
  | _ => cases h
theorem su_one (hk : cOk p = true) (h : PE (X.suite a ((a, oe) :: pn)) e (tXP i a cls d C p)) : PSs (X.suite a ((a, oe) :: pn)) [.Return (some e) pos] (tSu X.K C i (.one p) a cls d) := by
  refine impSs (pss_one (ps_ret h)) ?_
  rintro D σ H ⟨c, m, x, w, hC, xr, hm, hi, hv, q⟩
  exact xp_of (K := X.K) hC xr hi hv (fun v rv _ => q c H .refl hm v rv) (cOk_ok hk)
theorem xps_of {K : PySem.W.Frag} {c : Cfg} {H : Hp} {x : Exn} {σ : L2.St} (hC : cls = .ref C) (xr : XRel K c H x cls d) (hi : σ[i]? = some (some (.ref a))) : ∀ {ps : List XPart} {ws : List W} {Q : List V → Hp → Prop}, ps.all cOk = true → xVals x ps = some ws → (∀ vs, RpWs K c H vs ws → Q vs H) → tXPs i a cls d C ps σ H Q
  | [], ws, Q, _, e, hq => by cases e; exact hq [] .nil
  | p :: ps, ws, Q, hk, e, hq => by
    rw [List.all_cons, Bool.and_eq_true] at hk
    unfold xVals at e
    split at e
    · rename_i w ws' e1 e2
      cases e
      refine xp_of (K := K) hC xr hi e1 (fun v rv _ => ?_) (cOk_ok hk.1)
      exact xps_of hC xr hi hk.2 e2 fun vs rvs => hq _ (.cons rv rvs)
    · cases e
theorem su_tup {j : Nat} (hk : ps.all cOk = true) (h : PA (X.suite a ((a, oe) :: pn)) es (tXPs i a cls d C ps)) : PSs (X.suite a ((a, oe) :: pn)) [.Return (some (.Tuple es j p2)) pos] (tSu X.K C i (.tup ps) a cls d) := by
  refine impSs (pss_one (ps_ret (pe_tup h))) ?_
  rintro D σ H ⟨c, m, x, w, hC, xr, hm, hi, hv, q⟩
  have hv : (match xVals x ps with
    | some ws => if decide (ws.length ≤ 16) = true then some (mkTup ws) else none
    | none => none) = some w := hv
  split at hv
  · rename_i ws e
    split at hv
    · rename_i hl
      have hl := of_decide_eq_true hl
      cases hv
      refine xps_of (K := X.K) hC xr hi hk e fun vs rv => ?_
      have z : vs.length ≤ sizeLine := by rw [rv.length, sizeLine_eq]; omega
      exact ⟨z, fun p hp => q c _ (Ext.new hp) (hm.new hp) _ (RpW.newT hm hp z rv)⟩
    · cases hv
  · cases hv
end
section
variable {X : Cx} {x n C : Str} {i : Nat} {body : List Stmt} {b₀ : Stmt} {suite : List Stmt} {np pos pos' : Pos} {U : WX} {tbl : List (Str × Bool)} {r : XRet} {f : SX}
theorem lookup_mem {tbl : List (Str × Bool)} {y : Str} {b : Bool} (h : tbl.lookup y = some b) : (y, b) ∈ tbl := by
  induction tbl with
  | nil => cases h
  | cons p t ih =>
    obtain ⟨z, c⟩ := p
    unfold List.lookup at h
    split at h
    · rename_i e
      cases h
      rw [beq_iff_eq.mp e]
      exact List.mem_cons_self
    · exact List.mem_cons_of_mem _ (ih h)
theorem try_imp {c0 : Value} (hC : c0 = .ref (He.ga X.K C)) (ht : ∀ p ∈ tbl, PySem.W.exmOne X.K (.ref (He.ga X.K p.1)) (.ref (He.ga X.K C)) = some p.2) (hone : ∀ p ∈ tbl, p.2 = true → p.1 = C) {D : Ends} {σ : L2.St} {H : Hp} (h : TSt X.K U (sTry i tbl r f) D σ H) :
    TSt X.K (wAs X.K c0 i (tSu X.K (He.ga X.K C) i r) U D) f D σ H := by
  subst hC
  obtain ⟨c, s, m, hs, hm, hp⟩ := h
  refine ⟨c, s, m, hs, hm, ?_⟩
  unfold sTry at hp
  cases e : f s m with
  | none => rw [e] at hp; exact hp
  | some q =>
    obtain ⟨o, m1⟩ := q
    rw [e] at hp
    cases o with
    | nx s1 => exact hp
    | rt w => exact hp
    | bk s1 => exact hp
    | ct s1 => exact hp
    | ex x1 s1 =>
      simp only at hp
      intro c' H' e' hm' σ' cls dx hs' xr
      cases hl : tbl.lookup x1.cls with
      | none => rw [hl] at hp; exact hp.elim
      | some b =>
        rw [hl] at hp
        have mem := lookup_mem hl
        have hx : PySem.W.exmOne X.K cls (.ref (He.ga X.K C)) = some b := by rw [xr.1]; exact ht _ mem
        refine ⟨b, hx, fun hb a ha => ?_, fun hb => ?_⟩
        · subst hb
          simp only at hp
          split at hp
          · rename_i w hw
            split at hp
            · rename_i hi
              have hi := of_decide_eq_true hi
              refine ⟨c', m1, x1, w, ?_, xr, hm', ?_, hw, fun c2 H2 e2 hm2 v rv => ?_⟩
              · rw [xr.1, show x1.cls = C from hone _ mem rfl]
              · rw [List.getElem?_set_self (by rw [← hs'.1]; exact hi)]
              · exact hp c2 H2 (e'.trans e2) hm2 v rv
            · exact hp.elim
          · exact hp.elim
        · subst hb
          exact hp c' H' e' hm' σ' cls dx hs' xr
theorem s_try (hC : X.mg x = some (.ref (He.ga X.K x))) (ht : ∀ p ∈ tbl, PySem.W.exmOne X.K (.ref (He.ga X.K p.1)) (.ref (He.ga X.K x)) = some p.2) (hone : ∀ p ∈ tbl, p.2 = true → p.1 = x) (hN : X.N.Nodup) (hi : X.N[i]? = some n) (tk : Takes X U)
    (hb : ∀ (W : WX) (pn : List (Addr × Obj)) (xe : Value → Shared → Prop), Takes (X.tr pn xe) W → PassesOwn (model X.prog X.w) X.A X.env xe → PSs (X.tr pn xe) body (TSt X.K W f))
    (hsu : ∀ (a : Addr) (oe : Obj) (cls : Value) (d : Option Addr) (pn : List (Addr × Obj)), Zc cls d oe → (∃ vs, oe.data = .fields vs) → PSs (X.suite a ((a, oe) :: pn)) (b₀ :: suite) (tSu X.K (He.ga X.K x) i r a cls d))
    (hs : X.stack = X.env :: X.outer := by rfl) (hf : X.env.frame = some X.env.locals := by rfl) (hln : X.env.kindOf n = some .local := by rfl) (hg : Gl X x := by rfl) (hdb : (x == ("__debug__" : Str)) = false := by decide) :
    PS X (.Try body [.ExceptHandler (some (.Name x np)) (some n) (b₀ :: suite) pos'] [] [] pos) (TSt X.K U (sTry i tbl r f)) :=
  impS (ps_try_as hs hf hN hi hln ⟨hg, hdb, .inl hC⟩ tk (tb := fun W => TSt X.K W f) hb hsu) fun D σ H h => try_imp rfl ht hone h
/-- except x: without a name, and nothing caught -/
theorem s_tryN (hC : X.mg x = some (.ref (He.ga X.K x))) (tk : Takes X U)
    (hb : ∀ (W : WX) (pn : List (Addr × Obj)) (xe : Value → Shared → Prop), Takes (X.tr pn xe) W → PassesOwn (model X.prog X.w) X.A X.env xe → PSs (X.tr pn xe) body (TSt X.K W f))
    (hs : X.stack = X.env :: X.outer := by rfl) (hf : X.env.frame = some X.env.locals := by rfl) (hg : Gl X x := by rfl) (hdb : (x == ("__debug__" : Str)) = false := by decide) :
    PS X (.Try body [.ExceptHandler (some (.Name x np)) none (b₀ :: suite) pos'] [] [] pos) (TSt X.K U (sTry 0 [] (.one (.c .none)) f)) := by
  refine impS (ps_try_only (ts := fun _ _ _ => tNever) hs hf ⟨hg, hdb, .inl hC⟩ tk (tb := fun W => TSt X.K W f) hb fun _ _ _ _ _ _ _ => pss_never) fun D σ H h => ?_
  obtain ⟨c, s, m, hs, hm, hp⟩ := h
  refine ⟨c, s, m, hs, hm, ?_⟩
  unfold sTry at hp
  cases e : f s m with
  | none => rw [e] at hp; exact hp
  | some q =>
    obtain ⟨o, m1⟩ := q
    rw [e] at hp
    cases o with
    | ex x1 s1 => exact hp.elim
    | _ => exact hp
end
end Mir

namespace Mir
open PySem PySem.Spec PyProof.Rows L2

/-! ### + of lists, cells too -/
def lstD (m : Hm) : W → Option (List PyData)
  | .p (.list ds) => some ds
  | .loc n => match m[n]? with
    | some (.lst ws) => allP ws
    | _ => none
  | _ => none
theorem lstD_ok {K : PySem.W.Frag} {c : Cfg} {H : Hp} {m : Hm} {v : V} {w : W} {ds : List PyData} (hm : HRel K c m H) (r : RpW K c H v w) (e : lstD m w = some ds) : ∃ a xs, v = .ref a ∧ H a = some (.lst xs) ∧ xs.length ≤ sizeLine ∧ RpAll K c H xs ds := by
  unfold lstD at e
  split at e
  · cases e
    cases r with | p r =>
    obtain ⟨a, xs, rfl, h, _, _, z, q⟩ := r.lstI
    exact ⟨a, xs, rfl, h, z, q⟩
  · split at e
    · rename_i ws q
      cases r with | loc h =>
      obtain ⟨xs, hx, z, rr⟩ := hm.lst h q
      exact ⟨_, xs, rfl, hx, z, allP_rp rr e⟩
    · cases e
  · cases e
def addX (a b : W) (m : Hm) : Res W := match lstD m a, lstD m b with
  | some xs, some ys => if xs.length + ys.length ≤ sizeLine then .ok (.p (.list (xs ++ ys))) m else .stuck
  | _, _ => addM a b m
theorem addX_ok {K : PySem.W.Frag} : OpM K (rAddAll K) addX := by
  intro U σ c H m v1 v2 w1 w2 Q hm r1 r2 hp
  unfold addX at hp
  split at hp
  · rename_i xs' ys' q1 q2
    split at hp
    · rename_i hz
      obtain ⟨a, xs, rfl, h1, z1, p1⟩ := lstD_ok hm r1 q1
      obtain ⟨b, ys, rfl, h2, z2, p2⟩ := lstD_ok hm r2 q2
      have l1 := p1.length
      have l2 := p2.length
      refine .inr (.inr (.inr ⟨a, b, xs, ys, rfl, rfl, h1, h2, by omega, fun p hpn => ?_⟩))
      exact hp c (upd H p _) (Ext.new hpn) (hm.new hpn) _ (.p (Rp.newL hm hpn (by simp only [List.length_append]; omega) (RpAll.append p1 p2)))
    · exact hp.elim
  · exact addM_ok U σ c H m v1 v2 w1 w2 Q hm r1 r2 hp

/-! ### one sign in a text; in of data -/
def oneC (x : Str) : Option Nat := match x.cps.toList with
  | [c] => some c
  | _ => none
theorem oneC_ok {x : Str} {c : Nat} (h : oneC x = some c) : x = ⟨#[c]⟩ := by
  unfold oneC at h
  split at h
  · rename_i c' e
    cases h
    obtain ⟨a⟩ := x
    congr
    exact Array.toList_inj.mp (by simpa using e)
  · cases h
def inX (a b : W) (m : Hm) : Res W := match a, b with
  | .p (.str x), .p (.str z) => (match oneC x with
    | some c => .ok (.p (.bool (decide (c ∈ z.cps.toList)))) m
    | none => .stuck)
  | _, _ => inM false a b m
abbrev rInX (K : PySem.W.Frag) : R2 := fun x y H Q => (rInD K x y H Q ∨ rIn K false x y H Q) ∨ (∃ (c : Nat) (z : Str), x = .str ⟨#[c]⟩ ∧ y = .str z ∧ Q (.bl (decide (c ∈ z.cps.toList))) H)
theorem op_inX {X : Cx} (hu : X.A.units + 65 < cLine) : OpR X (compareOp .In) (rInX X.K) := (op_inAll hu).or op_in_sign
theorem inX_ok {K : PySem.W.Frag} : OpM K (rInX K) inX := by
  intro U σ c H m v1 v2 w1 w2 Q hm r1 r2 hp
  unfold inX at hp
  split at hp
  · cases r1 with | p r1 => cases r2 with | p r2 =>
    cases r1; cases r2
    split at hp
    · rename_i k e
      exact .inr ⟨k, _, by rw [oneC_ok e], rfl, hp.ok hm _ (.p (.bl _))⟩
    · exact hp.elim
  · exact .inl (inM_ok U σ c H m v1 v2 w1 w2 Q hm r1 r2 hp)

/-! ### <= of tuples of ints -/
def lexLe (ns ms : List Int) : Bool := Ob.lexAt (fun j => decide (ns.getD j 0 = ms.getD j 0)) (fun j => decide (ns.getD j 0 ≤ ms.getD j 0)) (decide (ns.length ≤ ms.length)) 0 (min ns.length ms.length)
def leX : W → W → Hm → Res W
  | .p (.int i), .p (.int j), m => .ok (.p (.bool (decide (i ≤ j)))) m
  | .p (.tuple xs), .p (.tuple ys), m => match intsOf xs, intsOf ys with
    | some ns, some ms => .ok (.p (.bool (lexLe ns ms))) m
    | _, _ => .stuck
  | _, _, _ => .stuck
abbrev rLeX (K : PySem.W.Frag) : R2 := fun x y H Q => (rI0 fun i j => .bl (decide (i ≤ j))) x y H Q ∨ rLeT K x y H Q
theorem op_leX {X : Cx} (hu : X.A.units < cLine) : OpR X (compareOp .LtE) (rLeX X.K) := op_le.or (op_leT hu)
theorem leX_ok {K : PySem.W.Frag} : OpM K (rLeX K) leX := by
  intro U σ c H m v1 v2 w1 w2 Q hm r1 r2 hp
  unfold leX at hp
  split at hp
  · cases r1 with | p r1 => cases r2 with | p r2 =>
    cases r1; cases r2
    exact .inl ⟨_, _, rfl, rfl, hp.ok hm _ (.p (.bl _))⟩
  · cases r1 with | p r1 => cases r2 with | p r2 =>
    split at hp
    · rename_i ns ms e1 e2
      obtain ⟨a, xs, rfl, h1, z1, q1⟩ := r1.tupI
      obtain ⟨b, ys, rfl, h2, z2, q2⟩ := r2.tupI
      rw [intsOf_eq e1] at q1
      rw [intsOf_eq e2] at q2
      have l1 := q1.ints
      have l2 := q2.ints
      subst l1 l2
      exact .inr ⟨a, b, ns, ms, rfl, rfl, h1.sq, h2.sq, hp.ok hm _ (.p (.bl _))⟩
    · exact hp.elim
  · exact hp.elim
theorem leX_quiet : Quiet leX := by
  intro a b m
  unfold leX
  split
  · exact .inr ⟨_, rfl⟩
  · split
    · exact .inr ⟨_, rfl⟩
    · exact .inl rfl
  · exact .inl rfl

/-! ### a text walked -/
def signsOf (x : Str) : List W := x.cps.toList.map fun c => .p (.str ⟨#[c]⟩)
def iStrW (f : EX W) : IX := fun s m => (f s m).bind fun w m1 => match w with
  | .p (.str x) => .ok ⟨signsOf x, []⟩ m1
  | _ => .stuck
theorem ItOk.str {K : PySem.W.Frag} {c : Cfg} {H : Hp} (x : Str) : ItOk K c H ⟨signsOf x, []⟩ (Its x) := by
  intro c' H' m' e hm g i
  refine ⟨fun h => ?_, fun w hw => ?_⟩
  · have h : i = (signsOf x).length := h
    show x.cps.size ≤ i
    rw [h]
    simp [signsOf]
  · have hw : (signsOf x)[i]? = some w := hw
    unfold signsOf at hw
    rw [List.getElem?_map] at hw
    obtain ⟨k, hk, rfl⟩ := Option.map_eq_some_iff.mp hw
    have hk' : x.cps[i]? = some k := by rw [← Array.getElem?_toList]; exact hk
    refine ⟨(Array.getElem?_eq_some_iff.mp hk').1, fun v H2 y => ?_⟩
    obtain ⟨rfl, k', hk2, rfl⟩ := y
    rw [hk'] at hk2
    cases hk2
    exact ⟨.inl rfl, .p (.str _)⟩
section
variable {X : Cx} {U : WX} {tg a : Expr} {f : EX W}
theorem i_str (ha : PE X a (T X.K U f)) : PI X tg a (TI' X.K U (iStrW f)) := by
  refine impI (pi_str ha) ?_
  rintro σ H R ⟨c, s, m, hs, hm, hp⟩
  refine T.run hs hm hp fun c1 H1 w m1 v e1 hs1 hm1 r1 hp1 => ?_
  split at hp1
  · cases r1 with | p r1 =>
    cases r1
    exact ⟨_, rfl, hp1.ok hm1 _ (.str _)⟩
  · exact hp1.elim
end

/-! ### join, int(text), max -/
def strsOf : List PyData → Option (List Str)
  | [] => some []
  | .str i :: r => (strsOf r).map (i :: ·)
  | _ :: _ => none
theorem strsOf_eq : ∀ {ds : List PyData} {ns : List Str}, strsOf ds = some ns → ds = ns.map PyData.str
  | [], _, h => by cases h; rfl
  | d :: r, ns, h => by
    cases d with
    | str i =>
      obtain ⟨ns', e, rfl⟩ := Option.map_eq_some_iff.mp (show (strsOf r).map (i :: ·) = some ns from h)
      rw [strsOf_eq e]
      rfl
    | _ => cases h
@[simp] theorem strsOf_map (ns : List Str) : strsOf (ns.map PyData.str) = some ns := by
  induction ns with
  | nil => rfl
  | cons n r ih => simp [strsOf, ih]
theorem RpAll.strs {K : PySem.W.Frag} {c : Cfg} {H : Hp} : ∀ {xs : List V} {ns : List Str}, RpAll K c H xs (ns.map PyData.str) → xs = ns.map V.str
  | _, [], h => by cases h; rfl
  | _, n :: ns, h => by
    cases h with
    | cons r t =>
      cases r
      rw [RpAll.strs t]
      rfl
def isStr : W → Bool
  | .p (.str _) => true
  | _ => false
def joinM (a b : W) (m : Hm) : Res W := match a, rd m b with
  | .p (.str z), some (.list ds) => (match strsOf ds with
    | some ys => if decide ((ys.map (·.length)).sum + ys.length * z.length ≤ 16777216) = true then .ok (.p (.str (Txt.join z ys))) m else .stuck
    | none => .stuck)
  | _, _ => .stuck
def eJoin (f g : EX W) : EX W := fun s m => (f s m).bind fun a m1 => if isStr a = true then (g s m1).bind fun b m2 => joinM a b m2 else .stuck
section
variable {X : Cx} {U : WX} {o e : Expr} {f g : EX W} {apos pos : Pos}
theorem x_join (ho : PE X o (T X.K U f)) (he : PE X e (T X.K U g)) (hs : starEach [e] X.env = [(false, eval e X.env)] := by rfl) (hbase : attributeBase o "join" X.env (eval o X.env) = eval o X.env := by rfl) (hline : (apos.endLine == pos.line) = true := by rfl) :
    PE X (.Call (.Attribute o "join" apos) [e] [] pos) (T X.K U (eJoin f g)) := by
  refine imp (pe_join ho he hs hbase hline) ?_
  rintro σ H Q ⟨c, s, m, hs, hm, hp⟩
  refine T.run hs hm hp fun c1 H1 w1 m1 v1 e1 hs1 hm1 r1 hp1 => ?_
  split at hp1
  · rename_i hk
    refine ⟨?_, T.run hs1 hm1 hp1 fun c2 H2 w2 m2 v2 e2 hs2 hm2 r2 hp2 => ?_⟩
    · cases r1 with
      | p r1 => cases r1 with
        | str x => exact ⟨x, rfl⟩
        | _ => cases hk
      | _ => cases hk
    · unfold joinM at hp2
      split at hp2
      · rename_i z ds q
        split at hp2
        · rename_i ys es
          split at hp2
          · rename_i hz
            have hz := of_decide_eq_true hz
            obtain ⟨b, xs, rfl, hx, q2, _⟩ := rd_list hm2 r2 q
            rw [strsOf_eq es] at q2
            have := q2.strs
            subst this
            cases r1 with | p r1 =>
            cases r1
            exact ⟨_, b, ys, rfl, rfl, .inl hx, hz, hp2.ok hm2 _ (.p (.str _))⟩
          · exact hp2.elim
        · exact hp2.elim
      · exact hp2.elim
  · exact hp1.elim
end
def intX : List W → Hm → Res W
  | [.p (.str z)], m => (match PySem.intText? z with
    | some n => if decide (z.length ≤ 640) = true then .ok (.p (.int n)) m else .stuck
    | none => .stuck)
  | ws, m => intM1 ws m
abbrev rIntX : List V → Hp → VK → Prop := fun xs H Q => ((∃ i, xs = [.int i] ∧ Q (.int i) H) ∨ ∃ k, xs = [.bl k] ∧ Q (.int (if k = true then 1 else 0)) H) ∨ (∃ a n, xs = [.str a] ∧ PySem.intText? a = some n ∧ a.length ≤ 640 ∧ Q (.int n) H)
theorem call_intX {X : Cx} : CallR X (.type "int") rIntX := CallR.or call_int1 call_int_str
theorem intX_ok {K : PySem.W.Frag} : CallM K rIntX intX := by
  intro U σ c H m vs ws Q hm r hp
  unfold intX at hp
  split at hp
  · split at hp
    · rename_i n e
      split at hp
      · rename_i hz
        obtain ⟨v, rfl, rw'⟩ := r.oneI
        cases rw' with | p rw' =>
        cases rw'
        exact .inr ⟨_, n, rfl, e, of_decide_eq_true hz, hp.ok hm _ (.p (.int _))⟩
      · exact hp.elim
    · exact hp.elim
  · exact .inl (intM1_ok U σ c H m vs ws Q hm r hp)
def maxM : List W → Hm → Res W
  | [.p (.int i), .p (.int j)], m => .ok (.p (.int (if j > i then j else i))) m
  | _, _ => .stuck
theorem maxM_ok {K : PySem.W.Frag} : CallM K (fun xs H Q => ∃ i j, xs = [.int i, .int j] ∧ Q (.int (if j > i then j else i)) H) maxM := by
  intro U σ c H m vs ws Q hm r hp
  unfold maxM at hp
  split at hp
  · obtain ⟨v, v', rfl, r1, r2⟩ := r.twoI
    cases r1 with | p r1 => cases r2 with | p r2 =>
    cases r1; cases r2
    exact ⟨_, _, rfl, hp.ok hm _ (.p (.int _))⟩
  · exact hp.elim

/-! ### a module's tuple of texts -/
def GTup (K : PySem.W.Frag) (mg : Str → Option Value) (x : Str) (xs : List Str) : Prop := ∃ a o its n, mg x = some (.ref a) ∧ K.lookup a = some o ∧ o.cls = .type "tuple" ∧ o.data = .seq its n ∧ its.size ≤ sizeLine ∧ Vals (xs.map V.str) its.toList
theorem rpStrs {K : PySem.W.Frag} {c : Cfg} {H : Hp} : ∀ xs : List Str, RpAll K c H (xs.map V.str) (xs.map PyData.str)
  | [] => .nil
  | x :: xs => .cons (.str x) (rpStrs xs)
theorem x_gtup {X : Cx} {U : WX} {pos : Pos} {x : Str} {xs : List Str} (G : GTup X.K X.mg x xs) (hg : Gl X x := by rfl) (hd : (x == ("__debug__" : Str)) = false := by decide) : PE X (.Name x pos) (T X.K U (eC (.tuple (xs.map .str)))) := by
  obtain ⟨a, o, its, n, hm, h1, h2, h3, h4, h5⟩ := G
  refine x_const (pe_glob (v := .ref a) hg hm rfl hd) fun c H => .tup (.inr ⟨o, its, n, h1, h2, h3, h4, h5⟩) ?_ (rpStrs xs)
  have := h5.length
  rw [this]
  simpa using h4
end Mir

namespace Mir
open PySem PySem.Spec PyProof.Rows L2
/-! ### own exceptions, tuples of texts: read by the head -/
def oexB (K : PySem.W.Frag) (C : Addr) : Bool := (match K.lookup C with
  | some ⟨.type "type", _, .cls cd, sl⟩ => (match cd.mro, sl.toList with
    | .ref C' :: bm, [_, _, _, _, some (.builtin n), _] => C' == C && n == "ValueError.__new__" && !cd.hasDel && cd.hasDict && PySem.HandSPX.refsVE bm
    | _, _ => false)
  | _ => false) && (He.eqO (PySem.W.findIn K (.ref C) "__setattr__") (some (some (.builtin "object.__setattr__"))) && (decide (PySem.W.subIn K (.ref C) (.type "BaseException") = some true) && (decide (PySem.W.typeIn K (.ref C) = some (.type "type")) && PySem.W.keepIn K (.ref C))))
theorem oexB_ok {K : PySem.W.Frag} {C : Addr} (h : oexB K C = true) : OexC K C := by
  obtain ⟨q, h⟩ := He.ba h
  obtain ⟨h1, h⟩ := He.ba h
  obtain ⟨h2, h⟩ := He.ba h
  obtain ⟨h3, h4⟩ := He.ba h
  refine ⟨?_, He.eqO_ok h1, of_decide_eq_true h2, of_decide_eq_true h3, h4⟩
  split at q
  · rename_i dd cd sl ho
    split at q
    · rename_i C' bm k0 k1 k2 k3 n k5 hm hs
      simp only [Bool.and_eq_true, beq_iff_eq, Bool.not_eq_true'] at q
      obtain ⟨⟨⟨⟨rfl, rfl⟩, hdel⟩, hdct⟩, ht⟩ := q
      obtain ⟨nm, bs, mro, ns, qn, hd, sn, sub, ab, col, del⟩ := cd
      dsimp only at hm hdel hdct
      subst hm hdel hdct
      have hsl : sl = #[k0, k1, k2, k3, some (.builtin "ValueError.__new__"), k5] := by
        obtain ⟨l⟩ := sl
        simp only at hs
        rw [hs]
      subst hsl
      exact ⟨nm, qn, ns, bs, bm, sn, sub, ab, col, dd, k0, k1, k2, k3, k5, ho, ht⟩
    · cases q
  · cases q
def gtB (K : PySem.W.Frag) (x : Str) (xs : List Str) : Bool := match K.lookup (He.ga K x) with
  | some ⟨.type c, _, .seq its _, _⟩ => decide (c = "tuple") && (decide (its.size ≤ sizeLine) && He.relAll (xs.map V.str) its.toList)
  | _ => false
theorem gtB_ok {K : PySem.W.Frag} {mg : Str → Option Value} {x : Str} {xs : List Str} (hm : mg x = some (.ref (He.ga K x))) (h : gtB K x xs = true) : GTup K mg x xs := by
  unfold gtB at h
  cases q : K.lookup (He.ga K x) with
  | none =>
    rw [q] at h
    cases h
  | some o =>
    obtain ⟨oc, od, dt, osl⟩ := o
    rw [q] at h
    cases oc with
    | type c =>
      cases dt with
      | seq its n =>
        obtain ⟨h1, h2⟩ := He.ba h
        obtain ⟨h3, h4⟩ := He.ba h2
        exact ⟨_, _, its, n, hm, q, congrArg Value.type (of_decide_eq_true h1), rfl, of_decide_eq_true h3, He.relAll_ok h4⟩
      | _ => cases h
    | _ => cases dt <;> cases h
end Mir

namespace Mir.K68
open PySem PySem.Spec PyProof.Rows L2
def top (i : Nat) : Stmt := PySem.Challenge.pw_tabletalk_k68_whole_what_can_come.main.body.getD i (.Pass ⟨0, 0, 0, 0⟩)
def mst (i j : Nat) : Stmt := match top i with
  | .ClassDef _ _ _ body _ _ _ _ _ _ _ => body.getD j (.Pass ⟨0, 0, 0, 0⟩)
  | _ => .Pass ⟨0, 0, 0, 0⟩
abbrev FnP (K : PySem.W.Frag) (x : Str) (st : Stmt) (f : Addr) (fd : FuncData) : Prop := FunD K x x (defArgs st) (defBody st) (defScope st) [] [] f fd
structure Globs (K : PySem.W.Frag) (mg : Str → Option Value) : Prop where
  n_abs : mg "abs" = none
  n_all : mg "all" = none
  n_bool : mg "bool" = none
  n_enumerate : mg "enumerate" = none
  n_int : mg "int" = none
  n_isinstance : mg "isinstance" = none
  n_len : mg "len" = none
  n_list : mg "list" = none
  n_max : mg "max" = none
  n_range : mg "range" = none
  n_str : mg "str" = none
  n_tuple : mg "tuple" = none
  g_DIGITS : ∃ t, mg "DIGITS" = some (.str "0123456789" t)
  g_LONGEST_TEXT : ∃ t, mg "LONGEST_TEXT" = some (.int 2000 t)
  g_MOST_COST : ∃ t, mg "MOST_COST" = some (.int 100 t)
  g_MOST_DIGITS : ∃ t, mg "MOST_DIGITS" = some (.int 6 t)
  g_MOST_NODES : ∃ t, mg "MOST_NODES" = some (.int 5 t)
  g_MOST_VARIABLE : ∃ t, mg "MOST_VARIABLE" = some (.int 5 t)
  g_SIGNS : ∃ t, mg "SIGNS" = some (.str ":,;-=" t)
  g_WIDEST_SCOPE : ∃ t, mg "WIDEST_SCOPE" = some (.int 3 t)
  t_KINDS : GTup K mg "KINDS" ["graph", "tables"]
  k_Parser : mg "Parser" = some (.ref (He.ga K "Parser"))
  k_Ahead : mg "Ahead" = some (.ref (He.ga K "Ahead"))
  k_TextError : mg "TextError" = some (.ref (He.ga K "TextError"))
  c_Parser : Cls K (He.ga K "Parser")
  na_Parser_tokens : NoAttr K (He.ga K "Parser") "tokens"
  na_Parser_stops : NoAttr K (He.ga K "Parser") "stops"
  na_Parser_at : NoAttr K (He.ga K "Parser") "at"
  na_Ahead_options : NoAttr K (He.ga K "Ahead") "options"
  na_TextError_column : NoAttr K (He.ga K "TextError") "column"
  na_TextError_words : NoAttr K (He.ga K "TextError") "words"
  ex_TextError_Ahead : PySem.W.exmOne K (.ref (He.ga K "TextError")) (.ref (He.ga K "Ahead")) = some false
  ex_Ahead_Ahead : PySem.W.exmOne K (.ref (He.ga K "Ahead")) (.ref (He.ga K "Ahead")) = some true
  ex_TextError_TextError : PySem.W.exmOne K (.ref (He.ga K "TextError")) (.ref (He.ga K "TextError")) = some true
  x_TextError : OexC K (He.ga K "TextError")
  x_Ahead : OexC K (He.ga K "Ahead")
  xf_Ahead : XfC K (He.ga K "Ahead")
  xf_TextError : XfC K (He.ga K "TextError")
section
variable {P : Program} {w : World} {K : PySem.W.Frag} {mg : Str → Option Value} {base : Heap} {f : Addr} {fd : FuncData}
theorem sc_TextError___init__ : FnScope ["self", "column", "words"] ["self", "column", "words"] (defScope (mst 3 0)) := ⟨rfl, rfl, rfl, by decide +kernel, rfl, by decide +kernel, by decide +kernel⟩
theorem ok_TextError (G : Globs K mg) (F : FunD K "__init__" "TextError.__init__" (defArgs (mst 3 0)) (defBody (mst 3 0)) (defScope (mst 3 0)) [] [] f fd) (M : Meth K (He.ga K "TextError") "__init__" f) : OkX2 P w K mg base 1 "TextError" "column" "words" := by
  have ok := okX2 (P := P) (w := w) (mg := mg) (base := base) (k := 0) F sc_TextError___init__ G.x_TextError G.na_TextError_column G.na_TextError_words fun _ _ _ _ _ _ => pss_cons (ps_ost (pv 0) (pv 1)) (pss_one (ps_ost (pv 0) (pv 2)))
  exact ⟨G.x_TextError, G.k_TextError, f, fd, M.at_, beq_iff_eq.mp M.fn, (FunD.bindsN F fun _ _ _ _ _ _ us hl => match us, hl with | [_, _, _], _ => rfl), ok⟩
theorem sc_Ahead___init__ : FnScope ["self", "options"] ["self", "options"] (defScope (mst 32 0)) := ⟨rfl, rfl, rfl, by decide +kernel, rfl, by decide +kernel, by decide +kernel⟩
theorem ok_Ahead (G : Globs K mg) (F : FunD K "__init__" "Ahead.__init__" (defArgs (mst 32 0)) (defBody (mst 32 0)) (defScope (mst 32 0)) [] [] f fd) (M : Meth K (He.ga K "Ahead") "__init__" f) : OkX1 P w K mg base 1 "Ahead" "options" := by
  have ok := okX1 (P := P) (w := w) (mg := mg) (base := base) (k := 0) F sc_Ahead___init__ G.x_Ahead G.na_Ahead_options fun _ _ _ _ _ _ => pss_one (ps_ost (pv 0) (pv 1))
  exact ⟨G.x_Ahead, G.k_Ahead, f, fd, M.at_, beq_iff_eq.mp M.fn, (FunD.bindsN F fun _ _ _ _ _ _ us hl => match us, hl with | [_, _], _ => rfl), ok⟩
theorem sc_check_text : FnScope ["text"] ["text"] (defScope (top 9)) := ⟨rfl, rfl, rfl, by decide +kernel, rfl, by decide +kernel, by decide +kernel⟩
def m_check_text : SX := (sIf (bOr (bNot (bTru (eOp1 (isiM "str") (eVar 0)))) (bOr (bVal (eOp2 gtM (eCB lenM (aCons (eVar 0) aNil)) (eC (.int 2000)))) (bVal (eOp2 inX (eC (.str "\n")) (eVar 0))))) sNever sSkip)
def F_check_text : FF := mkFn true 1 1 m_check_text
theorem ok_check_text (G : Globs K mg) (F : FnP K "check_text" (top 9) f fd) (hm : mg "check_text" = some (.ref f))  : OkD P w K mg base 3 "check_text" F_check_text ["text"] := by
  refine OkD.mk F hm (FunD.bindsN F fun _ _ _ _ _ _ us hl => match us, hl with | [_], _ => rfl) sc_check_text rfl rfl fun cd A outer s H E hr => ?_
  have tk := takes_cx (P := P) (w := w) (K := K) (mg := mg) (base := base) (N := ["text"]) (qual := "check_text") (scope := defScope (top 9)) (f := f) (cd := cd) (A := A) (outer := outer) (s := s) (H := H) (E := E)
  have ow := owns_cx (P := P) (w := w) (K := K) (mg := mg) (base := base) (N := ["text"]) (qual := "check_text") (scope := defScope (top 9)) (f := f) (cd := cd) (A := A) (outer := outer) (s := s) (H := H) (E := E)
  exact (ss_one (s_if (PW.pt (b_or (b_not (b_tru (x_isi (by decide) G.n_isinstance G.n_str rfl (x_var 0)))) (b_or (b_cmp op_gt gtM_ok (x_callB call_len lenM_ok G.n_len rfl (a_cons (x_var 0) a_nil)) (x_gint G.g_LONGEST_TEXT)) (b_or1 (b_cmp (op_inX (u65 hr)) inX_ok x_str (x_var 0)))))) (ss_one s_never) ss_nil))
def L1_digits_at : SX := sTidy [] (sSet 2 (eOp2 addM (eVar 2) (eC (.int 1))))
theorem sc_digits_at : FnScope ["text", "at", "end"] ["text", "at"] (defScope (top 10)) := ⟨rfl, rfl, rfl, by decide +kernel, rfl, by decide +kernel, by decide +kernel⟩
def m_digits_at : SX := (sSeq (sSet 2 (eVar 1))
  (sSeq (sWhile 3000 (bAnd (bVal (eOp2 ltM (eVar 2) (eCB lenM (aCons (eVar 0) aNil)))) (bVal (eOp2 inX (eOp2 idxM (eVar 0) (eVar 2)) (eC (.str "0123456789"))))) L1_digits_at)
  (sRet (eCut (eVar 0) (oSome (eVar 1)) (oSome (eVar 2))))))
def F_digits_at : FF := mkFn true 2 3 m_digits_at
theorem ok_digits_at (G : Globs K mg) (F : FnP K "digits_at" (top 10) f fd) (hm : mg "digits_at" = some (.ref f))  : OkD P w K mg base 1 "digits_at" F_digits_at ["text", "at"] := by
  refine OkD.mk F hm (FunD.bindsN F fun _ _ _ _ _ _ us hl => match us, hl with | [_, _], _ => rfl) sc_digits_at rfl rfl fun cd A outer s H E hr => ?_
  have tk := takes_cx (P := P) (w := w) (K := K) (mg := mg) (base := base) (N := ["text", "at", "end"]) (qual := "digits_at") (scope := defScope (top 10)) (f := f) (cd := cd) (A := A) (outer := outer) (s := s) (H := H) (E := E)
  have ow := owns_cx (P := P) (w := w) (K := K) (mg := mg) (base := base) (N := ["text", "at", "end"]) (qual := "digits_at") (scope := defScope (top 10)) (f := f) (cd := cd) (A := A) (outer := outer) (s := s) (H := H) (E := E)
  exact (ss_cons (s_set sc_digits_at.nd rfl (by first | exact Or.inl rfl | exact Or.inr rfl) (x_var 1))
  (ss_cons (s_while ow (PW.pt (b_and (b_cmp (op_ltAll hr.units0) ltM_ok (x_var 2) (x_callB call_len lenM_ok G.n_len rfl (a_cons (x_var 0) a_nil))) (b_and1 (b_cmp (op_inX (u65 hr)) inX_ok (x_ix (x_var 0) (x_var 2)) (x_gstr G.g_DIGITS))))) (ss_tidy [] (ss_one (s_set sc_digits_at.nd rfl (by first | exact Or.inl rfl | exact Or.inr rfl) (x_op op_addAll addM_ok (x_var 2) x_int)))))
  (ss_one (s_ret (x_cut (x_var 0) (o_some (x_var 1)) (o_some (x_var 2)))))))
theorem sc_token_at : FnScope ["text", "at", "number"] ["text", "at"] (defScope (top 11)) := ⟨rfl, rfl, rfl, by decide +kernel, rfl, by decide +kernel, by decide +kernel⟩
def m_token_at : SX := (sSeq (sIf (bVal (eOp2 inX (eOp2 idxM (eVar 0) (eVar 1)) (eC (.str ":,;-=")))) (sRet (eTup (aCons (eC (.str "sign")) (aCons (eOp2 idxM (eVar 0) (eVar 1)) (aCons (eOp2 addM (eVar 1) (eC (.int 1))) aNil))))) sSkip)
  (sSeq (sSet 2 (eCall 2 F_digits_at (aCons (eVar 0) (aCons (eVar 1) aNil))))
  (sSeq (sIf (bVal (eOp2 (eqM false) (eVar 2) (eC (.str "")))) (sRaise "TextError" ["column", "words"] (aCons (eOp2 addM (eVar 1) (eC (.int 1))) (aCons (eC (.str "no token begins here")) aNil))) sSkip)
  (sSeq (sIf (bVal (eOp2 gtM (eCB lenM (aCons (eVar 2) aNil)) (eC (.int 6)))) (sRaise "TextError" ["column", "words"] (aCons (eOp2 addM (eVar 1) (eC (.int 1))) (aCons (eC (.str "a number has at most 6 digits")) aNil))) sSkip)
  (sRet (eTup (aCons (eC (.str "number")) (aCons (eVar 2) (aCons (eOp2 addM (eVar 1) (eC (.int 1))) aNil)))))))))
def F_token_at : FF := mkFn true 2 3 m_token_at
theorem ok_token_at (G : Globs K mg) (F : FnP K "token_at" (top 11) f fd) (hm : mg "token_at" = some (.ref f)) (o_digits_at : OkD P w K mg base 1 "digits_at" F_digits_at ["text", "at"]) (o_TextError : OkX2 P w K mg base 1 "TextError" "column" "words") : OkD P w K mg base 3 "token_at" F_token_at ["text", "at"] := by
  refine OkD.mk F hm (FunD.bindsN F fun _ _ _ _ _ _ us hl => match us, hl with | [_, _], _ => rfl) sc_token_at rfl rfl fun cd A outer s H E hr => ?_
  have tk := takes_cx (P := P) (w := w) (K := K) (mg := mg) (base := base) (N := ["text", "at", "number"]) (qual := "token_at") (scope := defScope (top 11)) (f := f) (cd := cd) (A := A) (outer := outer) (s := s) (H := H) (E := E)
  have ow := owns_cx (P := P) (w := w) (K := K) (mg := mg) (base := base) (N := ["text", "at", "number"]) (qual := "token_at") (scope := defScope (top 11)) (f := f) (cd := cd) (A := A) (outer := outer) (s := s) (H := H) (E := E)
  exact (ss_cons (s_if (b_cmp (op_inX (u65 hr)) inX_ok (x_ix (x_var 0) (x_var 1)) (x_gstr G.g_SIGNS)) (ss_one (s_ret (x_tup (a_cons x_str (a_cons (x_ix (x_var 0) (x_var 1)) (a_cons (x_op op_addAll addM_ok (x_var 1) x_int) a_nil)))))) ss_nil)
  (ss_cons (s_set sc_token_at.nd rfl (by first | exact Or.inl rfl | exact Or.inr rfl) (x_call o_digits_at (hr.mono (by omega)) tk (a_cons (x_var 0) (a_cons (x_var 1) a_nil))))
  (ss_cons (s_if (b_cmp (op_eqD hr.units) eqM_ok (x_var 2) x_str) (ss_one (s_raise2 o_TextError (hr.mono (by omega)) tk (a_cons (x_op op_addAll addM_ok (x_var 1) x_int) (a_cons x_str a_nil)))) ss_nil)
  (ss_cons (s_if (b_cmp op_gt gtM_ok (x_callB call_len lenM_ok G.n_len rfl (a_cons (x_var 2) a_nil)) (x_gint G.g_MOST_DIGITS)) (ss_one (s_raise2 o_TextError (hr.mono (by omega)) tk (a_cons (x_op op_addAll addM_ok (x_var 1) x_int) (a_cons x_str a_nil)))) ss_nil)
  (ss_one (s_ret (x_tup (a_cons x_str (a_cons (x_var 2) (a_cons (x_op op_addAll addM_ok (x_var 1) x_int) a_nil))))))))))
def L1_scan : SX := sTidy [] (sIf (bVal (eOp2 (eqM false) (eOp2 idxM (eVar 0) (eVar 2)) (eC (.str " ")))) (sSet 2 (eOp2 addM (eVar 2) (eC (.int 1)))) (sSeq (sExpr (eLM appendM (eVar 1) (aCons (eCall 2 F_token_at (aCons (eVar 0) (aCons (eVar 2) aNil))) aNil)))
  (sSet 2 (eOp2 addM (eVar 2) (eCB lenM (aCons (eOp2 idxM (eOp2 idxM (eVar 1) (eOp1 negM (eC (.int 1)))) (eC (.int 1))) aNil))))))
theorem sc_scan : FnScope ["text", "tokens", "at"] ["text"] (defScope (top 12)) := ⟨rfl, rfl, rfl, by decide +kernel, rfl, by decide +kernel, by decide +kernel⟩
def m_scan : SX := (sSeq (sExpr (eCall 1 F_check_text (aCons (eVar 0) aNil)))
  (sSeq (sSet 1 (eLstL aNil))
  (sSeq (sSet 2 (eC (.int 0)))
  (sSeq (sWhile 3000 (bVal (eOp2 ltM (eVar 2) (eCB lenM (aCons (eVar 0) aNil)))) L1_scan)
  (sSeq (sExpr (eLM appendM (eVar 1) (aCons (eTup (aCons (eC (.str "end")) (aCons (eC (.str "")) (aCons (eOp2 addM (eCB lenM (aCons (eVar 0) aNil)) (eC (.int 1))) aNil)))) aNil)))
  (sRet (eVar 1)))))))
def F_scan : FF := mkFn true 1 3 m_scan
theorem ok_scan (G : Globs K mg) (F : FnP K "scan" (top 12) f fd) (hm : mg "scan" = some (.ref f)) (o_check_text : OkD P w K mg base 3 "check_text" F_check_text ["text"]) (o_token_at : OkD P w K mg base 3 "token_at" F_token_at ["text", "at"]) : OkD P w K mg base 4 "scan" F_scan ["text"] := by
  refine OkD.mk F hm (FunD.bindsN F fun _ _ _ _ _ _ us hl => match us, hl with | [_], _ => rfl) sc_scan rfl rfl fun cd A outer s H E hr => ?_
  have tk := takes_cx (P := P) (w := w) (K := K) (mg := mg) (base := base) (N := ["text", "tokens", "at"]) (qual := "scan") (scope := defScope (top 12)) (f := f) (cd := cd) (A := A) (outer := outer) (s := s) (H := H) (E := E)
  have ow := owns_cx (P := P) (w := w) (K := K) (mg := mg) (base := base) (N := ["text", "tokens", "at"]) (qual := "scan") (scope := defScope (top 12)) (f := f) (cd := cd) (A := A) (outer := outer) (s := s) (H := H) (E := E)
  exact (ss_cons (s_expr (x_call o_check_text (hr.mono (by omega)) tk (a_cons (x_var 0) a_nil)))
  (ss_cons (s_set sc_scan.nd rfl (by first | exact Or.inl rfl | exact Or.inr rfl) (x_lstL a_nil))
  (ss_cons (s_set sc_scan.nd rfl (by first | exact Or.inl rfl | exact Or.inr rfl) x_int)
  (ss_cons (s_while ow (b_cmp (op_ltAll hr.units0) ltM_ok (x_var 2) (x_callB call_len lenM_ok G.n_len rfl (a_cons (x_var 0) a_nil))) (ss_tidy [] (ss_one (s_if (b_cmp (op_eqD hr.units) eqM_ok (x_ix (x_var 0) (x_var 2)) x_str) (ss_one (s_set sc_scan.nd rfl (by first | exact Or.inl rfl | exact Or.inr rfl) (x_op op_addAll addM_ok (x_var 2) x_int))) (ss_cons (s_expr (x_lm PySem.F.slot_list_append PySem.F.type_list_append mt_append appendM_ok (x_var 1) (a_cons (x_call o_token_at (hr.mono (by omega)) tk (a_cons (x_var 0) (a_cons (x_var 2) a_nil))) a_nil)))
  (ss_one (s_set sc_scan.nd rfl (by first | exact Or.inl rfl | exact Or.inr rfl) (x_op op_addAll addM_ok (x_var 2) (x_callB call_len lenM_ok G.n_len rfl (a_cons (x_ix (x_ix (x_var 1) (x_neg x_int)) x_int) a_nil))))))))))
  (ss_cons (s_expr (x_lm PySem.F.slot_list_append PySem.F.type_list_append mt_append appendM_ok (x_var 1) (a_cons (x_tup (a_cons x_str (a_cons x_str (a_cons (x_op op_addAll addM_ok (x_callB call_len lenM_ok G.n_len rfl (a_cons (x_var 0) a_nil)) x_int) a_nil)))) a_nil)))
  (ss_one (s_ret (x_var 1))))))))
theorem sc_is_whole : FnScope ["value", "low", "high"] ["value", "low", "high"] (defScope (top 17)) := ⟨rfl, rfl, rfl, by decide +kernel, rfl, by decide +kernel, by decide +kernel⟩
def m_is_whole : SX := (sRet (eAnd (eOp1 (isiM "int") (eVar 0)) (eAnd (eNot (eOp1 (isiM "bool") (eVar 0))) (eChain leX leX (eVar 1) (eVar 0) (eVar 2)))))
def F_is_whole : FF := mkFn true 3 3 m_is_whole
theorem ok_is_whole (G : Globs K mg) (F : FnP K "is_whole" (top 17) f fd) (hm : mg "is_whole" = some (.ref f))  : OkD P w K mg base 1 "is_whole" F_is_whole ["value", "low", "high"] := by
  refine OkD.mk F hm (FunD.bindsN F fun _ _ _ _ _ _ us hl => match us, hl with | [_, _, _], _ => rfl) sc_is_whole rfl rfl fun cd A outer s H E hr => ?_
  have tk := takes_cx (P := P) (w := w) (K := K) (mg := mg) (base := base) (N := ["value", "low", "high"]) (qual := "is_whole") (scope := defScope (top 17)) (f := f) (cd := cd) (A := A) (outer := outer) (s := s) (H := H) (E := E)
  have ow := owns_cx (P := P) (w := w) (K := K) (mg := mg) (base := base) (N := ["value", "low", "high"]) (qual := "is_whole") (scope := defScope (top 17)) (f := f) (cd := cd) (A := A) (outer := outer) (s := s) (H := H) (E := E)
  exact (ss_one (s_ret (x_and (x_isi (by decide) G.n_isinstance G.n_int rfl (x_var 0)) (x_and (x_not (x_isi (by decide) G.n_isinstance G.n_bool rfl (x_var 0))) (x_one (x_chain (op_leX hr.units0) leX_ok leX_quiet (op_leX hr.units0) leX_ok (x_var 1) (x_var 0) (x_var 2)))))))
def C1_is_climbing : EX W := eLc lcFin (iRg1 (eOp2 subM (eCB lenM (aCons (eVar 0) aNil)) (eC (.int 1)))) (.n 1) bYes (eOp2 ltM (eOp2 idxM (eVar 0) (eVar 1)) (eOp2 idxM (eVar 0) (eOp2 addM (eVar 1) (eC (.int 1))))) [1]
theorem sc_is_climbing : FnScope ["value", "at"] ["value"] (defScope (top 18)) := ⟨rfl, rfl, rfl, by decide +kernel, rfl, by decide +kernel, by decide +kernel⟩
def m_is_climbing : SX := (sRet (eCB (allM true) (aCons C1_is_climbing aNil)))
def F_is_climbing : FF := mkFn true 1 2 m_is_climbing
theorem ok_is_climbing (G : Globs K mg) (F : FnP K "is_climbing" (top 18) f fd) (hm : mg "is_climbing" = some (.ref f))  : OkD P w K mg base 1 "is_climbing" F_is_climbing ["value"] := by
  refine OkD.mk F hm (FunD.bindsN F fun _ _ _ _ _ _ us hl => match us, hl with | [_], _ => rfl) sc_is_climbing rfl rfl fun cd A outer s H E hr => ?_
  have tk := takes_cx (P := P) (w := w) (K := K) (mg := mg) (base := base) (N := ["value", "at"]) (qual := "is_climbing") (scope := defScope (top 18)) (f := f) (cd := cd) (A := A) (outer := outer) (s := s) (H := H) (E := E)
  have ow := owns_cx (P := P) (w := w) (K := K) (mg := mg) (base := base) (N := ["value", "at"]) (qual := "is_climbing") (scope := defScope (top 18)) (f := f) (cd := cd) (A := A) (outer := outer) (s := s) (H := H) (E := E)
  exact (ss_one (s_ret (x_callB (cr_all rfl) allM_ok G.n_all rfl (a_cons (x_lc (own := [("at", 1)]) lcFin_ok rfl rfl sc_is_climbing.nd (i_rg1 G.n_range (x_op op_sub subM_ok (x_callB call_len lenM_ok G.n_len rfl (a_cons (x_var 0) a_nil)) x_int)) (blkOk_by (by kernel_rfl)) (fun _ _ _ _ _ => (g_name sc_is_climbing.nd rfl (by first | exact Or.inl rfl | exact Or.inr rfl))) (fun _ _ _ _ _ => ts_nil) (fun _ _ _ _ _ => (x_cmp (op_ltAll hr.units0) ltM_ok (x_ix (x_var 0) (x_var 1)) (x_ix (x_var 0) (x_op op_addAll addM_ok (x_var 1) x_int))))) a_nil))))
def C1_are_variables : EX W := eLc lcFin (iSeq (eVar 0)) (.n 1) bYes (eCall 3 F_is_whole (aCons (eVar 1) (aCons (eC (.int 0)) (aCons (eC (.int 5)) aNil)))) [1]
theorem sc_are_variables : FnScope ["value", "one"] ["value"] (defScope (top 19)) := ⟨rfl, rfl, rfl, by decide +kernel, rfl, by decide +kernel, by decide +kernel⟩
def m_are_variables : SX := (sSeq (sIf (bOr (bNot (bTru (eOp1 (isiM "tuple") (eVar 0)))) (bNot (bTru (eCB (allM true) (aCons C1_are_variables aNil))))) (sRet (eC (.bool false))) sSkip)
  (sRet (eCall 1 F_is_climbing (aCons (eVar 0) aNil))))
def F_are_variables : FF := mkFn true 1 2 m_are_variables
theorem ok_are_variables (G : Globs K mg) (F : FnP K "are_variables" (top 19) f fd) (hm : mg "are_variables" = some (.ref f)) (o_is_whole : OkD P w K mg base 1 "is_whole" F_is_whole ["value", "low", "high"]) (o_is_climbing : OkD P w K mg base 1 "is_climbing" F_is_climbing ["value"]) : OkD P w K mg base 2 "are_variables" F_are_variables ["value"] := by
  refine OkD.mk F hm (FunD.bindsN F fun _ _ _ _ _ _ us hl => match us, hl with | [_], _ => rfl) sc_are_variables rfl rfl fun cd A outer s H E hr => ?_
  have tk := takes_cx (P := P) (w := w) (K := K) (mg := mg) (base := base) (N := ["value", "one"]) (qual := "are_variables") (scope := defScope (top 19)) (f := f) (cd := cd) (A := A) (outer := outer) (s := s) (H := H) (E := E)
  have ow := owns_cx (P := P) (w := w) (K := K) (mg := mg) (base := base) (N := ["value", "one"]) (qual := "are_variables") (scope := defScope (top 19)) (f := f) (cd := cd) (A := A) (outer := outer) (s := s) (H := H) (E := E)
  exact (ss_cons (s_if (PW.pt (b_or (b_not (b_tru (x_isi (by decide) G.n_isinstance G.n_tuple rfl (x_var 0)))) (b_or1 (b_not (b_tru (x_callB (cr_all rfl) allM_ok G.n_all rfl (a_cons (x_lc (own := [("one", 1)]) lcFin_ok rfl rfl sc_are_variables.nd (i_seq (x_var 0)) (blkOk_by (by kernel_rfl)) (fun _ _ _ _ _ => (g_name sc_are_variables.nd rfl (by first | exact Or.inl rfl | exact Or.inr rfl))) (fun _ _ _ _ _ => ts_nil) (fun _ _ _ _ _ => (x_call o_is_whole (hr.mono (by omega)) takes0 (a_cons (x_var 1) (a_cons x_int (a_cons (x_gint G.g_MOST_VARIABLE) a_nil)))))) a_nil))))))) (ss_one (s_ret x_bl)) ss_nil)
  (ss_one (s_ret (x_call o_is_climbing (hr.mono (by omega)) tk (a_cons (x_var 0) a_nil)))))
theorem sc_is_scope : FnScope ["value"] ["value"] (defScope (top 20)) := ⟨rfl, rfl, rfl, by decide +kernel, rfl, by decide +kernel, by decide +kernel⟩
def m_is_scope : SX := (sRet (eAnd (eCall 1 F_are_variables (aCons (eVar 0) aNil)) (eOp2 leX (eCB lenM (aCons (eVar 0) aNil)) (eC (.int 3)))))
def F_is_scope : FF := mkFn true 1 1 m_is_scope
theorem ok_is_scope (G : Globs K mg) (F : FnP K "is_scope" (top 20) f fd) (hm : mg "is_scope" = some (.ref f)) (o_are_variables : OkD P w K mg base 2 "are_variables" F_are_variables ["value"]) : OkD P w K mg base 3 "is_scope" F_is_scope ["value"] := by
  refine OkD.mk F hm (FunD.bindsN F fun _ _ _ _ _ _ us hl => match us, hl with | [_], _ => rfl) sc_is_scope rfl rfl fun cd A outer s H E hr => ?_
  have tk := takes_cx (P := P) (w := w) (K := K) (mg := mg) (base := base) (N := ["value"]) (qual := "is_scope") (scope := defScope (top 20)) (f := f) (cd := cd) (A := A) (outer := outer) (s := s) (H := H) (E := E)
  have ow := owns_cx (P := P) (w := w) (K := K) (mg := mg) (base := base) (N := ["value"]) (qual := "is_scope") (scope := defScope (top 20)) (f := f) (cd := cd) (A := A) (outer := outer) (s := s) (H := H) (E := E)
  exact (ss_one (s_ret (x_and (x_call o_are_variables (hr.mono (by omega)) tk (a_cons (x_var 0) a_nil)) (x_one (x_cmp (op_leX hr.units0) leX_ok (x_callB call_len lenM_ok G.n_len rfl (a_cons (x_var 0) a_nil)) (x_gint G.g_WIDEST_SCOPE))))))
theorem sc_is_number : FnScope ["value", "low", "high"] ["value", "low", "high"] (defScope (top 23)) := ⟨rfl, rfl, rfl, by decide +kernel, rfl, by decide +kernel, by decide +kernel⟩
def m_is_number : SX := (sRet (eAnd (eOp1 (isiM "int") (eVar 0)) (eAnd (eNot (eOp1 (isiM "bool") (eVar 0))) (eChain leX leX (eVar 1) (eVar 0) (eVar 2)))))
def F_is_number : FF := mkFn true 3 3 m_is_number
theorem ok_is_number (G : Globs K mg) (F : FnP K "is_number" (top 23) f fd) (hm : mg "is_number" = some (.ref f))  : OkD P w K mg base 1 "is_number" F_is_number ["value", "low", "high"] := by
  refine OkD.mk F hm (FunD.bindsN F fun _ _ _ _ _ _ us hl => match us, hl with | [_, _, _], _ => rfl) sc_is_number rfl rfl fun cd A outer s H E hr => ?_
  have tk := takes_cx (P := P) (w := w) (K := K) (mg := mg) (base := base) (N := ["value", "low", "high"]) (qual := "is_number") (scope := defScope (top 23)) (f := f) (cd := cd) (A := A) (outer := outer) (s := s) (H := H) (E := E)
  have ow := owns_cx (P := P) (w := w) (K := K) (mg := mg) (base := base) (N := ["value", "low", "high"]) (qual := "is_number") (scope := defScope (top 23)) (f := f) (cd := cd) (A := A) (outer := outer) (s := s) (H := H) (E := E)
  exact (ss_one (s_ret (x_and (x_isi (by decide) G.n_isinstance G.n_int rfl (x_var 0)) (x_and (x_not (x_isi (by decide) G.n_isinstance G.n_bool rfl (x_var 0))) (x_one (x_chain (op_leX hr.units0) leX_ok leX_quiet (op_leX hr.units0) leX_ok (x_var 1) (x_var 0) (x_var 2)))))))
def C1_is_edge : EX W := eLc lcFin (iSeq (eVar 0)) (.n 2) bYes (eCall 3 F_is_number (aCons (eVar 2) (aCons (eC (.int 0)) (aCons (eOp2 subM (eVar 1) (eC (.int 1))) aNil)))) [2]
theorem sc_is_edge : FnScope ["value", "many", "one"] ["value", "many"] (defScope (top 24)) := ⟨rfl, rfl, rfl, by decide +kernel, rfl, by decide +kernel, by decide +kernel⟩
def m_is_edge : SX := (sSeq (sIf (bOr (bNot (bTru (eOp1 (isiM "tuple") (eVar 0)))) (bOr (bVal (eOp2 (eqM true) (eCB lenM (aCons (eVar 0) aNil)) (eC (.int 2)))) (bNot (bTru (eCB (allM true) (aCons C1_is_edge aNil)))))) (sRet (eC (.bool false))) sSkip)
  (sRet (eOp2 ltM (eOp2 idxM (eVar 0) (eC (.int 0))) (eOp2 idxM (eVar 0) (eC (.int 1))))))
def F_is_edge : FF := mkFn true 2 3 m_is_edge
theorem ok_is_edge (G : Globs K mg) (F : FnP K "is_edge" (top 24) f fd) (hm : mg "is_edge" = some (.ref f)) (o_is_number : OkD P w K mg base 1 "is_number" F_is_number ["value", "low", "high"]) : OkD P w K mg base 2 "is_edge" F_is_edge ["value", "many"] := by
  refine OkD.mk F hm (FunD.bindsN F fun _ _ _ _ _ _ us hl => match us, hl with | [_, _], _ => rfl) sc_is_edge rfl rfl fun cd A outer s H E hr => ?_
  have tk := takes_cx (P := P) (w := w) (K := K) (mg := mg) (base := base) (N := ["value", "many", "one"]) (qual := "is_edge") (scope := defScope (top 24)) (f := f) (cd := cd) (A := A) (outer := outer) (s := s) (H := H) (E := E)
  have ow := owns_cx (P := P) (w := w) (K := K) (mg := mg) (base := base) (N := ["value", "many", "one"]) (qual := "is_edge") (scope := defScope (top 24)) (f := f) (cd := cd) (A := A) (outer := outer) (s := s) (H := H) (E := E)
  exact (ss_cons (s_if (PW.pt (b_or (b_not (b_tru (x_isi (by decide) G.n_isinstance G.n_tuple rfl (x_var 0)))) (b_or (b_cmp (op_neD hr.units) neM_ok (x_callB call_len lenM_ok G.n_len rfl (a_cons (x_var 0) a_nil)) x_int) (b_or1 (b_not (b_tru (x_callB (cr_all rfl) allM_ok G.n_all rfl (a_cons (x_lc (own := [("one", 2)]) lcFin_ok rfl rfl sc_is_edge.nd (i_seq (x_var 0)) (blkOk_by (by kernel_rfl)) (fun _ _ _ _ _ => (g_name sc_is_edge.nd rfl (by first | exact Or.inl rfl | exact Or.inr rfl))) (fun _ _ _ _ _ => ts_nil) (fun _ _ _ _ _ => (x_call o_is_number (hr.mono (by omega)) takes0 (a_cons (x_var 2) (a_cons x_int (a_cons (x_op op_sub subM_ok (x_var 1) x_int) a_nil)))))) a_nil)))))))) (ss_one (s_ret x_bl)) ss_nil)
  (ss_one (s_ret (x_cmp (op_ltAll hr.units0) ltM_ok (x_ix (x_var 0) x_int) (x_ix (x_var 0) x_int)))))
def C1_is_graph : EX W := eLc lcFin (iSeq (eVar 2)) (.n 4) bYes (eCall 1 F_is_scope (aCons (eVar 4) aNil)) [4]
def C2_is_graph : EX W := eLc lcFin (iSeq (eVar 3)) (.n 5) bYes (eCall 2 F_is_edge (aCons (eVar 5) (aCons (eCB lenM (aCons (eVar 2) aNil)) aNil))) [5]
def C3_is_graph : EX W := eLc lcFin (iRg1 (eOp2 subM (eCB lenM (aCons (eVar 3) aNil)) (eC (.int 1)))) (.n 6) bYes (eOp2 ltM (eOp2 idxM (eVar 3) (eVar 6)) (eOp2 idxM (eVar 3) (eOp2 addM (eVar 6) (eC (.int 1))))) [6]
theorem sc_is_graph : FnScope ["value", "values", "scopes", "edges", "one", "edge", "at"] ["value"] (defScope (top 25)) := ⟨rfl, rfl, rfl, by decide +kernel, rfl, by decide +kernel, by decide +kernel⟩
def m_is_graph : SX := (sSeq (sIf (bOr (bNot (bTru (eOp1 (isiM "tuple") (eVar 0)))) (bOr (bVal (eOp2 (eqM true) (eCB lenM (aCons (eVar 0) aNil)) (eC (.int 3)))) (bNot (bTru (eCall 3 F_is_number (aCons (eOp2 idxM (eVar 0) (eC (.int 0))) (aCons (eC (.int 2)) (aCons (eC (.int 3)) aNil)))))))) (sRet (eC (.bool false))) sSkip)
  (sSeq (sPut (.t [(.n 1), (.n 2), (.n 3)]) (eVar 0))
  (sSeq (sIf (bOr (bNot (bTru (eOp1 (isiM "tuple") (eVar 2)))) (bNot (bVal (eChain leX leX (eC (.int 1)) (eCB lenM (aCons (eVar 2) aNil)) (eC (.int 5)))))) (sRet (eC (.bool false))) sSkip)
  (sSeq (sIf (bNot (bTru (eCB (allM true) (aCons C1_is_graph aNil)))) (sRet (eC (.bool false))) sSkip)
  (sSeq (sIf (bOr (bNot (bTru (eOp1 (isiM "tuple") (eVar 3)))) (bNot (bTru (eCB (allM true) (aCons C2_is_graph aNil))))) (sRet (eC (.bool false))) sSkip)
  (sRet (eCB (allM true) (aCons C3_is_graph aNil))))))))
def F_is_graph : FF := mkFn true 1 7 m_is_graph
theorem ok_is_graph (G : Globs K mg) (F : FnP K "is_graph" (top 25) f fd) (hm : mg "is_graph" = some (.ref f)) (o_is_number : OkD P w K mg base 1 "is_number" F_is_number ["value", "low", "high"]) (o_is_scope : OkD P w K mg base 3 "is_scope" F_is_scope ["value"]) (o_is_edge : OkD P w K mg base 2 "is_edge" F_is_edge ["value", "many"]) : OkD P w K mg base 4 "is_graph" F_is_graph ["value"] := by
  refine OkD.mk F hm (FunD.bindsN F fun _ _ _ _ _ _ us hl => match us, hl with | [_], _ => rfl) sc_is_graph rfl rfl fun cd A outer s H E hr => ?_
  have tk := takes_cx (P := P) (w := w) (K := K) (mg := mg) (base := base) (N := ["value", "values", "scopes", "edges", "one", "edge", "at"]) (qual := "is_graph") (scope := defScope (top 25)) (f := f) (cd := cd) (A := A) (outer := outer) (s := s) (H := H) (E := E)
  have ow := owns_cx (P := P) (w := w) (K := K) (mg := mg) (base := base) (N := ["value", "values", "scopes", "edges", "one", "edge", "at"]) (qual := "is_graph") (scope := defScope (top 25)) (f := f) (cd := cd) (A := A) (outer := outer) (s := s) (H := H) (E := E)
  exact (ss_cons (s_if (PW.pt (b_or (b_not (b_tru (x_isi (by decide) G.n_isinstance G.n_tuple rfl (x_var 0)))) (b_or (b_cmp (op_neD hr.units) neM_ok (x_callB call_len lenM_ok G.n_len rfl (a_cons (x_var 0) a_nil)) x_int) (b_or1 (b_not (b_tru (x_call o_is_number (hr.mono (by omega)) tk (a_cons (x_ix (x_var 0) x_int) (a_cons x_int (a_cons x_int a_nil)))))))))) (ss_one (s_ret x_bl)) ss_nil)
  (ss_cons (s_put (x_var 0) (g_tup rfl (g_cons (g_name sc_is_graph.nd rfl (by first | exact Or.inl rfl | exact Or.inr rfl)) (g_cons (g_name sc_is_graph.nd rfl (by first | exact Or.inl rfl | exact Or.inr rfl)) (g_cons (g_name sc_is_graph.nd rfl (by first | exact Or.inl rfl | exact Or.inr rfl)) g_nil)))))
  (ss_cons (s_if (PW.pt (b_or (b_not (b_tru (x_isi (by decide) G.n_isinstance G.n_tuple rfl (x_var 2)))) (b_or1 (b_not (b_chain (op_leX hr.units0) leX_ok leX_quiet (op_leX hr.units0) leX_ok x_int (x_callB call_len lenM_ok G.n_len rfl (a_cons (x_var 2) a_nil)) (x_gint G.g_MOST_NODES)))))) (ss_one (s_ret x_bl)) ss_nil)
  (ss_cons (s_if (b_not (b_tru (x_callB (cr_all rfl) allM_ok G.n_all rfl (a_cons (x_lc (own := [("one", 4)]) lcFin_ok rfl rfl sc_is_graph.nd (i_seq (x_var 2)) (blkOk_by (by kernel_rfl)) (fun _ _ _ _ _ => (g_name sc_is_graph.nd rfl (by first | exact Or.inl rfl | exact Or.inr rfl))) (fun _ _ _ _ _ => ts_nil) (fun _ _ _ _ _ => (x_call o_is_scope (hr.mono (by omega)) takes0 (a_cons (x_var 4) a_nil)))) a_nil)))) (ss_one (s_ret x_bl)) ss_nil)
  (ss_cons (s_if (PW.pt (b_or (b_not (b_tru (x_isi (by decide) G.n_isinstance G.n_tuple rfl (x_var 3)))) (b_or1 (b_not (b_tru (x_callB (cr_all rfl) allM_ok G.n_all rfl (a_cons (x_lc (own := [("edge", 5)]) lcFin_ok rfl rfl sc_is_graph.nd (i_seq (x_var 3)) (blkOk_by (by kernel_rfl)) (fun _ _ _ _ _ => (g_name sc_is_graph.nd rfl (by first | exact Or.inl rfl | exact Or.inr rfl))) (fun _ _ _ _ _ => ts_nil) (fun _ _ _ _ _ => (x_call o_is_edge (hr.mono (by omega)) takes0 (a_cons (x_var 5) (a_cons (x_callB call_len lenM_ok G.n_len rfl (a_cons (x_var 2) a_nil)) a_nil))))) a_nil))))))) (ss_one (s_ret x_bl)) ss_nil)
  (ss_one (s_ret (x_callB (cr_all rfl) allM_ok G.n_all rfl (a_cons (x_lc (own := [("at", 6)]) lcFin_ok rfl rfl sc_is_graph.nd (i_rg1 G.n_range (x_op op_sub subM_ok (x_callB call_len lenM_ok G.n_len rfl (a_cons (x_var 3) a_nil)) x_int)) (blkOk_by (by kernel_rfl)) (fun _ _ _ _ _ => (g_name sc_is_graph.nd rfl (by first | exact Or.inl rfl | exact Or.inr rfl))) (fun _ _ _ _ _ => ts_nil) (fun _ _ _ _ _ => (x_cmp (op_ltAll hr.units0) ltM_ok (x_ix (x_var 3) (x_var 6)) (x_ix (x_var 3) (x_op op_addAll addM_ok (x_var 6) x_int))))) a_nil)))))))))
theorem sc_check_graph : FnScope ["graph"] ["graph"] (defScope (top 26)) := ⟨rfl, rfl, rfl, by decide +kernel, rfl, by decide +kernel, by decide +kernel⟩
def m_check_graph : SX := (sIf (bNot (bTru (eCall 1 F_is_graph (aCons (eVar 0) aNil)))) sNever sSkip)
def F_check_graph : FF := mkFn true 1 1 m_check_graph
theorem ok_check_graph (G : Globs K mg) (F : FnP K "check_graph" (top 26) f fd) (hm : mg "check_graph" = some (.ref f)) (o_is_graph : OkD P w K mg base 4 "is_graph" F_is_graph ["value"]) : OkD P w K mg base 5 "check_graph" F_check_graph ["graph"] := by
  refine OkD.mk F hm (FunD.bindsN F fun _ _ _ _ _ _ us hl => match us, hl with | [_], _ => rfl) sc_check_graph rfl rfl fun cd A outer s H E hr => ?_
  have tk := takes_cx (P := P) (w := w) (K := K) (mg := mg) (base := base) (N := ["graph"]) (qual := "check_graph") (scope := defScope (top 26)) (f := f) (cd := cd) (A := A) (outer := outer) (s := s) (H := H) (E := E)
  have ow := owns_cx (P := P) (w := w) (K := K) (mg := mg) (base := base) (N := ["graph"]) (qual := "check_graph") (scope := defScope (top 26)) (f := f) (cd := cd) (A := A) (outer := outer) (s := s) (H := H) (E := E)
  exact (ss_one (s_if (b_not (b_tru (x_call o_is_graph (hr.mono (by omega)) tk (a_cons (x_var 0) a_nil)))) (ss_one s_never) ss_nil))
theorem sc_shown : FnScope ["token"] ["token"] (defScope (top 29)) := ⟨rfl, rfl, rfl, by decide +kernel, rfl, by decide +kernel, by decide +kernel⟩
def m_shown : SX := (sSeq (sIf (bVal (eOp2 (eqM false) (eOp2 idxM (eVar 0) (eC (.int 0))) (eC (.str "sign")))) (sRet (eOp2 addM (eOp2 addM (eC (.str "\"")) (eOp2 idxM (eVar 0) (eC (.int 1)))) (eC (.str "\"")))) sSkip)
  (sRet (eDGet (eDisp [((eC (.str "number")), (eC (.str "a number"))), ((eC (.str "end")), (eC (.str "the end")))]) (eOp2 idxM (eVar 0) (eC (.int 0))))))
def F_shown : FF := mkFn true 1 1 m_shown
theorem ok_shown (G : Globs K mg) (F : FnP K "shown" (top 29) f fd) (hm : mg "shown" = some (.ref f))  : OkD P w K mg base 1 "shown" F_shown ["token"] := by
  refine OkD.mk F hm (FunD.bindsN F fun _ _ _ _ _ _ us hl => match us, hl with | [_], _ => rfl) sc_shown rfl rfl fun cd A outer s H E hr => ?_
  have tk := takes_cx (P := P) (w := w) (K := K) (mg := mg) (base := base) (N := ["token"]) (qual := "shown") (scope := defScope (top 29)) (f := f) (cd := cd) (A := A) (outer := outer) (s := s) (H := H) (E := E)
  have ow := owns_cx (P := P) (w := w) (K := K) (mg := mg) (base := base) (N := ["token"]) (qual := "shown") (scope := defScope (top 29)) (f := f) (cd := cd) (A := A) (outer := outer) (s := s) (H := H) (E := E)
  exact (ss_cons (s_if (b_cmp (op_eqD hr.units) eqM_ok (x_ix (x_var 0) x_int) x_str) (ss_one (s_ret (x_op op_addAll addM_ok (x_op op_addAll addM_ok x_str (x_ix (x_var 0) x_int)) x_str))) ss_nil)
  (ss_one (s_ret (x_dget (u1 hr) (x_disp (ps := [((eC (.str "number")), (eC (.str "a number"))), ((eC (.str "end")), (eC (.str "the end")))]) (pps_cons x_str x_str (pps_cons x_str x_str pps_nil))) (x_ix (x_var 0) x_int)))))
def C1_in_order : EX W := eLc lcFin (iStrW (eC (.str ":,;-="))) (.n 2) bYes (eOp2 addM (eOp2 addM (eC (.str "\"")) (eVar 2)) (eC (.str "\""))) [2]
def C2_in_order : EX W := eLc lcFin (iSeq (eVar 1)) (.n 3) (bVal (eOp2 inX (eVar 3) (eVar 0))) (eVar 3) [3]
theorem sc_in_order : FnScope ["options", "order", "sign", "option"] ["options"] (defScope (top 30)) := ⟨rfl, rfl, rfl, by decide +kernel, rfl, by decide +kernel, by decide +kernel⟩
def m_in_order : SX := (sSeq (sSet 1 (eOp2 addM (eOp2 addM (eLst (aCons (eC (.str "a number")) aNil)) C1_in_order) (eLst (aCons (eC (.str "the end")) aNil))))
  (sRet C2_in_order))
def F_in_order : FF := mkFn true 1 4 m_in_order
theorem ok_in_order (G : Globs K mg) (F : FnP K "in_order" (top 30) f fd) (hm : mg "in_order" = some (.ref f))  : OkD P w K mg base 1 "in_order" F_in_order ["options"] := by
  refine OkD.mk F hm (FunD.bindsN F fun _ _ _ _ _ _ us hl => match us, hl with | [_], _ => rfl) sc_in_order rfl rfl fun cd A outer s H E hr => ?_
  have tk := takes_cx (P := P) (w := w) (K := K) (mg := mg) (base := base) (N := ["options", "order", "sign", "option"]) (qual := "in_order") (scope := defScope (top 30)) (f := f) (cd := cd) (A := A) (outer := outer) (s := s) (H := H) (E := E)
  have ow := owns_cx (P := P) (w := w) (K := K) (mg := mg) (base := base) (N := ["options", "order", "sign", "option"]) (qual := "in_order") (scope := defScope (top 30)) (f := f) (cd := cd) (A := A) (outer := outer) (s := s) (H := H) (E := E)
  exact (ss_cons (s_set sc_in_order.nd rfl (by first | exact Or.inl rfl | exact Or.inr rfl) (x_op op_addAll addM_ok (x_op op_addAll addM_ok (x_lst (a_cons x_str a_nil)) (x_lc (own := [("sign", 2)]) lcFin_ok rfl rfl sc_in_order.nd (i_str (x_gstr G.g_SIGNS)) (blkOk_by (by kernel_rfl)) (fun _ _ _ _ _ => (g_name sc_in_order.nd rfl (by first | exact Or.inl rfl | exact Or.inr rfl))) (fun _ _ _ _ _ => ts_nil) (fun _ _ _ _ _ => (x_op op_addAll addM_ok (x_op op_addAll addM_ok x_str (x_var 2)) x_str)))) (x_lst (a_cons x_str a_nil))))
  (ss_one (s_ret (x_lc (own := [("option", 3)]) lcFin_ok rfl rfl sc_in_order.nd (i_seq (x_var 1)) (blkOk_by (by kernel_rfl)) (fun _ _ _ _ _ => (g_name sc_in_order.nd rfl (by first | exact Or.inl rfl | exact Or.inr rfl))) (fun _ _ _ _ _ => (ts_one (b_cmp (op_inX (u65 hr)) inX_ok (x_var 3) (x_var 0)))) (fun _ _ _ _ _ => (x_var 3))))))
theorem sc_joined : FnScope ["options"] ["options"] (defScope (top 31)) := ⟨rfl, rfl, rfl, by decide +kernel, rfl, by decide +kernel, by decide +kernel⟩
def m_joined : SX := (sSeq (sIf (bVal (eOp2 (eqM false) (eCB lenM (aCons (eVar 0) aNil)) (eC (.int 1)))) (sRet (eOp2 idxM (eVar 0) (eC (.int 0)))) sSkip)
  (sRet (eOp2 addM (eOp2 addM (eJoin (eC (.str ", ")) (eCut (eVar 0) oNone (oSome (eOp1 negM (eC (.int 1)))))) (eC (.str " or "))) (eOp2 idxM (eVar 0) (eOp1 negM (eC (.int 1)))))))
def F_joined : FF := mkFn true 1 1 m_joined
theorem ok_joined (G : Globs K mg) (F : FnP K "joined" (top 31) f fd) (hm : mg "joined" = some (.ref f))  : OkD P w K mg base 1 "joined" F_joined ["options"] := by
  refine OkD.mk F hm (FunD.bindsN F fun _ _ _ _ _ _ us hl => match us, hl with | [_], _ => rfl) sc_joined rfl rfl fun cd A outer s H E hr => ?_
  have tk := takes_cx (P := P) (w := w) (K := K) (mg := mg) (base := base) (N := ["options"]) (qual := "joined") (scope := defScope (top 31)) (f := f) (cd := cd) (A := A) (outer := outer) (s := s) (H := H) (E := E)
  have ow := owns_cx (P := P) (w := w) (K := K) (mg := mg) (base := base) (N := ["options"]) (qual := "joined") (scope := defScope (top 31)) (f := f) (cd := cd) (A := A) (outer := outer) (s := s) (H := H) (E := E)
  exact (ss_cons (s_if (b_cmp (op_eqD hr.units) eqM_ok (x_callB call_len lenM_ok G.n_len rfl (a_cons (x_var 0) a_nil)) x_int) (ss_one (s_ret (x_ix (x_var 0) x_int))) ss_nil)
  (ss_one (s_ret (x_op op_addAll addM_ok (x_op op_addAll addM_ok (x_join x_str (x_cut (x_var 0) o_none (o_some (x_neg x_int)))) x_str) (x_ix (x_var 0) (x_neg x_int))))))
theorem sc_Parser___init__ : FnScope ["self", "tokens", "stops"] ["self", "tokens", "stops"] (defScope (mst 33 0)) := ⟨rfl, rfl, rfl, by decide +kernel, rfl, by decide +kernel, by decide +kernel⟩
def m_Parser___init__ : SX := (sSeq (sSetF "Parser" "tokens" (eVar 0) (eVar 1))
  (sSeq (sSetF "Parser" "stops" (eVar 0) (eVar 2))
  (sSetF "Parser" "at" (eVar 0) (eC (.int 0)))))
def F_Parser___init__ : FF := mkFn true 3 3 m_Parser___init__
theorem ok_Parser___init__ (G : Globs K mg) (F : FunD K "__init__" "Parser.__init__" (defArgs (mst 33 0)) (defBody (mst 33 0)) (defScope (mst 33 0)) [] [] f fd) (M : Mk K (He.ga K "Parser") f)  : OkI P w K mg base 1 "Parser" F_Parser___init__ ["self", "tokens", "stops"] := by
  refine OkI.mk F M G.k_Parser (FunD.bindsN F fun _ _ _ _ _ _ us hl => match us, hl with | [_, _, _], _ => rfl) sc_Parser___init__ rfl rfl fun cd A outer s H E hr => ?_
  have tk := takes_cx (P := P) (w := w) (K := K) (mg := mg) (base := base) (N := ["self", "tokens", "stops"]) (qual := "Parser.__init__") (scope := defScope (mst 33 0)) (f := f) (cd := cd) (A := A) (outer := outer) (s := s) (H := H) (E := E)
  have ow := owns_cx (P := P) (w := w) (K := K) (mg := mg) (base := base) (N := ["self", "tokens", "stops"]) (qual := "Parser.__init__") (scope := defScope (mst 33 0)) (f := f) (cd := cd) (A := A) (outer := outer) (s := s) (H := H) (E := E)
  exact (ss_cons (s_setF G.c_Parser G.na_Parser_tokens (x_var 0) (x_var 1))
  (ss_cons (s_setF G.c_Parser G.na_Parser_stops (x_var 0) (x_var 2))
  (ss_one (s_setF G.c_Parser G.na_Parser_at (x_var 0) x_int))))
theorem sc_Parser_look : FnScope ["self", "options", "token"] ["self", "options"] (defScope (mst 33 1)) := ⟨rfl, rfl, rfl, by decide +kernel, rfl, by decide +kernel, by decide +kernel⟩
def m_Parser_look : SX := (sSeq (sSet 2 (eOp2 idxM (eFld "Parser" "tokens" (eVar 0)) (eFld "Parser" "at" (eVar 0))))
  (sSeq (sIf (bAnd (bVal (eOp2 (eqM false) (eOp2 idxM (eVar 2) (eC (.int 0))) (eC (.str "end")))) (bTru (eFld "Parser" "stops" (eVar 0)))) (sRaise "Ahead" ["options"] (aCons (eCall 1 F_in_order (aCons (eVar 1) aNil)) aNil)) sSkip)
  (sSeq (sIf (bVal (eOp2 (inM true) (eCall 1 F_shown (aCons (eVar 2) aNil)) (eVar 1))) (sRaise "TextError" ["column", "words"] (aCons (eOp2 idxM (eVar 2) (eC (.int 2))) (aCons (eOp2 addM (eC (.str "expected ")) (eCall 1 F_joined (aCons (eCall 1 F_in_order (aCons (eVar 1) aNil)) aNil))) aNil))) sSkip)
  (sRet (eVar 2)))))
def F_Parser_look : FF := mkFn true 2 3 m_Parser_look
theorem ok_Parser_look (G : Globs K mg) (F : FunD K "look" "Parser.look" (defArgs (mst 33 1)) (defBody (mst 33 1)) (defScope (mst 33 1)) [] [] f fd) (M : Meth K (He.ga K "Parser") "look" f) (o_in_order : OkD P w K mg base 1 "in_order" F_in_order ["options"]) (o_shown : OkD P w K mg base 1 "shown" F_shown ["token"]) (o_joined : OkD P w K mg base 1 "joined" F_joined ["options"]) (o_Ahead : OkX1 P w K mg base 1 "Ahead" "options") (o_TextError : OkX2 P w K mg base 1 "TextError" "column" "words") : OkM P w K mg base 3 "Parser" "look" F_Parser_look ["self", "options"] := by
  refine OkM.mk F G.c_Parser M (FunD.bindsN F fun _ _ _ _ _ _ us hl => match us, hl with | [_, _], _ => rfl) sc_Parser_look rfl rfl fun cd A outer s H E hr => ?_
  have tk := takes_cx (P := P) (w := w) (K := K) (mg := mg) (base := base) (N := ["self", "options", "token"]) (qual := "Parser.look") (scope := defScope (mst 33 1)) (f := f) (cd := cd) (A := A) (outer := outer) (s := s) (H := H) (E := E)
  have ow := owns_cx (P := P) (w := w) (K := K) (mg := mg) (base := base) (N := ["self", "options", "token"]) (qual := "Parser.look") (scope := defScope (mst 33 1)) (f := f) (cd := cd) (A := A) (outer := outer) (s := s) (H := H) (E := E)
  exact (ss_cons (s_set sc_Parser_look.nd rfl (by first | exact Or.inl rfl | exact Or.inr rfl) (x_ix (x_fld G.c_Parser G.na_Parser_tokens (x_var 0)) (x_fld G.c_Parser G.na_Parser_at (x_var 0))))
  (ss_cons (s_if (PW.pt (b_and (b_cmp (op_eqD hr.units) eqM_ok (x_ix (x_var 2) x_int) x_str) (b_and1 (b_tru (x_fld G.c_Parser G.na_Parser_stops (x_var 0)))))) (ss_one (s_raise1 o_Ahead (hr.mono (by omega)) tk (a_cons (x_call o_in_order (hr.mono (by omega)) tk (a_cons (x_var 1) a_nil)) a_nil))) ss_nil)
  (ss_cons (s_if (b_cmp (op_notInAll (u65 hr)) notInM_ok (x_call o_shown (hr.mono (by omega)) tk (a_cons (x_var 2) a_nil)) (x_var 1)) (ss_one (s_raise2 o_TextError (hr.mono (by omega)) tk (a_cons (x_ix (x_var 2) x_int) (a_cons (x_op op_addAll addM_ok x_str (x_call o_joined (hr.mono (by omega)) tk (a_cons (x_call o_in_order (hr.mono (by omega)) tk (a_cons (x_var 1) a_nil)) a_nil))) a_nil)))) ss_nil)
  (ss_one (s_ret (x_var 2))))))
theorem sc_Parser_take : FnScope ["self", "options", "token"] ["self", "options"] (defScope (mst 33 2)) := ⟨rfl, rfl, rfl, by decide +kernel, rfl, by decide +kernel, by decide +kernel⟩
def m_Parser_take : SX := (sSeq (sSet 2 (eMeth "Parser" "look" 2 F_Parser_look (eVar 0) (aCons (eVar 1) aNil)))
  (sSeq (sAugF "Parser" "at" (eVar 0) (eC (.int 1)))
  (sRet (eVar 2))))
def F_Parser_take : FF := mkFn true 2 3 m_Parser_take
theorem ok_Parser_take (G : Globs K mg) (F : FunD K "take" "Parser.take" (defArgs (mst 33 2)) (defBody (mst 33 2)) (defScope (mst 33 2)) [] [] f fd) (M : Meth K (He.ga K "Parser") "take" f) (o_Parser_look : OkM P w K mg base 3 "Parser" "look" F_Parser_look ["self", "options"]) : OkM P w K mg base 4 "Parser" "take" F_Parser_take ["self", "options"] := by
  refine OkM.mk F G.c_Parser M (FunD.bindsN F fun _ _ _ _ _ _ us hl => match us, hl with | [_, _], _ => rfl) sc_Parser_take rfl rfl fun cd A outer s H E hr => ?_
  have tk := takes_cx (P := P) (w := w) (K := K) (mg := mg) (base := base) (N := ["self", "options", "token"]) (qual := "Parser.take") (scope := defScope (mst 33 2)) (f := f) (cd := cd) (A := A) (outer := outer) (s := s) (H := H) (E := E)
  have ow := owns_cx (P := P) (w := w) (K := K) (mg := mg) (base := base) (N := ["self", "options", "token"]) (qual := "Parser.take") (scope := defScope (mst 33 2)) (f := f) (cd := cd) (A := A) (outer := outer) (s := s) (H := H) (E := E)
  exact (ss_cons (s_set sc_Parser_take.nd rfl (by first | exact Or.inl rfl | exact Or.inr rfl) (x_meth o_Parser_look (hr.mono (by omega)) tk (x_var 0) (a_cons (x_var 1) a_nil)))
  (ss_cons (s_augF G.c_Parser G.na_Parser_at (x_var 0) x_int)
  (ss_one (s_ret (x_var 2)))))
def L1_Parser_numbers : SX := sTidy [] (sSeq (sExpr (eLM appendM (eVar 2) (aCons (eVar 3) aNil)))
  (sSet 3 (eMeth "Parser" "take" 2 F_Parser_take (eVar 0) (aCons (eOp2 addM (eTup (aCons (eC (.str "a number")) aNil)) (eVar 1)) aNil))))
theorem sc_Parser_numbers : FnScope ["self", "closing", "found", "token"] ["self", "closing"] (defScope (mst 33 3)) := ⟨rfl, rfl, rfl, by decide +kernel, rfl, by decide +kernel, by decide +kernel⟩
def m_Parser_numbers : SX := (sSeq (sSet 2 (eLstL aNil))
  (sSeq (sSet 3 (eMeth "Parser" "take" 2 F_Parser_take (eVar 0) (aCons (eOp2 addM (eTup (aCons (eC (.str "a number")) aNil)) (eVar 1)) aNil)))
  (sSeq (sWhile 100 (bVal (eOp2 (eqM false) (eOp2 idxM (eVar 3) (eC (.int 0))) (eC (.str "number")))) L1_Parser_numbers)
  (sRet (eTup (aCons (eVar 2) (aCons (eVar 3) aNil)))))))
def F_Parser_numbers : FF := mkFn true 2 4 m_Parser_numbers
theorem ok_Parser_numbers (G : Globs K mg) (F : FunD K "numbers" "Parser.numbers" (defArgs (mst 33 3)) (defBody (mst 33 3)) (defScope (mst 33 3)) [] [] f fd) (M : Meth K (He.ga K "Parser") "numbers" f) (o_Parser_take : OkM P w K mg base 4 "Parser" "take" F_Parser_take ["self", "options"]) : OkM P w K mg base 5 "Parser" "numbers" F_Parser_numbers ["self", "closing"] := by
  refine OkM.mk F G.c_Parser M (FunD.bindsN F fun _ _ _ _ _ _ us hl => match us, hl with | [_, _], _ => rfl) sc_Parser_numbers rfl rfl fun cd A outer s H E hr => ?_
  have tk := takes_cx (P := P) (w := w) (K := K) (mg := mg) (base := base) (N := ["self", "closing", "found", "token"]) (qual := "Parser.numbers") (scope := defScope (mst 33 3)) (f := f) (cd := cd) (A := A) (outer := outer) (s := s) (H := H) (E := E)
  have ow := owns_cx (P := P) (w := w) (K := K) (mg := mg) (base := base) (N := ["self", "closing", "found", "token"]) (qual := "Parser.numbers") (scope := defScope (mst 33 3)) (f := f) (cd := cd) (A := A) (outer := outer) (s := s) (H := H) (E := E)
  exact (ss_cons (s_set sc_Parser_numbers.nd rfl (by first | exact Or.inl rfl | exact Or.inr rfl) (x_lstL a_nil))
  (ss_cons (s_set sc_Parser_numbers.nd rfl (by first | exact Or.inl rfl | exact Or.inr rfl) (x_meth o_Parser_take (hr.mono (by omega)) tk (x_var 0) (a_cons (x_op op_addAll addM_ok (x_tup (a_cons x_str a_nil)) (x_var 1)) a_nil)))
  (ss_cons (s_while ow (b_cmp (op_eqD hr.units) eqM_ok (x_ix (x_var 3) x_int) x_str) (ss_tidy [] (ss_cons (s_expr (x_lm PySem.F.slot_list_append PySem.F.type_list_append mt_append appendM_ok (x_var 2) (a_cons (x_var 3) a_nil)))
  (ss_one (s_set sc_Parser_numbers.nd rfl (by first | exact Or.inl rfl | exact Or.inr rfl) (x_meth o_Parser_take (hr.mono (by omega)) tk (x_var 0) (a_cons (x_op op_addAll addM_ok (x_tup (a_cons x_str a_nil)) (x_var 1)) a_nil)))))))
  (ss_one (s_ret (x_tup (a_cons (x_var 2) (a_cons (x_var 3) a_nil))))))))
def L1_Parser_edges : SX := sTidy [] (sSeq (sExpr (eMeth "Parser" "take" 2 F_Parser_take (eVar 0) (aCons (eTup (aCons (eC (.str "\"-\"")) aNil)) aNil)))
  (sSeq (sExpr (eLM appendM (eVar 1) (aCons (eTup (aCons (eVar 2) (aCons (eMeth "Parser" "take" 2 F_Parser_take (eVar 0) (aCons (eTup (aCons (eC (.str "a number")) aNil)) aNil)) aNil))) aNil)))
  (sSeq (sSet 2 (eMeth "Parser" "take" 2 F_Parser_take (eVar 0) (aCons (eTup (aCons (eC (.str "\",\"")) (aCons (eC (.str "the end")) aNil))) aNil)))
  (sIf (bVal (eOp2 (eqM false) (eOp2 idxM (eVar 2) (eC (.int 1))) (eC (.str ",")))) (sSet 2 (eMeth "Parser" "take" 2 F_Parser_take (eVar 0) (aCons (eTup (aCons (eC (.str "a number")) aNil)) aNil))) sSkip))))
theorem sc_Parser_edges : FnScope ["self", "found", "token"] ["self"] (defScope (mst 33 4)) := ⟨rfl, rfl, rfl, by decide +kernel, rfl, by decide +kernel, by decide +kernel⟩
def m_Parser_edges : SX := (sSeq (sSet 1 (eLstL aNil))
  (sSeq (sSet 2 (eMeth "Parser" "take" 2 F_Parser_take (eVar 0) (aCons (eTup (aCons (eC (.str "a number")) (aCons (eC (.str "the end")) aNil))) aNil)))
  (sSeq (sWhile 100 (bVal (eOp2 (eqM false) (eOp2 idxM (eVar 2) (eC (.int 0))) (eC (.str "number")))) L1_Parser_edges)
  (sRet (eVar 1)))))
def F_Parser_edges : FF := mkFn true 1 3 m_Parser_edges
theorem ok_Parser_edges (G : Globs K mg) (F : FunD K "edges" "Parser.edges" (defArgs (mst 33 4)) (defBody (mst 33 4)) (defScope (mst 33 4)) [] [] f fd) (M : Meth K (He.ga K "Parser") "edges" f) (o_Parser_take : OkM P w K mg base 4 "Parser" "take" F_Parser_take ["self", "options"]) : OkM P w K mg base 5 "Parser" "edges" F_Parser_edges ["self"] := by
  refine OkM.mk F G.c_Parser M (FunD.bindsN F fun _ _ _ _ _ _ us hl => match us, hl with | [_], _ => rfl) sc_Parser_edges rfl rfl fun cd A outer s H E hr => ?_
  have tk := takes_cx (P := P) (w := w) (K := K) (mg := mg) (base := base) (N := ["self", "found", "token"]) (qual := "Parser.edges") (scope := defScope (mst 33 4)) (f := f) (cd := cd) (A := A) (outer := outer) (s := s) (H := H) (E := E)
  have ow := owns_cx (P := P) (w := w) (K := K) (mg := mg) (base := base) (N := ["self", "found", "token"]) (qual := "Parser.edges") (scope := defScope (mst 33 4)) (f := f) (cd := cd) (A := A) (outer := outer) (s := s) (H := H) (E := E)
  exact (ss_cons (s_set sc_Parser_edges.nd rfl (by first | exact Or.inl rfl | exact Or.inr rfl) (x_lstL a_nil))
  (ss_cons (s_set sc_Parser_edges.nd rfl (by first | exact Or.inl rfl | exact Or.inr rfl) (x_meth o_Parser_take (hr.mono (by omega)) tk (x_var 0) (a_cons (x_tup (a_cons x_str (a_cons x_str a_nil))) a_nil)))
  (ss_cons (s_while ow (b_cmp (op_eqD hr.units) eqM_ok (x_ix (x_var 2) x_int) x_str) (ss_tidy [] (ss_cons (s_expr (x_meth o_Parser_take (hr.mono (by omega)) tk (x_var 0) (a_cons (x_tup (a_cons x_str a_nil)) a_nil)))
  (ss_cons (s_expr (x_lm PySem.F.slot_list_append PySem.F.type_list_append mt_append appendM_ok (x_var 1) (a_cons (x_tup (a_cons (x_var 2) (a_cons (x_meth o_Parser_take (hr.mono (by omega)) tk (x_var 0) (a_cons (x_tup (a_cons x_str a_nil)) a_nil)) a_nil))) a_nil)))
  (ss_cons (s_set sc_Parser_edges.nd rfl (by first | exact Or.inl rfl | exact Or.inr rfl) (x_meth o_Parser_take (hr.mono (by omega)) tk (x_var 0) (a_cons (x_tup (a_cons x_str (a_cons x_str a_nil))) a_nil)))
  (ss_one (s_if (b_cmp (op_eqD hr.units) eqM_ok (x_ix (x_var 2) x_int) x_str) (ss_one (s_set sc_Parser_edges.nd rfl (by first | exact Or.inl rfl | exact Or.inr rfl) (x_meth o_Parser_take (hr.mono (by omega)) tk (x_var 0) (a_cons (x_tup (a_cons x_str a_nil)) a_nil)))) ss_nil)))))))
  (ss_one (s_ret (x_var 1))))))
def L1_Parser_graph : SX := sTidy [] (sExpr (eLM appendM (eVar 2) (aCons (eMeth "Parser" "numbers" 2 F_Parser_numbers (eVar 0) (aCons (eTup (aCons (eC (.str "\",\"")) (aCons (eC (.str "\";\"")) aNil))) aNil)) aNil)))
theorem sc_Parser_graph : FnScope ["self", "values", "scopes"] ["self"] (defScope (mst 33 5)) := ⟨rfl, rfl, rfl, by decide +kernel, rfl, by decide +kernel, by decide +kernel⟩
def m_Parser_graph : SX := (sSeq (sSet 1 (eMeth "Parser" "take" 2 F_Parser_take (eVar 0) (aCons (eTup (aCons (eC (.str "a number")) aNil)) aNil)))
  (sSeq (sExpr (eMeth "Parser" "take" 2 F_Parser_take (eVar 0) (aCons (eTup (aCons (eC (.str "\":\"")) aNil)) aNil)))
  (sSeq (sSet 2 (eLstL (aCons (eMeth "Parser" "numbers" 2 F_Parser_numbers (eVar 0) (aCons (eTup (aCons (eC (.str "\",\"")) (aCons (eC (.str "\";\"")) aNil))) aNil)) aNil)))
  (sSeq (sWhile 100 (bVal (eOp2 (eqM false) (eOp2 idxM (eOp2 idxM (eOp2 idxM (eVar 2) (eOp1 negM (eC (.int 1)))) (eC (.int 1))) (eC (.int 1))) (eC (.str ",")))) L1_Parser_graph)
  (sRet (eTup (aCons (eVar 1) (aCons (eVar 2) (aCons (eMeth "Parser" "edges" 1 F_Parser_edges (eVar 0) aNil) aNil)))))))))
def F_Parser_graph : FF := mkFn true 1 3 m_Parser_graph
theorem ok_Parser_graph (G : Globs K mg) (F : FunD K "graph" "Parser.graph" (defArgs (mst 33 5)) (defBody (mst 33 5)) (defScope (mst 33 5)) [] [] f fd) (M : Meth K (He.ga K "Parser") "graph" f) (o_Parser_take : OkM P w K mg base 4 "Parser" "take" F_Parser_take ["self", "options"]) (o_Parser_numbers : OkM P w K mg base 5 "Parser" "numbers" F_Parser_numbers ["self", "closing"]) (o_Parser_edges : OkM P w K mg base 5 "Parser" "edges" F_Parser_edges ["self"]) : OkM P w K mg base 6 "Parser" "graph" F_Parser_graph ["self"] := by
  refine OkM.mk F G.c_Parser M (FunD.bindsN F fun _ _ _ _ _ _ us hl => match us, hl with | [_], _ => rfl) sc_Parser_graph rfl rfl fun cd A outer s H E hr => ?_
  have tk := takes_cx (P := P) (w := w) (K := K) (mg := mg) (base := base) (N := ["self", "values", "scopes"]) (qual := "Parser.graph") (scope := defScope (mst 33 5)) (f := f) (cd := cd) (A := A) (outer := outer) (s := s) (H := H) (E := E)
  have ow := owns_cx (P := P) (w := w) (K := K) (mg := mg) (base := base) (N := ["self", "values", "scopes"]) (qual := "Parser.graph") (scope := defScope (mst 33 5)) (f := f) (cd := cd) (A := A) (outer := outer) (s := s) (H := H) (E := E)
  exact (ss_cons (s_set sc_Parser_graph.nd rfl (by first | exact Or.inl rfl | exact Or.inr rfl) (x_meth o_Parser_take (hr.mono (by omega)) tk (x_var 0) (a_cons (x_tup (a_cons x_str a_nil)) a_nil)))
  (ss_cons (s_expr (x_meth o_Parser_take (hr.mono (by omega)) tk (x_var 0) (a_cons (x_tup (a_cons x_str a_nil)) a_nil)))
  (ss_cons (s_set sc_Parser_graph.nd rfl (by first | exact Or.inl rfl | exact Or.inr rfl) (x_lstL (a_cons (x_meth o_Parser_numbers (hr.mono (by omega)) tk (x_var 0) (a_cons (x_tup (a_cons x_str (a_cons x_str a_nil))) a_nil)) a_nil)))
  (ss_cons (s_while ow (b_cmp (op_eqD hr.units) eqM_ok (x_ix (x_ix (x_ix (x_var 2) (x_neg x_int)) x_int) x_int) x_str) (ss_tidy [] (ss_one (s_expr (x_lm PySem.F.slot_list_append PySem.F.type_list_append mt_append appendM_ok (x_var 2) (a_cons (x_meth o_Parser_numbers (hr.mono (by omega)) tk (x_var 0) (a_cons (x_tup (a_cons x_str (a_cons x_str a_nil))) a_nil)) a_nil))))))
  (ss_one (s_ret (x_tup (a_cons (x_var 1) (a_cons (x_var 2) (a_cons (x_meth0 o_Parser_edges (hr.mono (by omega)) tk (x_var 0)) a_nil))))))))))
theorem sc_Parser_row : FnScope ["self", "values", "sign"] ["self"] (defScope (mst 33 6)) := ⟨rfl, rfl, rfl, by decide +kernel, rfl, by decide +kernel, by decide +kernel⟩
def m_Parser_row : SX := (sSeq (sPut (.t [(.n 1), (.n 2)]) (eMeth "Parser" "numbers" 2 F_Parser_numbers (eVar 0) (aCons (eTup (aCons (eC (.str "\"=\"")) aNil)) aNil)))
  (sRet (eTup (aCons (eVar 1) (aCons (eVar 2) (aCons (eMeth "Parser" "take" 2 F_Parser_take (eVar 0) (aCons (eTup (aCons (eC (.str "a number")) aNil)) aNil)) aNil))))))
def F_Parser_row : FF := mkFn true 1 3 m_Parser_row
theorem ok_Parser_row (G : Globs K mg) (F : FunD K "row" "Parser.row" (defArgs (mst 33 6)) (defBody (mst 33 6)) (defScope (mst 33 6)) [] [] f fd) (M : Meth K (He.ga K "Parser") "row" f) (o_Parser_numbers : OkM P w K mg base 5 "Parser" "numbers" F_Parser_numbers ["self", "closing"]) (o_Parser_take : OkM P w K mg base 4 "Parser" "take" F_Parser_take ["self", "options"]) : OkM P w K mg base 6 "Parser" "row" F_Parser_row ["self"] := by
  refine OkM.mk F G.c_Parser M (FunD.bindsN F fun _ _ _ _ _ _ us hl => match us, hl with | [_], _ => rfl) sc_Parser_row rfl rfl fun cd A outer s H E hr => ?_
  have tk := takes_cx (P := P) (w := w) (K := K) (mg := mg) (base := base) (N := ["self", "values", "sign"]) (qual := "Parser.row") (scope := defScope (mst 33 6)) (f := f) (cd := cd) (A := A) (outer := outer) (s := s) (H := H) (E := E)
  have ow := owns_cx (P := P) (w := w) (K := K) (mg := mg) (base := base) (N := ["self", "values", "sign"]) (qual := "Parser.row") (scope := defScope (mst 33 6)) (f := f) (cd := cd) (A := A) (outer := outer) (s := s) (H := H) (E := E)
  exact (ss_cons (s_put (x_meth o_Parser_numbers (hr.mono (by omega)) tk (x_var 0) (a_cons (x_tup (a_cons x_str a_nil)) a_nil)) (g_tup rfl (g_cons (g_name sc_Parser_row.nd rfl (by first | exact Or.inl rfl | exact Or.inr rfl)) (g_cons (g_name sc_Parser_row.nd rfl (by first | exact Or.inl rfl | exact Or.inr rfl)) g_nil))))
  (ss_one (s_ret (x_tup (a_cons (x_var 1) (a_cons (x_var 2) (a_cons (x_meth o_Parser_take (hr.mono (by omega)) tk (x_var 0) (a_cons (x_tup (a_cons x_str a_nil)) a_nil)) a_nil)))))))
def L1_Parser_table : SX := sTidy [] (sSeq (sExpr (eLM appendM (eVar 1) (aCons (eMeth "Parser" "row" 1 F_Parser_row (eVar 0) aNil) aNil)))
  (sSet 2 (eMeth "Parser" "take" 2 F_Parser_take (eVar 0) (aCons (eTup (aCons (eC (.str "\",\"")) (aCons (eC (.str "\";\"")) (aCons (eC (.str "the end")) aNil)))) aNil))))
theorem sc_Parser_table : FnScope ["self", "rows", "token"] ["self"] (defScope (mst 33 7)) := ⟨rfl, rfl, rfl, by decide +kernel, rfl, by decide +kernel, by decide +kernel⟩
def m_Parser_table : SX := (sSeq (sIf (bVal (eOp2 inX (eOp2 idxM (eMeth "Parser" "look" 2 F_Parser_look (eVar 0) (aCons (eTup (aCons (eC (.str "a number")) (aCons (eC (.str "\";\"")) (aCons (eC (.str "\"=\"")) (aCons (eC (.str "the end")) aNil))))) aNil)) (eC (.int 1))) (eTup (aCons (eC (.str ";")) (aCons (eC (.str "")) aNil))))) (sRet (eTup (aCons (eLst aNil) (aCons (eMeth "Parser" "take" 2 F_Parser_take (eVar 0) (aCons (eTup (aCons (eC (.str "\";\"")) (aCons (eC (.str "the end")) aNil))) aNil)) aNil)))) sSkip)
  (sSeq (sSet 1 (eLstL (aCons (eMeth "Parser" "row" 1 F_Parser_row (eVar 0) aNil) aNil)))
  (sSeq (sSet 2 (eMeth "Parser" "take" 2 F_Parser_take (eVar 0) (aCons (eTup (aCons (eC (.str "\",\"")) (aCons (eC (.str "\";\"")) (aCons (eC (.str "the end")) aNil)))) aNil)))
  (sSeq (sWhile 100 (bVal (eOp2 (eqM false) (eOp2 idxM (eVar 2) (eC (.int 1))) (eC (.str ",")))) L1_Parser_table)
  (sRet (eTup (aCons (eVar 1) (aCons (eVar 2) aNil))))))))
def F_Parser_table : FF := mkFn true 1 3 m_Parser_table
theorem ok_Parser_table (G : Globs K mg) (F : FunD K "table" "Parser.table" (defArgs (mst 33 7)) (defBody (mst 33 7)) (defScope (mst 33 7)) [] [] f fd) (M : Meth K (He.ga K "Parser") "table" f) (o_Parser_look : OkM P w K mg base 3 "Parser" "look" F_Parser_look ["self", "options"]) (o_Parser_take : OkM P w K mg base 4 "Parser" "take" F_Parser_take ["self", "options"]) (o_Parser_row : OkM P w K mg base 6 "Parser" "row" F_Parser_row ["self"]) : OkM P w K mg base 7 "Parser" "table" F_Parser_table ["self"] := by
  refine OkM.mk F G.c_Parser M (FunD.bindsN F fun _ _ _ _ _ _ us hl => match us, hl with | [_], _ => rfl) sc_Parser_table rfl rfl fun cd A outer s H E hr => ?_
  have tk := takes_cx (P := P) (w := w) (K := K) (mg := mg) (base := base) (N := ["self", "rows", "token"]) (qual := "Parser.table") (scope := defScope (mst 33 7)) (f := f) (cd := cd) (A := A) (outer := outer) (s := s) (H := H) (E := E)
  have ow := owns_cx (P := P) (w := w) (K := K) (mg := mg) (base := base) (N := ["self", "rows", "token"]) (qual := "Parser.table") (scope := defScope (mst 33 7)) (f := f) (cd := cd) (A := A) (outer := outer) (s := s) (H := H) (E := E)
  exact (ss_cons (s_if (b_cmp (op_inX (u65 hr)) inX_ok (x_ix (x_meth o_Parser_look (hr.mono (by omega)) tk (x_var 0) (a_cons (x_tup (a_cons x_str (a_cons x_str (a_cons x_str (a_cons x_str a_nil))))) a_nil)) x_int) (x_tup (a_cons x_str (a_cons x_str a_nil)))) (ss_one (s_ret (x_tup (a_cons (x_lst a_nil) (a_cons (x_meth o_Parser_take (hr.mono (by omega)) tk (x_var 0) (a_cons (x_tup (a_cons x_str (a_cons x_str a_nil))) a_nil)) a_nil))))) ss_nil)
  (ss_cons (s_set sc_Parser_table.nd rfl (by first | exact Or.inl rfl | exact Or.inr rfl) (x_lstL (a_cons (x_meth0 o_Parser_row (hr.mono (by omega)) tk (x_var 0)) a_nil)))
  (ss_cons (s_set sc_Parser_table.nd rfl (by first | exact Or.inl rfl | exact Or.inr rfl) (x_meth o_Parser_take (hr.mono (by omega)) tk (x_var 0) (a_cons (x_tup (a_cons x_str (a_cons x_str (a_cons x_str a_nil)))) a_nil)))
  (ss_cons (s_while ow (b_cmp (op_eqD hr.units) eqM_ok (x_ix (x_var 2) x_int) x_str) (ss_tidy [] (ss_cons (s_expr (x_lm PySem.F.slot_list_append PySem.F.type_list_append mt_append appendM_ok (x_var 1) (a_cons (x_meth0 o_Parser_row (hr.mono (by omega)) tk (x_var 0)) a_nil)))
  (ss_one (s_set sc_Parser_table.nd rfl (by first | exact Or.inl rfl | exact Or.inr rfl) (x_meth o_Parser_take (hr.mono (by omega)) tk (x_var 0) (a_cons (x_tup (a_cons x_str (a_cons x_str (a_cons x_str a_nil)))) a_nil)))))))
  (ss_one (s_ret (x_tup (a_cons (x_var 1) (a_cons (x_var 2) a_nil)))))))))
def L1_Parser_tables : SX := sTidy [] (sExpr (eLM appendM (eVar 1) (aCons (eMeth "Parser" "table" 1 F_Parser_table (eVar 0) aNil) aNil)))
theorem sc_Parser_tables : FnScope ["self", "found"] ["self"] (defScope (mst 33 8)) := ⟨rfl, rfl, rfl, by decide +kernel, rfl, by decide +kernel, by decide +kernel⟩
def m_Parser_tables : SX := (sSeq (sSet 1 (eLstL (aCons (eMeth "Parser" "table" 1 F_Parser_table (eVar 0) aNil) aNil)))
  (sSeq (sWhile 100 (bVal (eOp2 (eqM false) (eOp2 idxM (eOp2 idxM (eOp2 idxM (eVar 1) (eOp1 negM (eC (.int 1)))) (eC (.int 1))) (eC (.int 1))) (eC (.str ";")))) L1_Parser_tables)
  (sRet (eVar 1))))
def F_Parser_tables : FF := mkFn true 1 2 m_Parser_tables
theorem ok_Parser_tables (G : Globs K mg) (F : FunD K "tables" "Parser.tables" (defArgs (mst 33 8)) (defBody (mst 33 8)) (defScope (mst 33 8)) [] [] f fd) (M : Meth K (He.ga K "Parser") "tables" f) (o_Parser_table : OkM P w K mg base 7 "Parser" "table" F_Parser_table ["self"]) : OkM P w K mg base 8 "Parser" "tables" F_Parser_tables ["self"] := by
  refine OkM.mk F G.c_Parser M (FunD.bindsN F fun _ _ _ _ _ _ us hl => match us, hl with | [_], _ => rfl) sc_Parser_tables rfl rfl fun cd A outer s H E hr => ?_
  have tk := takes_cx (P := P) (w := w) (K := K) (mg := mg) (base := base) (N := ["self", "found"]) (qual := "Parser.tables") (scope := defScope (mst 33 8)) (f := f) (cd := cd) (A := A) (outer := outer) (s := s) (H := H) (E := E)
  have ow := owns_cx (P := P) (w := w) (K := K) (mg := mg) (base := base) (N := ["self", "found"]) (qual := "Parser.tables") (scope := defScope (mst 33 8)) (f := f) (cd := cd) (A := A) (outer := outer) (s := s) (H := H) (E := E)
  exact (ss_cons (s_set sc_Parser_tables.nd rfl (by first | exact Or.inl rfl | exact Or.inr rfl) (x_lstL (a_cons (x_meth0 o_Parser_table (hr.mono (by omega)) tk (x_var 0)) a_nil)))
  (ss_cons (s_while ow (b_cmp (op_eqD hr.units) eqM_ok (x_ix (x_ix (x_ix (x_var 1) (x_neg x_int)) x_int) x_int) x_str) (ss_tidy [] (ss_one (s_expr (x_lm PySem.F.slot_list_append PySem.F.type_list_append mt_append appendM_ok (x_var 1) (a_cons (x_meth0 o_Parser_table (hr.mono (by omega)) tk (x_var 0)) a_nil))))))
  (ss_one (s_ret (x_var 1)))))
def L1_next_tokens : SX := (sIf (bVal (eOp2 (eqM false) (eVar 1) (eC (.str "graph")))) (sExpr (eMeth "Parser" "graph" 1 F_Parser_graph (eVar 2) aNil)) (sExpr (eMeth "Parser" "tables" 1 F_Parser_tables (eVar 2) aNil)))
theorem sc_next_tokens : FnScope ["text", "kind", "parser", "ahead"] ["text", "kind"] (defScope (top 34)) := ⟨rfl, rfl, rfl, by decide +kernel, rfl, by decide +kernel, by decide +kernel⟩
def m_next_tokens : SX := (sSeq (sExpr (eCall 1 F_check_text (aCons (eVar 0) aNil)))
  (sSeq (sIf (bOr (bNot (bTru (eOp1 (isiM "str") (eVar 1)))) (bVal (eOp2 (inM true) (eVar 1) (eC (.tuple (List.map PyData.str ["graph", "tables"])))))) sNever sSkip)
  (sSeq (sSet 2 (eMake "Parser" 3 F_Parser___init__ (aCons (eCall 1 F_scan (aCons (eVar 0) aNil)) (aCons (eC (.bool true)) aNil))))
  (sSeq (sTry 3 [("Ahead", true), ("TextError", false)] (.one (.f "options")) L1_next_tokens)
  (sRet (eLst aNil))))))
def F_next_tokens : FF := mkFn true 2 4 m_next_tokens
theorem ok_next_tokens (G : Globs K mg) (F : FnP K "next_tokens" (top 34) f fd) (hm : mg "next_tokens" = some (.ref f)) (o_check_text : OkD P w K mg base 3 "check_text" F_check_text ["text"]) (o_Parser___init__ : OkI P w K mg base 1 "Parser" F_Parser___init__ ["self", "tokens", "stops"]) (o_scan : OkD P w K mg base 4 "scan" F_scan ["text"]) (o_Parser_graph : OkM P w K mg base 6 "Parser" "graph" F_Parser_graph ["self"]) (o_Parser_tables : OkM P w K mg base 8 "Parser" "tables" F_Parser_tables ["self"]) : OkD P w K mg base 9 "next_tokens" F_next_tokens ["text", "kind"] := by
  refine OkD.mk F hm (FunD.bindsN F fun _ _ _ _ _ _ us hl => match us, hl with | [_, _], _ => rfl) sc_next_tokens rfl rfl fun cd A outer s H E hr => ?_
  have tk := takes_cx (P := P) (w := w) (K := K) (mg := mg) (base := base) (N := ["text", "kind", "parser", "ahead"]) (qual := "next_tokens") (scope := defScope (top 34)) (f := f) (cd := cd) (A := A) (outer := outer) (s := s) (H := H) (E := E)
  have ow := owns_cx (P := P) (w := w) (K := K) (mg := mg) (base := base) (N := ["text", "kind", "parser", "ahead"]) (qual := "next_tokens") (scope := defScope (top 34)) (f := f) (cd := cd) (A := A) (outer := outer) (s := s) (H := H) (E := E)
  exact (ss_cons (s_expr (x_call o_check_text (hr.mono (by omega)) tk (a_cons (x_var 0) a_nil)))
  (ss_cons (s_if (PW.pt (b_or (b_not (b_tru (x_isi (by decide) G.n_isinstance G.n_str rfl (x_var 1)))) (b_or1 (b_cmp (op_notInAll (u65 hr)) notInM_ok (x_var 1) (x_gtup G.t_KINDS))))) (ss_one s_never) ss_nil)
  (ss_cons (s_set sc_next_tokens.nd rfl (by first | exact Or.inl rfl | exact Or.inr rfl) (x_make o_Parser___init__ (hr.mono (by omega)) tk (a_cons (x_call o_scan (hr.mono (by omega)) tk (a_cons (x_var 0) a_nil)) (a_cons x_bl a_nil))))
  (ss_cons (s_try (i := 3) (tbl := [("Ahead", true), ("TextError", false)]) (r := (.one (.f "options"))) G.k_Ahead (List.forall_mem_cons.mpr ⟨G.ex_Ahead_Ahead, List.forall_mem_cons.mpr ⟨G.ex_TextError_Ahead, fun _ h => nomatch h⟩⟩) (List.forall_mem_cons.mpr ⟨fun _ => rfl, List.forall_mem_cons.mpr ⟨(fun h => Bool.noConfusion h), fun _ h => nomatch h⟩⟩) sc_next_tokens.nd rfl tk (fun _ _ _ tk ow => (ss_one (s_if (b_cmp (op_eqD hr.units) eqM_ok (x_var 1) x_str) (ss_one (s_expr (x_meth0 o_Parser_graph (hr.mono (by omega)) tk (x_var 2)))) (ss_one (s_expr (x_meth0 o_Parser_tables (hr.mono (by omega)) tk (x_var 2))))))) (fun _ _ _ _ _ hz hf => (su_one (by rfl) (xp_fld G.xf_Ahead G.na_Ahead_options hz hf (pv 3)))))
  (ss_one (s_ret (x_lst a_nil)))))))
theorem sc_number_of : FnScope ["token", "low", "high", "words"] ["token", "low", "high", "words"] (defScope (top 35)) := ⟨rfl, rfl, rfl, by decide +kernel, rfl, by decide +kernel, by decide +kernel⟩
def m_number_of : SX := (sSeq (sIf (bNot (bVal (eChain leX leX (eVar 1) (eCB intX (aCons (eOp2 idxM (eVar 0) (eC (.int 1))) aNil)) (eVar 2)))) (sRaise "TextError" ["column", "words"] (aCons (eOp2 idxM (eVar 0) (eC (.int 2))) (aCons (eVar 3) aNil))) sSkip)
  (sRet (eCB intX (aCons (eOp2 idxM (eVar 0) (eC (.int 1))) aNil))))
def F_number_of : FF := mkFn true 4 4 m_number_of
theorem ok_number_of (G : Globs K mg) (F : FnP K "number_of" (top 35) f fd) (hm : mg "number_of" = some (.ref f)) (o_TextError : OkX2 P w K mg base 1 "TextError" "column" "words") : OkD P w K mg base 3 "number_of" F_number_of ["token", "low", "high", "words"] := by
  refine OkD.mk F hm (FunD.bindsN F fun _ _ _ _ _ _ us hl => match us, hl with | [_, _, _, _], _ => rfl) sc_number_of rfl rfl fun cd A outer s H E hr => ?_
  have tk := takes_cx (P := P) (w := w) (K := K) (mg := mg) (base := base) (N := ["token", "low", "high", "words"]) (qual := "number_of") (scope := defScope (top 35)) (f := f) (cd := cd) (A := A) (outer := outer) (s := s) (H := H) (E := E)
  have ow := owns_cx (P := P) (w := w) (K := K) (mg := mg) (base := base) (N := ["token", "low", "high", "words"]) (qual := "number_of") (scope := defScope (top 35)) (f := f) (cd := cd) (A := A) (outer := outer) (s := s) (H := H) (E := E)
  exact (ss_cons (s_if (b_not (b_chain (op_leX hr.units0) leX_ok leX_quiet (op_leX hr.units0) leX_ok (x_var 1) (x_callTy call_intX intX_ok G.n_int rfl (a_cons (x_ix (x_var 0) x_int) a_nil)) (x_var 2))) (ss_one (s_raise2 o_TextError (hr.mono (by omega)) tk (a_cons (x_ix (x_var 0) x_int) (a_cons (x_var 3) a_nil)))) ss_nil)
  (ss_one (s_ret (x_callTy call_intX intX_ok G.n_int rfl (a_cons (x_ix (x_var 0) x_int) a_nil)))))
def L1_scope_from : SX := sTidy [2, 3] (sSeq (sIf (bVal (eOp2 (eqM false) (eCB lenM (aCons (eVar 1) aNil)) (eC (.int 3)))) (sRaise "TextError" ["column", "words"] (aCons (eOp2 idxM (eVar 2) (eC (.int 2))) (aCons (eC (.str "a scope has at most 3 variables")) aNil))) sSkip)
  (sSeq (sSet 3 (eCall 4 F_number_of (aCons (eVar 2) (aCons (eC (.int 0)) (aCons (eC (.int 5)) (aCons (eC (.str "a variable is from 0 to 5")) aNil))))))
  (sSeq (sIf (bAnd (bVal (eOp2 gtM (eCB lenM (aCons (eVar 1) aNil)) (eC (.int 0)))) (bVal (eOp2 leX (eVar 3) (eOp2 idxM (eVar 1) (eOp1 negM (eC (.int 1))))))) (sRaise "TextError" ["column", "words"] (aCons (eOp2 idxM (eVar 2) (eC (.int 2))) (aCons (eC (.str "variables ascend")) aNil))) sSkip)
  (sExpr (eLM appendM (eVar 1) (aCons (eVar 3) aNil))))))
theorem sc_scope_from : FnScope ["tokens", "found", "token", "variable"] ["tokens"] (defScope (top 36)) := ⟨rfl, rfl, rfl, by decide +kernel, rfl, by decide +kernel, by decide +kernel⟩
def m_scope_from : SX := (sSeq (sSet 1 (eLstL aNil))
  (sSeq (sFor (iSeq (eVar 0)) (.n 2) L1_scope_from)
  (sRet (eCB tupleM (aCons (eVar 1) aNil)))))
def F_scope_from : FF := mkFn true 1 4 m_scope_from
theorem ok_scope_from (G : Globs K mg) (F : FnP K "scope_from" (top 36) f fd) (hm : mg "scope_from" = some (.ref f)) (o_number_of : OkD P w K mg base 3 "number_of" F_number_of ["token", "low", "high", "words"]) (o_TextError : OkX2 P w K mg base 1 "TextError" "column" "words") : OkD P w K mg base 4 "scope_from" F_scope_from ["tokens"] := by
  refine OkD.mk F hm (FunD.bindsN F fun _ _ _ _ _ _ us hl => match us, hl with | [_], _ => rfl) sc_scope_from rfl rfl fun cd A outer s H E hr => ?_
  have tk := takes_cx (P := P) (w := w) (K := K) (mg := mg) (base := base) (N := ["tokens", "found", "token", "variable"]) (qual := "scope_from") (scope := defScope (top 36)) (f := f) (cd := cd) (A := A) (outer := outer) (s := s) (H := H) (E := E)
  have ow := owns_cx (P := P) (w := w) (K := K) (mg := mg) (base := base) (N := ["tokens", "found", "token", "variable"]) (qual := "scope_from") (scope := defScope (top 36)) (f := f) (cd := cd) (A := A) (outer := outer) (s := s) (H := H) (E := E)
  exact (ss_cons (s_set sc_scope_from.nd rfl (by first | exact Or.inl rfl | exact Or.inr rfl) (x_lstL a_nil))
  (ss_cons (s_for ow rfl (i_seq (x_var 0)) (g_name sc_scope_from.nd rfl (by first | exact Or.inl rfl | exact Or.inr rfl)) (ss_tidy [2, 3] (ss_cons (s_if (b_cmp (op_eqD hr.units) eqM_ok (x_callB call_len lenM_ok G.n_len rfl (a_cons (x_var 1) a_nil)) (x_gint G.g_WIDEST_SCOPE)) (ss_one (s_raise2 o_TextError (hr.mono (by omega)) tk (a_cons (x_ix (x_var 2) x_int) (a_cons x_str a_nil)))) ss_nil)
  (ss_cons (s_set sc_scope_from.nd rfl (by first | exact Or.inl rfl | exact Or.inr rfl) (x_call o_number_of (hr.mono (by omega)) tk (a_cons (x_var 2) (a_cons x_int (a_cons (x_gint G.g_MOST_VARIABLE) (a_cons x_str a_nil))))))
  (ss_cons (s_if (PW.pt (b_and (b_cmp op_gt gtM_ok (x_callB call_len lenM_ok G.n_len rfl (a_cons (x_var 1) a_nil)) x_int) (b_and1 (b_cmp (op_leX hr.units0) leX_ok (x_var 3) (x_ix (x_var 1) (x_neg x_int)))))) (ss_one (s_raise2 o_TextError (hr.mono (by omega)) tk (a_cons (x_ix (x_var 2) x_int) (a_cons x_str a_nil)))) ss_nil)
  (ss_one (s_expr (x_lm PySem.F.slot_list_append PySem.F.type_list_append mt_append appendM_ok (x_var 1) (a_cons (x_var 3) a_nil)))))))))
  (ss_one (s_ret (x_callTy call_tuple_of tupleM_ok G.n_tuple rfl (a_cons (x_var 1) a_nil))))))
def L1_edges_from : SX := sTidy [3, 4, 5, 6] (sSeq (sSet 5 (eCall 4 F_number_of (aCons (eVar 3) (aCons (eC (.int 0)) (aCons (eOp2 subM (eVar 1) (eC (.int 1))) (aCons (eC (.str "there is no such node")) aNil))))))
  (sSeq (sSet 6 (eCall 4 F_number_of (aCons (eVar 4) (aCons (eC (.int 0)) (aCons (eOp2 subM (eVar 1) (eC (.int 1))) (aCons (eC (.str "there is no such node")) aNil))))))
  (sSeq (sIf (bVal (eOp2 geM (eVar 5) (eVar 6))) (sRaise "TextError" ["column", "words"] (aCons (eOp2 idxM (eVar 4) (eC (.int 2))) (aCons (eC (.str "an edge ascends")) aNil))) sSkip)
  (sSeq (sIf (bAnd (bVal (eOp2 gtM (eCB lenM (aCons (eVar 2) aNil)) (eC (.int 0)))) (bVal (eOp2 leX (eTup (aCons (eVar 5) (aCons (eVar 6) aNil))) (eOp2 idxM (eVar 2) (eOp1 negM (eC (.int 1))))))) (sRaise "TextError" ["column", "words"] (aCons (eOp2 idxM (eVar 4) (eC (.int 2))) (aCons (eC (.str "edges ascend")) aNil))) sSkip)
  (sExpr (eLM appendM (eVar 2) (aCons (eTup (aCons (eVar 5) (aCons (eVar 6) aNil))) aNil)))))))
theorem sc_edges_from : FnScope ["pairs", "many", "found", "first", "second", "one", "other"] ["pairs", "many"] (defScope (top 37)) := ⟨rfl, rfl, rfl, by decide +kernel, rfl, by decide +kernel, by decide +kernel⟩
def m_edges_from : SX := (sSeq (sSet 2 (eLstL aNil))
  (sSeq (sFor (iSeq (eVar 0)) (.t [(.n 3), (.n 4)]) L1_edges_from)
  (sRet (eCB tupleM (aCons (eVar 2) aNil)))))
def F_edges_from : FF := mkFn true 2 7 m_edges_from
theorem ok_edges_from (G : Globs K mg) (F : FnP K "edges_from" (top 37) f fd) (hm : mg "edges_from" = some (.ref f)) (o_number_of : OkD P w K mg base 3 "number_of" F_number_of ["token", "low", "high", "words"]) (o_TextError : OkX2 P w K mg base 1 "TextError" "column" "words") : OkD P w K mg base 4 "edges_from" F_edges_from ["pairs", "many"] := by
  refine OkD.mk F hm (FunD.bindsN F fun _ _ _ _ _ _ us hl => match us, hl with | [_, _], _ => rfl) sc_edges_from rfl rfl fun cd A outer s H E hr => ?_
  have tk := takes_cx (P := P) (w := w) (K := K) (mg := mg) (base := base) (N := ["pairs", "many", "found", "first", "second", "one", "other"]) (qual := "edges_from") (scope := defScope (top 37)) (f := f) (cd := cd) (A := A) (outer := outer) (s := s) (H := H) (E := E)
  have ow := owns_cx (P := P) (w := w) (K := K) (mg := mg) (base := base) (N := ["pairs", "many", "found", "first", "second", "one", "other"]) (qual := "edges_from") (scope := defScope (top 37)) (f := f) (cd := cd) (A := A) (outer := outer) (s := s) (H := H) (E := E)
  exact (ss_cons (s_set sc_edges_from.nd rfl (by first | exact Or.inl rfl | exact Or.inr rfl) (x_lstL a_nil))
  (ss_cons (s_for ow rfl (i_seq (x_var 0)) (g_tup rfl (g_cons (g_name sc_edges_from.nd rfl (by first | exact Or.inl rfl | exact Or.inr rfl)) (g_cons (g_name sc_edges_from.nd rfl (by first | exact Or.inl rfl | exact Or.inr rfl)) g_nil))) (ss_tidy [3, 4, 5, 6] (ss_cons (s_set sc_edges_from.nd rfl (by first | exact Or.inl rfl | exact Or.inr rfl) (x_call o_number_of (hr.mono (by omega)) tk (a_cons (x_var 3) (a_cons x_int (a_cons (x_op op_sub subM_ok (x_var 1) x_int) (a_cons x_str a_nil))))))
  (ss_cons (s_set sc_edges_from.nd rfl (by first | exact Or.inl rfl | exact Or.inr rfl) (x_call o_number_of (hr.mono (by omega)) tk (a_cons (x_var 4) (a_cons x_int (a_cons (x_op op_sub subM_ok (x_var 1) x_int) (a_cons x_str a_nil))))))
  (ss_cons (s_if (b_cmp op_ge geM_ok (x_var 5) (x_var 6)) (ss_one (s_raise2 o_TextError (hr.mono (by omega)) tk (a_cons (x_ix (x_var 4) x_int) (a_cons x_str a_nil)))) ss_nil)
  (ss_cons (s_if (PW.pt (b_and (b_cmp op_gt gtM_ok (x_callB call_len lenM_ok G.n_len rfl (a_cons (x_var 2) a_nil)) x_int) (b_and1 (b_cmp (op_leX hr.units0) leX_ok (x_tup (a_cons (x_var 5) (a_cons (x_var 6) a_nil))) (x_ix (x_var 2) (x_neg x_int)))))) (ss_one (s_raise2 o_TextError (hr.mono (by omega)) tk (a_cons (x_ix (x_var 4) x_int) (a_cons x_str a_nil)))) ss_nil)
  (ss_one (s_expr (x_lm PySem.F.slot_list_append PySem.F.type_list_append mt_append appendM_ok (x_var 2) (a_cons (x_tup (a_cons (x_var 5) (a_cons (x_var 6) a_nil))) a_nil))))))))))
  (ss_one (s_ret (x_callTy call_tuple_of tupleM_ok G.n_tuple rfl (a_cons (x_var 2) a_nil))))))
def L1_read_graph : SX := sTidy [6, 7] (sSeq (sExpr (eLM appendM (eVar 5) (aCons (eCall 1 F_scope_from (aCons (eVar 6) aNil)) aNil)))
  (sIf (bAnd (bVal (eOp2 (eqM false) (eCB lenM (aCons (eVar 5) aNil)) (eC (.int 5)))) (bVal (eOp2 (eqM false) (eOp2 idxM (eVar 7) (eC (.int 1))) (eC (.str ","))))) (sRaise "TextError" ["column", "words"] (aCons (eOp2 idxM (eVar 7) (eC (.int 2))) (aCons (eC (.str "there are at most 5 nodes")) aNil))) sSkip))
theorem sc_read_graph : FnScope ["text", "token", "rows", "pairs", "values", "scopes", "tokens", "behind"] ["text"] (defScope (top 38)) := ⟨rfl, rfl, rfl, by decide +kernel, rfl, by decide +kernel, by decide +kernel⟩
def m_read_graph : SX := (sSeq (sPut (.t [(.n 1), (.n 2), (.n 3)]) (eMeth "Parser" "graph" 1 F_Parser_graph (eMake "Parser" 3 F_Parser___init__ (aCons (eCall 1 F_scan (aCons (eVar 0) aNil)) (aCons (eC (.bool false)) aNil))) aNil))
  (sSeq (sSet 4 (eCall 4 F_number_of (aCons (eVar 1) (aCons (eC (.int 2)) (aCons (eC (.int 3)) (aCons (eC (.str "there are 2 or 3 values")) aNil))))))
  (sSeq (sSet 5 (eLstL aNil))
  (sSeq (sFor (iSeq (eVar 2)) (.t [(.n 6), (.n 7)]) L1_read_graph)
  (sRet (eTup (aCons (eVar 4) (aCons (eCB tupleM (aCons (eVar 5) aNil)) (aCons (eCall 2 F_edges_from (aCons (eVar 3) (aCons (eCB lenM (aCons (eVar 5) aNil)) aNil))) aNil)))))))))
def F_read_graph : FF := mkFn true 1 8 m_read_graph
theorem ok_read_graph (G : Globs K mg) (F : FnP K "read_graph" (top 38) f fd) (hm : mg "read_graph" = some (.ref f)) (o_Parser_graph : OkM P w K mg base 6 "Parser" "graph" F_Parser_graph ["self"]) (o_Parser___init__ : OkI P w K mg base 1 "Parser" F_Parser___init__ ["self", "tokens", "stops"]) (o_scan : OkD P w K mg base 4 "scan" F_scan ["text"]) (o_number_of : OkD P w K mg base 3 "number_of" F_number_of ["token", "low", "high", "words"]) (o_scope_from : OkD P w K mg base 4 "scope_from" F_scope_from ["tokens"]) (o_edges_from : OkD P w K mg base 4 "edges_from" F_edges_from ["pairs", "many"]) (o_TextError : OkX2 P w K mg base 1 "TextError" "column" "words") : OkD P w K mg base 7 "read_graph" F_read_graph ["text"] := by
  refine OkD.mk F hm (FunD.bindsN F fun _ _ _ _ _ _ us hl => match us, hl with | [_], _ => rfl) sc_read_graph rfl rfl fun cd A outer s H E hr => ?_
  have tk := takes_cx (P := P) (w := w) (K := K) (mg := mg) (base := base) (N := ["text", "token", "rows", "pairs", "values", "scopes", "tokens", "behind"]) (qual := "read_graph") (scope := defScope (top 38)) (f := f) (cd := cd) (A := A) (outer := outer) (s := s) (H := H) (E := E)
  have ow := owns_cx (P := P) (w := w) (K := K) (mg := mg) (base := base) (N := ["text", "token", "rows", "pairs", "values", "scopes", "tokens", "behind"]) (qual := "read_graph") (scope := defScope (top 38)) (f := f) (cd := cd) (A := A) (outer := outer) (s := s) (H := H) (E := E)
  exact (ss_cons (s_put (x_meth0 o_Parser_graph (hr.mono (by omega)) tk (x_make o_Parser___init__ (hr.mono (by omega)) tk (a_cons (x_call o_scan (hr.mono (by omega)) tk (a_cons (x_var 0) a_nil)) (a_cons x_bl a_nil)))) (g_tup rfl (g_cons (g_name sc_read_graph.nd rfl (by first | exact Or.inl rfl | exact Or.inr rfl)) (g_cons (g_name sc_read_graph.nd rfl (by first | exact Or.inl rfl | exact Or.inr rfl)) (g_cons (g_name sc_read_graph.nd rfl (by first | exact Or.inl rfl | exact Or.inr rfl)) g_nil)))))
  (ss_cons (s_set sc_read_graph.nd rfl (by first | exact Or.inl rfl | exact Or.inr rfl) (x_call o_number_of (hr.mono (by omega)) tk (a_cons (x_var 1) (a_cons x_int (a_cons x_int (a_cons x_str a_nil))))))
  (ss_cons (s_set sc_read_graph.nd rfl (by first | exact Or.inl rfl | exact Or.inr rfl) (x_lstL a_nil))
  (ss_cons (s_for ow rfl (i_seq (x_var 2)) (g_tup rfl (g_cons (g_name sc_read_graph.nd rfl (by first | exact Or.inl rfl | exact Or.inr rfl)) (g_cons (g_name sc_read_graph.nd rfl (by first | exact Or.inl rfl | exact Or.inr rfl)) g_nil))) (ss_tidy [6, 7] (ss_cons (s_expr (x_lm PySem.F.slot_list_append PySem.F.type_list_append mt_append appendM_ok (x_var 5) (a_cons (x_call o_scope_from (hr.mono (by omega)) tk (a_cons (x_var 6) a_nil)) a_nil)))
  (ss_one (s_if (PW.pt (b_and (b_cmp (op_eqD hr.units) eqM_ok (x_callB call_len lenM_ok G.n_len rfl (a_cons (x_var 5) a_nil)) (x_gint G.g_MOST_NODES)) (b_and1 (b_cmp (op_eqD hr.units) eqM_ok (x_ix (x_var 7) x_int) x_str)))) (ss_one (s_raise2 o_TextError (hr.mono (by omega)) tk (a_cons (x_ix (x_var 7) x_int) (a_cons x_str a_nil)))) ss_nil)))))
  (ss_one (s_ret (x_tup (a_cons (x_var 4) (a_cons (x_callTy call_tuple_of tupleM_ok G.n_tuple rfl (a_cons (x_var 5) a_nil)) (a_cons (x_call o_edges_from (hr.mono (by omega)) tk (a_cons (x_var 3) (a_cons (x_callB call_len lenM_ok G.n_len rfl (a_cons (x_var 5) a_nil)) a_nil))) a_nil))))))))))
def L1_row_from : SX := sTidy [5] (sSeq (sIf (bVal (eOp2 (eqM false) (eCB lenM (aCons (eVar 4) aNil)) (eCB lenM (aCons (eVar 1) aNil)))) (sRaise "TextError" ["column", "words"] (aCons (eOp2 idxM (eVar 5) (eC (.int 2))) (aCons (eC (.str "there is no such variable")) aNil))) sSkip)
  (sExpr (eLM appendM (eVar 4) (aCons (eCall 4 F_number_of (aCons (eVar 5) (aCons (eC (.int 0)) (aCons (eOp2 subM (eVar 0) (eC (.int 1))) (aCons (eC (.str "there is no such value")) aNil))))) aNil))))
theorem sc_row_from : FnScope ["values", "scope", "tokens", "sign", "found", "token"] ["values", "scope", "tokens", "sign"] (defScope (top 39)) := ⟨rfl, rfl, rfl, by decide +kernel, rfl, by decide +kernel, by decide +kernel⟩
def m_row_from : SX := (sSeq (sSet 4 (eLstL aNil))
  (sSeq (sFor (iSeq (eVar 2)) (.n 5) L1_row_from)
  (sSeq (sIf (bVal (eOp2 ltM (eCB lenM (aCons (eVar 4) aNil)) (eCB lenM (aCons (eVar 1) aNil)))) (sRaise "TextError" ["column", "words"] (aCons (eOp2 idxM (eVar 3) (eC (.int 2))) (aCons (eC (.str "a value is missing")) aNil))) sSkip)
  (sRet (eCB tupleM (aCons (eVar 4) aNil))))))
def F_row_from : FF := mkFn true 4 6 m_row_from
theorem ok_row_from (G : Globs K mg) (F : FnP K "row_from" (top 39) f fd) (hm : mg "row_from" = some (.ref f)) (o_number_of : OkD P w K mg base 3 "number_of" F_number_of ["token", "low", "high", "words"]) (o_TextError : OkX2 P w K mg base 1 "TextError" "column" "words") : OkD P w K mg base 4 "row_from" F_row_from ["values", "scope", "tokens", "sign"] := by
  refine OkD.mk F hm (FunD.bindsN F fun _ _ _ _ _ _ us hl => match us, hl with | [_, _, _, _], _ => rfl) sc_row_from rfl rfl fun cd A outer s H E hr => ?_
  have tk := takes_cx (P := P) (w := w) (K := K) (mg := mg) (base := base) (N := ["values", "scope", "tokens", "sign", "found", "token"]) (qual := "row_from") (scope := defScope (top 39)) (f := f) (cd := cd) (A := A) (outer := outer) (s := s) (H := H) (E := E)
  have ow := owns_cx (P := P) (w := w) (K := K) (mg := mg) (base := base) (N := ["values", "scope", "tokens", "sign", "found", "token"]) (qual := "row_from") (scope := defScope (top 39)) (f := f) (cd := cd) (A := A) (outer := outer) (s := s) (H := H) (E := E)
  exact (ss_cons (s_set sc_row_from.nd rfl (by first | exact Or.inl rfl | exact Or.inr rfl) (x_lstL a_nil))
  (ss_cons (s_for ow rfl (i_seq (x_var 2)) (g_name sc_row_from.nd rfl (by first | exact Or.inl rfl | exact Or.inr rfl)) (ss_tidy [5] (ss_cons (s_if (b_cmp (op_eqD hr.units) eqM_ok (x_callB call_len lenM_ok G.n_len rfl (a_cons (x_var 4) a_nil)) (x_callB call_len lenM_ok G.n_len rfl (a_cons (x_var 1) a_nil))) (ss_one (s_raise2 o_TextError (hr.mono (by omega)) tk (a_cons (x_ix (x_var 5) x_int) (a_cons x_str a_nil)))) ss_nil)
  (ss_one (s_expr (x_lm PySem.F.slot_list_append PySem.F.type_list_append mt_append appendM_ok (x_var 4) (a_cons (x_call o_number_of (hr.mono (by omega)) tk (a_cons (x_var 5) (a_cons x_int (a_cons (x_op op_sub subM_ok (x_var 0) x_int) (a_cons x_str a_nil))))) a_nil)))))))
  (ss_cons (s_if (b_cmp (op_ltAll hr.units0) ltM_ok (x_callB call_len lenM_ok G.n_len rfl (a_cons (x_var 4) a_nil)) (x_callB call_len lenM_ok G.n_len rfl (a_cons (x_var 1) a_nil))) (ss_one (s_raise2 o_TextError (hr.mono (by omega)) tk (a_cons (x_ix (x_var 3) x_int) (a_cons x_str a_nil)))) ss_nil)
  (ss_one (s_ret (x_callTy call_tuple_of tupleM_ok G.n_tuple rfl (a_cons (x_var 4) a_nil)))))))
def L1_table_from : SX := sTidy [4, 5, 6, 7] (sSeq (sSet 7 (eCall 4 F_row_from (aCons (eVar 0) (aCons (eVar 1) (aCons (eVar 4) (aCons (eVar 5) aNil))))))
  (sSeq (sIf (bAnd (bVal (eOp2 gtM (eCB lenM (aCons (eVar 3) aNil)) (eC (.int 0)))) (bVal (eOp2 leX (eVar 7) (eOp2 idxM (eOp2 idxM (eVar 3) (eOp1 negM (eC (.int 1)))) (eC (.int 0)))))) (sRaise "TextError" ["column", "words"] (aCons (eOp2 idxM (eVar 5) (eC (.int 2))) (aCons (eC (.str "rows ascend")) aNil))) sSkip)
  (sExpr (eLM appendM (eVar 3) (aCons (eTup (aCons (eVar 7) (aCons (eCall 4 F_number_of (aCons (eVar 6) (aCons (eC (.int 0)) (aCons (eC (.int 100)) (aCons (eC (.str "a cost is from 0 to 100")) aNil))))) aNil))) aNil)))))
theorem sc_table_from : FnScope ["values", "scope", "rows", "found", "tokens", "sign", "cost", "row"] ["values", "scope", "rows"] (defScope (top 40)) := ⟨rfl, rfl, rfl, by decide +kernel, rfl, by decide +kernel, by decide +kernel⟩
def m_table_from : SX := (sSeq (sSet 3 (eLstL aNil))
  (sSeq (sFor (iSeq (eVar 2)) (.t [(.n 4), (.n 5), (.n 6)]) L1_table_from)
  (sRet (eCB tupleM (aCons (eVar 3) aNil)))))
def F_table_from : FF := mkFn true 3 8 m_table_from
theorem ok_table_from (G : Globs K mg) (F : FnP K "table_from" (top 40) f fd) (hm : mg "table_from" = some (.ref f)) (o_row_from : OkD P w K mg base 4 "row_from" F_row_from ["values", "scope", "tokens", "sign"]) (o_number_of : OkD P w K mg base 3 "number_of" F_number_of ["token", "low", "high", "words"]) (o_TextError : OkX2 P w K mg base 1 "TextError" "column" "words") : OkD P w K mg base 5 "table_from" F_table_from ["values", "scope", "rows"] := by
  refine OkD.mk F hm (FunD.bindsN F fun _ _ _ _ _ _ us hl => match us, hl with | [_, _, _], _ => rfl) sc_table_from rfl rfl fun cd A outer s H E hr => ?_
  have tk := takes_cx (P := P) (w := w) (K := K) (mg := mg) (base := base) (N := ["values", "scope", "rows", "found", "tokens", "sign", "cost", "row"]) (qual := "table_from") (scope := defScope (top 40)) (f := f) (cd := cd) (A := A) (outer := outer) (s := s) (H := H) (E := E)
  have ow := owns_cx (P := P) (w := w) (K := K) (mg := mg) (base := base) (N := ["values", "scope", "rows", "found", "tokens", "sign", "cost", "row"]) (qual := "table_from") (scope := defScope (top 40)) (f := f) (cd := cd) (A := A) (outer := outer) (s := s) (H := H) (E := E)
  exact (ss_cons (s_set sc_table_from.nd rfl (by first | exact Or.inl rfl | exact Or.inr rfl) (x_lstL a_nil))
  (ss_cons (s_for ow rfl (i_seq (x_var 2)) (g_tup rfl (g_cons (g_name sc_table_from.nd rfl (by first | exact Or.inl rfl | exact Or.inr rfl)) (g_cons (g_name sc_table_from.nd rfl (by first | exact Or.inl rfl | exact Or.inr rfl)) (g_cons (g_name sc_table_from.nd rfl (by first | exact Or.inl rfl | exact Or.inr rfl)) g_nil)))) (ss_tidy [4, 5, 6, 7] (ss_cons (s_set sc_table_from.nd rfl (by first | exact Or.inl rfl | exact Or.inr rfl) (x_call o_row_from (hr.mono (by omega)) tk (a_cons (x_var 0) (a_cons (x_var 1) (a_cons (x_var 4) (a_cons (x_var 5) a_nil))))))
  (ss_cons (s_if (PW.pt (b_and (b_cmp op_gt gtM_ok (x_callB call_len lenM_ok G.n_len rfl (a_cons (x_var 3) a_nil)) x_int) (b_and1 (b_cmp (op_leX hr.units0) leX_ok (x_var 7) (x_ix (x_ix (x_var 3) (x_neg x_int)) x_int))))) (ss_one (s_raise2 o_TextError (hr.mono (by omega)) tk (a_cons (x_ix (x_var 5) x_int) (a_cons x_str a_nil)))) ss_nil)
  (ss_one (s_expr (x_lm PySem.F.slot_list_append PySem.F.type_list_append mt_append appendM_ok (x_var 3) (a_cons (x_tup (a_cons (x_var 7) (a_cons (x_call o_number_of (hr.mono (by omega)) tk (a_cons (x_var 6) (a_cons x_int (a_cons (x_gint G.g_MOST_COST) (a_cons x_str a_nil))))) a_nil))) a_nil))))))))
  (ss_one (s_ret (x_callTy call_tuple_of tupleM_ok G.n_tuple rfl (a_cons (x_var 3) a_nil))))))
def L1_read_tables : SX := sTidy [3, 4] (sSeq (sExpr (eLM appendM (eVar 2) (aCons (eCall 3 F_table_from (aCons (eOp2 idxM (eVar 0) (eC (.int 0))) (aCons (eOp2 idxM (eOp2 idxM (eVar 0) (eC (.int 1))) (eCB lenM (aCons (eVar 2) aNil))) (aCons (eVar 3) aNil)))) aNil)))
  (sSeq (sIf (bAnd (bVal (eOp2 (eqM false) (eCB lenM (aCons (eVar 2) aNil)) (eCB lenM (aCons (eOp2 idxM (eVar 0) (eC (.int 1))) aNil)))) (bVal (eOp2 (eqM false) (eOp2 idxM (eVar 4) (eC (.int 1))) (eC (.str ";"))))) (sRaise "TextError" ["column", "words"] (aCons (eOp2 idxM (eVar 4) (eC (.int 2))) (aCons (eC (.str "there is no such node")) aNil))) sSkip)
  (sIf (bAnd (bVal (eOp2 ltM (eCB lenM (aCons (eVar 2) aNil)) (eCB lenM (aCons (eOp2 idxM (eVar 0) (eC (.int 1))) aNil)))) (bVal (eOp2 (eqM true) (eOp2 idxM (eVar 4) (eC (.int 1))) (eC (.str ";"))))) (sRaise "TextError" ["column", "words"] (aCons (eOp2 idxM (eVar 4) (eC (.int 2))) (aCons (eC (.str "a table is missing")) aNil))) sSkip)))
theorem sc_read_tables : FnScope ["graph", "text", "found", "rows", "behind"] ["graph", "text"] (defScope (top 41)) := ⟨rfl, rfl, rfl, by decide +kernel, rfl, by decide +kernel, by decide +kernel⟩
def m_read_tables : SX := (sSeq (sExpr (eCall 1 F_check_graph (aCons (eVar 0) aNil)))
  (sSeq (sSet 2 (eLstL aNil))
  (sSeq (sFor (iSeq (eMeth "Parser" "tables" 1 F_Parser_tables (eMake "Parser" 3 F_Parser___init__ (aCons (eCall 1 F_scan (aCons (eVar 1) aNil)) (aCons (eC (.bool false)) aNil))) aNil)) (.t [(.n 3), (.n 4)]) L1_read_tables)
  (sRet (eCB tupleM (aCons (eVar 2) aNil))))))
def F_read_tables : FF := mkFn true 2 5 m_read_tables
theorem ok_read_tables (G : Globs K mg) (F : FnP K "read_tables" (top 41) f fd) (hm : mg "read_tables" = some (.ref f)) (o_check_graph : OkD P w K mg base 5 "check_graph" F_check_graph ["graph"]) (o_Parser_tables : OkM P w K mg base 8 "Parser" "tables" F_Parser_tables ["self"]) (o_Parser___init__ : OkI P w K mg base 1 "Parser" F_Parser___init__ ["self", "tokens", "stops"]) (o_scan : OkD P w K mg base 4 "scan" F_scan ["text"]) (o_table_from : OkD P w K mg base 5 "table_from" F_table_from ["values", "scope", "rows"]) (o_TextError : OkX2 P w K mg base 1 "TextError" "column" "words") : OkD P w K mg base 9 "read_tables" F_read_tables ["graph", "text"] := by
  refine OkD.mk F hm (FunD.bindsN F fun _ _ _ _ _ _ us hl => match us, hl with | [_, _], _ => rfl) sc_read_tables rfl rfl fun cd A outer s H E hr => ?_
  have tk := takes_cx (P := P) (w := w) (K := K) (mg := mg) (base := base) (N := ["graph", "text", "found", "rows", "behind"]) (qual := "read_tables") (scope := defScope (top 41)) (f := f) (cd := cd) (A := A) (outer := outer) (s := s) (H := H) (E := E)
  have ow := owns_cx (P := P) (w := w) (K := K) (mg := mg) (base := base) (N := ["graph", "text", "found", "rows", "behind"]) (qual := "read_tables") (scope := defScope (top 41)) (f := f) (cd := cd) (A := A) (outer := outer) (s := s) (H := H) (E := E)
  exact (ss_cons (s_expr (x_call o_check_graph (hr.mono (by omega)) tk (a_cons (x_var 0) a_nil)))
  (ss_cons (s_set sc_read_tables.nd rfl (by first | exact Or.inl rfl | exact Or.inr rfl) (x_lstL a_nil))
  (ss_cons (s_for ow rfl (i_seq (x_meth0 o_Parser_tables (hr.mono (by omega)) tk (x_make o_Parser___init__ (hr.mono (by omega)) tk (a_cons (x_call o_scan (hr.mono (by omega)) tk (a_cons (x_var 1) a_nil)) (a_cons x_bl a_nil))))) (g_tup rfl (g_cons (g_name sc_read_tables.nd rfl (by first | exact Or.inl rfl | exact Or.inr rfl)) (g_cons (g_name sc_read_tables.nd rfl (by first | exact Or.inl rfl | exact Or.inr rfl)) g_nil))) (ss_tidy [3, 4] (ss_cons (s_expr (x_lm PySem.F.slot_list_append PySem.F.type_list_append mt_append appendM_ok (x_var 2) (a_cons (x_call o_table_from (hr.mono (by omega)) tk (a_cons (x_ix (x_var 0) x_int) (a_cons (x_ix (x_ix (x_var 0) x_int) (x_callB call_len lenM_ok G.n_len rfl (a_cons (x_var 2) a_nil))) (a_cons (x_var 3) a_nil)))) a_nil)))
  (ss_cons (s_if (PW.pt (b_and (b_cmp (op_eqD hr.units) eqM_ok (x_callB call_len lenM_ok G.n_len rfl (a_cons (x_var 2) a_nil)) (x_callB call_len lenM_ok G.n_len rfl (a_cons (x_ix (x_var 0) x_int) a_nil))) (b_and1 (b_cmp (op_eqD hr.units) eqM_ok (x_ix (x_var 4) x_int) x_str)))) (ss_one (s_raise2 o_TextError (hr.mono (by omega)) tk (a_cons (x_ix (x_var 4) x_int) (a_cons x_str a_nil)))) ss_nil)
  (ss_one (s_if (PW.pt (b_and (b_cmp (op_ltAll hr.units0) ltM_ok (x_callB call_len lenM_ok G.n_len rfl (a_cons (x_var 2) a_nil)) (x_callB call_len lenM_ok G.n_len rfl (a_cons (x_ix (x_var 0) x_int) a_nil))) (b_and1 (b_cmp (op_neD hr.units) neM_ok (x_ix (x_var 4) x_int) x_str)))) (ss_one (s_raise2 o_TextError (hr.mono (by omega)) tk (a_cons (x_ix (x_var 4) x_int) (a_cons x_str a_nil)))) ss_nil))))))
  (ss_one (s_ret (x_callTy call_tuple_of tupleM_ok G.n_tuple rfl (a_cons (x_var 2) a_nil)))))))
theorem sc__law_stream : FnScope ["_law_script"] ["_law_script"] (defScope (top 43)) := ⟨rfl, rfl, rfl, by decide +kernel, rfl, by decide +kernel, by decide +kernel⟩
def m__law_stream : SX := (sRet (eLstL (aCons (eCB listM (aCons (eVar 0) aNil)) (aCons (eC (.int 0)) (aCons (eC (.int 0)) aNil)))))
def F__law_stream : FF := mkFn false 1 1 m__law_stream
theorem ok__law_stream (G : Globs K mg) (F : FnP K "_law_stream" (top 43) f fd) (hm : mg "_law_stream" = some (.ref f))  : OkD P w K mg base 1 "_law_stream" F__law_stream ["_law_script"] := by
  refine OkD.mk F hm (FunD.bindsN F fun _ _ _ _ _ _ us hl => match us, hl with | [_], _ => rfl) sc__law_stream rfl rfl fun cd A outer s H E hr => ?_
  have tk := takes_cx (P := P) (w := w) (K := K) (mg := mg) (base := base) (N := ["_law_script"]) (qual := "_law_stream") (scope := defScope (top 43)) (f := f) (cd := cd) (A := A) (outer := outer) (s := s) (H := H) (E := E)
  have ow := owns_cx (P := P) (w := w) (K := K) (mg := mg) (base := base) (N := ["_law_script"]) (qual := "_law_stream") (scope := defScope (top 43)) (f := f) (cd := cd) (A := A) (outer := outer) (s := s) (H := H) (E := E)
  exact (ss_one (s_ret (x_lstL (a_cons (x_callTy call_list_of listM_ok G.n_list rfl (a_cons (x_var 0) a_nil)) (a_cons x_int (a_cons x_int a_nil))))))
theorem sc__law_next : FnScope ["_law_stream_here", "_law_many", "_law_k", "_law_cell", "_law_digit"] ["_law_stream_here", "_law_many"] (defScope (top 44)) := ⟨rfl, rfl, rfl, by decide +kernel, rfl, by decide +kernel, by decide +kernel⟩
def m__law_next : SX := (sSeq (sIf (bVal (eOp2 (eqM false) (eOp2 idxM (eVar 0) (eC (.int 1))) (eC (.int 0)))) (sSeq (sSet 2 (eOp2 idxM (eVar 0) (eC (.int 2))))
  (sSeq (sSet 3 (eOp2 addM (eC (.int 7)) (eVar 2)))
  (sSeq (sIf (bVal (eOp2 ltM (eVar 2) (eCB lenM (aCons (eOp2 idxM (eVar 0) (eC (.int 0))) aNil)))) (sSet 3 (eCB absM (aCons (eOp2 idxM (eOp2 idxM (eVar 0) (eC (.int 0))) (eVar 2)) aNil))) sSkip)
  (sSeq (sIf (bVal (eOp2 ltM (eVar 3) (eOp2 powM (eC (.int 10)) (eC (.int 18))))) (sSeq (sSet 3 (eOp2 modM (eCB intX (aCons (eOp2 addM (eOp2 addM (eOp2 mulI (eVar 3) (eC (.int 48271))) (eOp2 mulI (eVar 2) (eC (.int 69621)))) (eC (.int 11))) aNil)) (eC (.int 2147483647))))
  (sSet 3 (eOp2 addM (eOp2 mulI (eOp2 modM (eCB intX (aCons (eOp2 addM (eOp2 mulI (eVar 3) (eC (.int 16807))) (eC (.int 13))) aNil)) (eC (.int 2147483647))) (eC (.int 65537))) (eVar 3)))) sSkip)
  (sSeq (sSetIx (eVar 0) (eC (.int 1)) (eVar 3))
  (sSetIx (eVar 0) (eC (.int 2)) (eOp2 addM (eVar 2) (eC (.int 1))))))))) sSkip)
  (sSeq (sSet 4 (eOp2 modM (eCB intX (aCons (eOp2 idxM (eVar 0) (eC (.int 1))) aNil)) (eVar 1)))
  (sSeq (sSetIx (eVar 0) (eC (.int 1)) (eOp2 divM (eOp2 idxM (eVar 0) (eC (.int 1))) (eVar 1)))
  (sRet (eVar 4)))))
def F__law_next : FF := mkFn true 2 5 m__law_next
theorem ok__law_next (G : Globs K mg) (F : FnP K "_law_next" (top 44) f fd) (hm : mg "_law_next" = some (.ref f))  : OkD P w K mg base 1 "_law_next" F__law_next ["_law_stream_here", "_law_many"] := by
  refine OkD.mk F hm (FunD.bindsN F fun _ _ _ _ _ _ us hl => match us, hl with | [_, _], _ => rfl) sc__law_next rfl rfl fun cd A outer s H E hr => ?_
  have tk := takes_cx (P := P) (w := w) (K := K) (mg := mg) (base := base) (N := ["_law_stream_here", "_law_many", "_law_k", "_law_cell", "_law_digit"]) (qual := "_law_next") (scope := defScope (top 44)) (f := f) (cd := cd) (A := A) (outer := outer) (s := s) (H := H) (E := E)
  have ow := owns_cx (P := P) (w := w) (K := K) (mg := mg) (base := base) (N := ["_law_stream_here", "_law_many", "_law_k", "_law_cell", "_law_digit"]) (qual := "_law_next") (scope := defScope (top 44)) (f := f) (cd := cd) (A := A) (outer := outer) (s := s) (H := H) (E := E)
  exact (ss_cons (s_if (b_cmp (op_eqD hr.units) eqM_ok (x_ix (x_var 0) x_int) x_int) (ss_cons (s_set sc__law_next.nd rfl (by first | exact Or.inl rfl | exact Or.inr rfl) (x_ix (x_var 0) x_int))
  (ss_cons (s_set sc__law_next.nd rfl (by first | exact Or.inl rfl | exact Or.inr rfl) (x_op op_addAll addM_ok x_int (x_var 2)))
  (ss_cons (s_if (b_cmp (op_ltAll hr.units0) ltM_ok (x_var 2) (x_callB call_len lenM_ok G.n_len rfl (a_cons (x_ix (x_var 0) x_int) a_nil))) (ss_one (s_set sc__law_next.nd rfl (by first | exact Or.inl rfl | exact Or.inr rfl) (x_callB call_abs absM_ok G.n_abs rfl (a_cons (x_ix (x_ix (x_var 0) x_int) (x_var 2)) a_nil)))) ss_nil)
  (ss_cons (s_if (b_cmp (op_ltAll hr.units0) ltM_ok (x_var 3) (x_op op_pow powM_ok x_int x_int)) (ss_cons (s_set sc__law_next.nd rfl (by first | exact Or.inl rfl | exact Or.inr rfl) (x_op op_mod modM_ok (x_callTy call_intX intX_ok G.n_int rfl (a_cons (x_op op_addAll addM_ok (x_op op_addAll addM_ok (x_op op_mul mulI_ok (x_var 3) x_int) (x_op op_mul mulI_ok (x_var 2) x_int)) x_int) a_nil)) x_int))
  (ss_one (s_set sc__law_next.nd rfl (by first | exact Or.inl rfl | exact Or.inr rfl) (x_op op_addAll addM_ok (x_op op_mul mulI_ok (x_op op_mod modM_ok (x_callTy call_intX intX_ok G.n_int rfl (a_cons (x_op op_addAll addM_ok (x_op op_mul mulI_ok (x_var 3) x_int) x_int) a_nil)) x_int) x_int) (x_var 3))))) ss_nil)
  (ss_cons (s_setIx (x_var 3) (x_var 0) x_int)
  (ss_one (s_setIx (x_op op_addAll addM_ok (x_var 2) x_int) (x_var 0) x_int))))))) ss_nil)
  (ss_cons (s_set sc__law_next.nd rfl (by first | exact Or.inl rfl | exact Or.inr rfl) (x_op op_mod modM_ok (x_callTy call_intX intX_ok G.n_int rfl (a_cons (x_ix (x_var 0) x_int) a_nil)) (x_var 1)))
  (ss_cons (s_setIx (x_op op_fdiv divM_ok (x_ix (x_var 0) x_int) (x_var 1)) (x_var 0) x_int)
  (ss_one (s_ret (x_var 4))))))
theorem sc__law_is_integer : FnScope ["_law_actual"] ["_law_actual"] (defScope (top 45)) := ⟨rfl, rfl, rfl, by decide +kernel, rfl, by decide +kernel, by decide +kernel⟩
def m__law_is_integer : SX := (sRet (eAnd (eOp1 (isiM "int") (eVar 0)) (eNot (eOp1 (isiM "bool") (eVar 0)))))
def F__law_is_integer : FF := mkFn true 1 1 m__law_is_integer
theorem ok__law_is_integer (G : Globs K mg) (F : FnP K "_law_is_integer" (top 45) f fd) (hm : mg "_law_is_integer" = some (.ref f))  : OkD P w K mg base 1 "_law_is_integer" F__law_is_integer ["_law_actual"] := by
  refine OkD.mk F hm (FunD.bindsN F fun _ _ _ _ _ _ us hl => match us, hl with | [_], _ => rfl) sc__law_is_integer rfl rfl fun cd A outer s H E hr => ?_
  have tk := takes_cx (P := P) (w := w) (K := K) (mg := mg) (base := base) (N := ["_law_actual"]) (qual := "_law_is_integer") (scope := defScope (top 45)) (f := f) (cd := cd) (A := A) (outer := outer) (s := s) (H := H) (E := E)
  have ow := owns_cx (P := P) (w := w) (K := K) (mg := mg) (base := base) (N := ["_law_actual"]) (qual := "_law_is_integer") (scope := defScope (top 45)) (f := f) (cd := cd) (A := A) (outer := outer) (s := s) (H := H) (E := E)
  exact (ss_one (s_ret (x_and (x_isi (by decide) G.n_isinstance G.n_int rfl (x_var 0)) (x_one (x_not (x_isi (by decide) G.n_isinstance G.n_bool rfl (x_var 0)))))))
def C1__law_equal (F_self : FF) : EX W := eLc lcFin (iRg1 (eCB lenM (aCons (eVar 1) aNil))) (.n 2) bYes (eCall 2 F_self (aCons (eOp2 idxM (eVar 0) (eVar 2)) (aCons (eOp2 idxM (eVar 1) (eVar 2)) aNil))) [2]
theorem sc__law_equal : FnScope ["_law_actual", "_law_due_here", "_law_at"] ["_law_actual", "_law_due_here"] (defScope (top 46)) := ⟨rfl, rfl, rfl, by decide +kernel, rfl, by decide +kernel, by decide +kernel⟩
def m__law_equal (F_self : FF) : SX := (sSeq (sIf (bVal (eOp2 (isNoneM false) (eVar 1) (eC .none))) (sRet (eOp2 (isNoneM false) (eVar 0) (eC .none))) sSkip)
  (sSeq (sIf (bTru (eOp1 (isiM "bool") (eVar 1))) (sRet (eAnd (eOp1 (isiM "bool") (eVar 0)) (eOp2 (eqM false) (eVar 0) (eVar 1)))) sSkip)
  (sSeq (sIf (bTru (eOp1 (isiM "int") (eVar 1))) (sRet (eAnd (eCall 1 F__law_is_integer (aCons (eVar 0) aNil)) (eOp2 (eqM false) (eVar 0) (eVar 1)))) sSkip)
  (sSeq (sIf (bTru (eOp1 (isiM "str") (eVar 1))) (sRet (eAnd (eOp1 (isiM "str") (eVar 0)) (eOp2 (eqM false) (eVar 0) (eVar 1)))) sSkip)
  (sSeq (sIf (bAnd (bTru (eOp1 (isiM "tuple") (eVar 1))) (bNot (bTru (eOp1 (isiM "tuple") (eVar 0))))) (sRet (eC (.bool false))) sSkip)
  (sSeq (sIf (bAnd (bTru (eOp1 (isiM "list") (eVar 1))) (bNot (bTru (eOp1 (isiM "list") (eVar 0))))) (sRet (eC (.bool false))) sSkip)
  (sSeq (sIf (bVal (eOp2 (eqM true) (eCB lenM (aCons (eVar 0) aNil)) (eCB lenM (aCons (eVar 1) aNil)))) (sRet (eC (.bool false))) sSkip)
  (sRet (eCB (allM true) (aCons (C1__law_equal F_self) aNil))))))))))
def F__law_equal : Nat → FF
  | 0 => fun _ _ => .stuck
  | n + 1 => mkFn true 2 3 (m__law_equal (F__law_equal n))
theorem ok__law_equal (G : Globs K mg) (F : FnP K "_law_equal" (top 46) f fd) (hm : mg "_law_equal" = some (.ref f)) (o__law_is_integer : OkD P w K mg base 1 "_law_is_integer" F__law_is_integer ["_law_actual"]) : ∀ n, OkD P w K mg base (n + 2) "_law_equal" (F__law_equal n) ["_law_actual", "_law_due_here"]
  | 0 => OkD.zero F hm (FunD.bindsN F fun _ _ _ _ _ _ us hl => match us, hl with | [_, _], _ => rfl) sc__law_equal
  | n + 1 => by
    have o__law_equal := ok__law_equal G F hm o__law_is_integer n
    refine OkD.mk (k := n + 2) F hm (FunD.bindsN F fun _ _ _ _ _ _ us hl => match us, hl with | [_, _], _ => rfl) sc__law_equal rfl rfl fun cd A outer s H E hr => ?_
    have tk := takes_cx (P := P) (w := w) (K := K) (mg := mg) (base := base) (N := ["_law_actual", "_law_due_here", "_law_at"]) (qual := "_law_equal") (scope := defScope (top 46)) (f := f) (cd := cd) (A := A) (outer := outer) (s := s) (H := H) (E := E)
    have ow := owns_cx (P := P) (w := w) (K := K) (mg := mg) (base := base) (N := ["_law_actual", "_law_due_here", "_law_at"]) (qual := "_law_equal") (scope := defScope (top 46)) (f := f) (cd := cd) (A := A) (outer := outer) (s := s) (H := H) (E := E)
    exact (ss_cons (s_if (b_cmp op_isN isNoneM_ok (x_var 1) x_non) (ss_one (s_ret (x_cmp op_isN isNoneM_ok (x_var 0) x_non))) ss_nil)
  (ss_cons (s_if (b_tru (x_isi (by decide) G.n_isinstance G.n_bool rfl (x_var 1))) (ss_one (s_ret (x_and (x_isi (by decide) G.n_isinstance G.n_bool rfl (x_var 0)) (x_one (x_cmp (op_eqD hr.units) eqM_ok (x_var 0) (x_var 1)))))) ss_nil)
  (ss_cons (s_if (b_tru (x_isi (by decide) G.n_isinstance G.n_int rfl (x_var 1))) (ss_one (s_ret (x_and (x_call o__law_is_integer (hr.mono (by omega)) tk (a_cons (x_var 0) a_nil)) (x_one (x_cmp (op_eqD hr.units) eqM_ok (x_var 0) (x_var 1)))))) ss_nil)
  (ss_cons (s_if (b_tru (x_isi (by decide) G.n_isinstance G.n_str rfl (x_var 1))) (ss_one (s_ret (x_and (x_isi (by decide) G.n_isinstance G.n_str rfl (x_var 0)) (x_one (x_cmp (op_eqD hr.units) eqM_ok (x_var 0) (x_var 1)))))) ss_nil)
  (ss_cons (s_if (PW.pt (b_and (b_tru (x_isi (by decide) G.n_isinstance G.n_tuple rfl (x_var 1))) (b_and1 (b_not (b_tru (x_isi (by decide) G.n_isinstance G.n_tuple rfl (x_var 0))))))) (ss_one (s_ret x_bl)) ss_nil)
  (ss_cons (s_if (PW.pt (b_and (b_tru (x_isi (by decide) G.n_isinstance G.n_list rfl (x_var 1))) (b_and1 (b_not (b_tru (x_isi (by decide) G.n_isinstance G.n_list rfl (x_var 0))))))) (ss_one (s_ret x_bl)) ss_nil)
  (ss_cons (s_if (b_cmp (op_neD hr.units) neM_ok (x_callB call_len lenM_ok G.n_len rfl (a_cons (x_var 0) a_nil)) (x_callB call_len lenM_ok G.n_len rfl (a_cons (x_var 1) a_nil))) (ss_one (s_ret x_bl)) ss_nil)
  (ss_one (s_ret (x_callB (cr_all rfl) allM_ok G.n_all rfl (a_cons (x_lc (own := [("_law_at", 2)]) lcFin_ok rfl rfl sc__law_equal.nd (i_rg1 G.n_range (x_callB call_len lenM_ok G.n_len rfl (a_cons (x_var 1) a_nil))) (blkOk_by (by kernel_rfl)) (fun _ _ _ _ _ => (g_name sc__law_equal.nd rfl (by first | exact Or.inl rfl | exact Or.inr rfl))) (fun _ _ _ _ _ => ts_nil) (fun _ _ _ _ _ => (x_call o__law_equal (hr.mono (by omega)) takes0 (a_cons (x_ix (x_var 0) (x_var 2)) (a_cons (x_ix (x_var 1) (x_var 2)) a_nil))))) a_nil)))))))))))
theorem sc__law_pick : FnScope ["_law_stream_here", "_law_rows"] ["_law_stream_here", "_law_rows"] (defScope (top 47)) := ⟨rfl, rfl, rfl, by decide +kernel, rfl, by decide +kernel, by decide +kernel⟩
def m__law_pick : SX := (sRet (eOp2 idxM (eVar 1) (eCall 2 F__law_next (aCons (eVar 0) (aCons (eCB lenM (aCons (eVar 1) aNil)) aNil)))))
def F__law_pick : FF := mkFn true 2 2 m__law_pick
theorem ok__law_pick (G : Globs K mg) (F : FnP K "_law_pick" (top 47) f fd) (hm : mg "_law_pick" = some (.ref f)) (o__law_next : OkD P w K mg base 1 "_law_next" F__law_next ["_law_stream_here", "_law_many"]) : OkD P w K mg base 2 "_law_pick" F__law_pick ["_law_stream_here", "_law_rows"] := by
  refine OkD.mk F hm (FunD.bindsN F fun _ _ _ _ _ _ us hl => match us, hl with | [_, _], _ => rfl) sc__law_pick rfl rfl fun cd A outer s H E hr => ?_
  have tk := takes_cx (P := P) (w := w) (K := K) (mg := mg) (base := base) (N := ["_law_stream_here", "_law_rows"]) (qual := "_law_pick") (scope := defScope (top 47)) (f := f) (cd := cd) (A := A) (outer := outer) (s := s) (H := H) (E := E)
  have ow := owns_cx (P := P) (w := w) (K := K) (mg := mg) (base := base) (N := ["_law_stream_here", "_law_rows"]) (qual := "_law_pick") (scope := defScope (top 47)) (f := f) (cd := cd) (A := A) (outer := outer) (s := s) (H := H) (E := E)
  exact (ss_one (s_ret (x_ix (x_var 1) (x_call o__law_next (hr.mono (by omega)) tk (a_cons (x_var 0) (a_cons (x_callB call_len lenM_ok G.n_len rfl (a_cons (x_var 1) a_nil)) a_nil))))))
def L1__law_laid : SX := sTidy [4, 5, 6] (sSeq (sSet 6 (eCB intX (aCons (eAnd (eOp2 gtM (eVar 4) (eC (.int 0))) (eAnd (eOp2 inX (eCut (eOp2 idxM (eVar 1) (eOp2 subM (eVar 4) (eC (.int 1)))) (oSome (eOp1 negM (eC (.int 1)))) oNone) (eC (.str "0123456789"))) (eOp2 inX (eCut (eVar 5) oNone (oSome (eC (.int 1)))) (eC (.str "0123456789"))))) aNil)))
  (sSeq (sSet 2 (eOp2 addX (eVar 2) (eOp2 idxM (eLst (aCons (eC (.str "")) (aCons (eC (.str " ")) (aCons (eC (.str "  ")) (aCons (eC (.str "   ")) aNil))))) (eCB maxM (aCons (eVar 6) (aCons (eCall 2 F__law_next (aCons (eVar 0) (aCons (eC (.int 4)) aNil))) aNil))))))
  (sSeq (sExpr (eLM appendM (eVar 3) (aCons (eOp2 addX (eCB lenM (aCons (eVar 2) aNil)) (eC (.int 1))) aNil)))
  (sSet 2 (eOp2 addX (eVar 2) (eVar 5))))))
theorem sc__law_laid : FnScope ["_law_stream_here", "_law_words", "_law_text", "_law_places", "_law_k", "_law_word", "_law_near"] ["_law_stream_here", "_law_words"] (defScope (top 48)) := ⟨rfl, rfl, rfl, by decide +kernel, rfl, by decide +kernel, by decide +kernel⟩
def m__law_laid : SX := (sSeq (sSet 2 (eC (.str "")))
  (sSeq (sSet 3 (eLstL aNil))
  (sSeq (sFor (iEn (eVar 1)) (.t [(.n 4), (.n 5)]) L1__law_laid)
  (sSeq (sSet 2 (eOp2 addX (eVar 2) (eOp2 idxM (eLst (aCons (eC (.str "")) (aCons (eC (.str " ")) (aCons (eC (.str "  ")) aNil)))) (eCall 2 F__law_next (aCons (eVar 0) (aCons (eC (.int 3)) aNil))))))
  (sRet (eTup (aCons (eVar 2) (aCons (eOp2 addX (eVar 3) (eLst (aCons (eOp2 addX (eCB lenM (aCons (eVar 2) aNil)) (eC (.int 1))) aNil))) aNil))))))))
def F__law_laid : FF := mkFn true 2 7 m__law_laid
theorem ok__law_laid (G : Globs K mg) (F : FnP K "_law_laid" (top 48) f fd) (hm : mg "_law_laid" = some (.ref f)) (o__law_next : OkD P w K mg base 1 "_law_next" F__law_next ["_law_stream_here", "_law_many"]) : OkD P w K mg base 2 "_law_laid" F__law_laid ["_law_stream_here", "_law_words"] := by
  refine OkD.mk F hm (FunD.bindsN F fun _ _ _ _ _ _ us hl => match us, hl with | [_, _], _ => rfl) sc__law_laid rfl rfl fun cd A outer s H E hr => ?_
  have tk := takes_cx (P := P) (w := w) (K := K) (mg := mg) (base := base) (N := ["_law_stream_here", "_law_words", "_law_text", "_law_places", "_law_k", "_law_word", "_law_near"]) (qual := "_law_laid") (scope := defScope (top 48)) (f := f) (cd := cd) (A := A) (outer := outer) (s := s) (H := H) (E := E)
  have ow := owns_cx (P := P) (w := w) (K := K) (mg := mg) (base := base) (N := ["_law_stream_here", "_law_words", "_law_text", "_law_places", "_law_k", "_law_word", "_law_near"]) (qual := "_law_laid") (scope := defScope (top 48)) (f := f) (cd := cd) (A := A) (outer := outer) (s := s) (H := H) (E := E)
  exact (ss_cons (s_set sc__law_laid.nd rfl (by first | exact Or.inl rfl | exact Or.inr rfl) x_str)
  (ss_cons (s_set sc__law_laid.nd rfl (by first | exact Or.inl rfl | exact Or.inr rfl) (x_lstL a_nil))
  (ss_cons (s_for ow rfl (i_enum G.n_enumerate (x_var 1)) (g_tup rfl (g_cons (g_name sc__law_laid.nd rfl (by first | exact Or.inl rfl | exact Or.inr rfl)) (g_cons (g_name sc__law_laid.nd rfl (by first | exact Or.inl rfl | exact Or.inr rfl)) g_nil))) (ss_tidy [4, 5, 6] (ss_cons (s_set sc__law_laid.nd rfl (by first | exact Or.inl rfl | exact Or.inr rfl) (x_callTy call_intX intX_ok G.n_int rfl (a_cons (x_and (x_cmp op_gt gtM_ok (x_var 4) x_int) (x_and (x_cmp (op_inX (u65 hr)) inX_ok (x_cut (x_ix (x_var 1) (x_op op_sub subM_ok (x_var 4) x_int)) (o_some (x_neg x_int)) o_none) x_str) (x_one (x_cmp (op_inX (u65 hr)) inX_ok (x_cut (x_var 5) o_none (o_some x_int)) x_str)))) a_nil)))
  (ss_cons (s_set sc__law_laid.nd rfl (by first | exact Or.inl rfl | exact Or.inr rfl) (x_op op_addAll addX_ok (x_var 2) (x_ix (x_lst (a_cons x_str (a_cons x_str (a_cons x_str (a_cons x_str a_nil))))) (x_callB (call_max2 rfl) maxM_ok G.n_max rfl (a_cons (x_var 6) (a_cons (x_call o__law_next (hr.mono (by omega)) tk (a_cons (x_var 0) (a_cons x_int a_nil))) a_nil))))))
  (ss_cons (s_expr (x_lm PySem.F.slot_list_append PySem.F.type_list_append mt_append appendM_ok (x_var 3) (a_cons (x_op op_addAll addX_ok (x_callB call_len lenM_ok G.n_len rfl (a_cons (x_var 2) a_nil)) x_int) a_nil)))
  (ss_one (s_set sc__law_laid.nd rfl (by first | exact Or.inl rfl | exact Or.inr rfl) (x_op op_addAll addX_ok (x_var 2) (x_var 5)))))))))
  (ss_cons (s_set sc__law_laid.nd rfl (by first | exact Or.inl rfl | exact Or.inr rfl) (x_op op_addAll addX_ok (x_var 2) (x_ix (x_lst (a_cons x_str (a_cons x_str (a_cons x_str a_nil)))) (x_call o__law_next (hr.mono (by omega)) tk (a_cons (x_var 0) (a_cons x_int a_nil))))))
  (ss_one (s_ret (x_tup (a_cons (x_var 2) (a_cons (x_op op_addAll addX_ok (x_var 3) (x_lst (a_cons (x_op op_addAll addX_ok (x_callB call_len lenM_ok G.n_len rfl (a_cons (x_var 2) a_nil)) x_int) a_nil))) a_nil)))))))))
theorem sc__law_shown : FnScope ["_law_kind"] ["_law_kind"] (defScope (top 49)) := ⟨rfl, rfl, rfl, by decide +kernel, rfl, by decide +kernel, by decide +kernel⟩
def m__law_shown : SX := (sRet (eDGet2 (eDisp [((eC (.str "number")), (eC (.str "a number"))), ((eC (.str "end")), (eC (.str "the end")))]) (eVar 0) (eOp2 addM (eOp2 addM (eC (.str "\"")) (eVar 0)) (eC (.str "\"")))))
def F__law_shown : FF := mkFn true 1 1 m__law_shown
theorem ok__law_shown (G : Globs K mg) (F : FnP K "_law_shown" (top 49) f fd) (hm : mg "_law_shown" = some (.ref f))  : OkD P w K mg base 1 "_law_shown" F__law_shown ["_law_kind"] := by
  refine OkD.mk F hm (FunD.bindsN F fun _ _ _ _ _ _ us hl => match us, hl with | [_], _ => rfl) sc__law_shown rfl rfl fun cd A outer s H E hr => ?_
  have tk := takes_cx (P := P) (w := w) (K := K) (mg := mg) (base := base) (N := ["_law_kind"]) (qual := "_law_shown") (scope := defScope (top 49)) (f := f) (cd := cd) (A := A) (outer := outer) (s := s) (H := H) (E := E)
  have ow := owns_cx (P := P) (w := w) (K := K) (mg := mg) (base := base) (N := ["_law_kind"]) (qual := "_law_shown") (scope := defScope (top 49)) (f := f) (cd := cd) (A := A) (outer := outer) (s := s) (H := H) (E := E)
  exact (ss_one (s_ret (x_dget2 (u1 hr) (x_disp (ps := [((eC (.str "number")), (eC (.str "a number"))), ((eC (.str "end")), (eC (.str "the end")))]) (pps_cons x_str x_str (pps_cons x_str x_str pps_nil))) (x_var 0) (x_op op_addAll addM_ok (x_op op_addAll addM_ok x_str (x_var 0)) x_str) ⟨rfl, rfl, rfl, rfl⟩)))
theorem sc__law_kinds : FnScope [] [] (defScope (top 50)) := ⟨rfl, rfl, rfl, by decide +kernel, rfl, by decide +kernel, by decide +kernel⟩
def m__law_kinds : SX := (sRet (eLst (aCons (eC (.str "number")) (aCons (eC (.str ":")) (aCons (eC (.str ",")) (aCons (eC (.str ";")) (aCons (eC (.str "-")) (aCons (eC (.str "=")) (aCons (eC (.str "end")) aNil)))))))))
def F__law_kinds : FF := mkFn true 0 0 m__law_kinds
theorem ok__law_kinds (G : Globs K mg) (F : FnP K "_law_kinds" (top 50) f fd) (hm : mg "_law_kinds" = some (.ref f))  : OkD P w K mg base 1 "_law_kinds" F__law_kinds [] := by
  refine OkD.mk F hm (FunD.bindsN F fun _ _ _ _ _ _ us hl => match us, hl with | [], _ => rfl) sc__law_kinds rfl rfl fun cd A outer s H E hr => ?_
  have tk := takes_cx (P := P) (w := w) (K := K) (mg := mg) (base := base) (N := []) (qual := "_law_kinds") (scope := defScope (top 50)) (f := f) (cd := cd) (A := A) (outer := outer) (s := s) (H := H) (E := E)
  have ow := owns_cx (P := P) (w := w) (K := K) (mg := mg) (base := base) (N := []) (qual := "_law_kinds") (scope := defScope (top 50)) (f := f) (cd := cd) (A := A) (outer := outer) (s := s) (H := H) (E := E)
  exact (ss_one (s_ret (x_lst (a_cons x_str (a_cons x_str (a_cons x_str (a_cons x_str (a_cons x_str (a_cons x_str (a_cons x_str a_nil))))))))))
theorem sc__law_listed : FnScope ["_law_words"] ["_law_words"] (defScope (top 51)) := ⟨rfl, rfl, rfl, by decide +kernel, rfl, by decide +kernel, by decide +kernel⟩
def m__law_listed : SX := (sSeq (sIf (bVal (eOp2 (eqM false) (eCB lenM (aCons (eVar 0) aNil)) (eC (.int 1)))) (sRet (eOp2 idxM (eVar 0) (eC (.int 0)))) sSkip)
  (sRet (eOp2 addM (eOp2 addM (eJoin (eC (.str ", ")) (eCut (eVar 0) oNone (oSome (eOp1 negM (eC (.int 1)))))) (eC (.str " or "))) (eOp2 idxM (eVar 0) (eOp1 negM (eC (.int 1)))))))
def F__law_listed : FF := mkFn true 1 1 m__law_listed
theorem ok__law_listed (G : Globs K mg) (F : FnP K "_law_listed" (top 51) f fd) (hm : mg "_law_listed" = some (.ref f))  : OkD P w K mg base 1 "_law_listed" F__law_listed ["_law_words"] := by
  refine OkD.mk F hm (FunD.bindsN F fun _ _ _ _ _ _ us hl => match us, hl with | [_], _ => rfl) sc__law_listed rfl rfl fun cd A outer s H E hr => ?_
  have tk := takes_cx (P := P) (w := w) (K := K) (mg := mg) (base := base) (N := ["_law_words"]) (qual := "_law_listed") (scope := defScope (top 51)) (f := f) (cd := cd) (A := A) (outer := outer) (s := s) (H := H) (E := E)
  have ow := owns_cx (P := P) (w := w) (K := K) (mg := mg) (base := base) (N := ["_law_words"]) (qual := "_law_listed") (scope := defScope (top 51)) (f := f) (cd := cd) (A := A) (outer := outer) (s := s) (H := H) (E := E)
  exact (ss_cons (s_if (b_cmp (op_eqD hr.units) eqM_ok (x_callB call_len lenM_ok G.n_len rfl (a_cons (x_var 0) a_nil)) x_int) (ss_one (s_ret (x_ix (x_var 0) x_int))) ss_nil)
  (ss_one (s_ret (x_op op_addAll addM_ok (x_op op_addAll addM_ok (x_join x_str (x_cut (x_var 0) o_none (o_some (x_neg x_int)))) x_str) (x_ix (x_var 0) (x_neg x_int))))))
theorem sc__law_table_of : FnScope ["_law_kind", "_law_table"] ["_law_kind"] (defScope (top 52)) := ⟨rfl, rfl, rfl, by decide +kernel, rfl, by decide +kernel, by decide +kernel⟩
def m__law_table_of : SX := (sSeq (sIf (bVal (eOp2 (eqM false) (eVar 0) (eC (.str "tables")))) (sRet (eDisp [((eC (.str "")), (eDisp [((eC (.str "number")), (eC (.str "row"))), ((eC (.str "=")), (eC (.str "cost"))), ((eC (.str ";")), (eC (.str ""))), ((eC (.str "end")), (eC (.str "z")))])), ((eC (.str "row")), (eDisp [((eC (.str "number")), (eC (.str "row"))), ((eC (.str "=")), (eC (.str "cost")))])), ((eC (.str "cost")), (eDisp [((eC (.str "number")), (eC (.str "done")))])), ((eC (.str "done")), (eDisp [((eC (.str ",")), (eC (.str "row"))), ((eC (.str ";")), (eC (.str ""))), ((eC (.str "end")), (eC (.str "z")))]))])) sSkip)
  (sSeq (sSet 1 (eDisp [((eC (.str "")), (eDisp [((eC (.str "number")), (eC (.str "values")))])), ((eC (.str "values")), (eDisp [((eC (.str ":")), (eC (.str "scope")))])), ((eC (.str "scope")), (eDisp [((eC (.str "number")), (eC (.str "scope"))), ((eC (.str ",")), (eC (.str "scope"))), ((eC (.str ";")), (eC (.str "edges")))]))]))
  (sSeq (sSetKy (eVar 1) (eC (.str "edges")) (eDisp [((eC (.str "number")), (eC (.str "from"))), ((eC (.str "end")), (eC (.str "z")))]))
  (sSeq (sSetKy (eVar 1) (eC (.str "from")) (eDisp [((eC (.str "-")), (eC (.str "to")))]))
  (sSeq (sSetKy (eVar 1) (eC (.str "to")) (eDisp [((eC (.str "number")), (eC (.str "behind")))]))
  (sSeq (sSetKy (eVar 1) (eC (.str "behind")) (eDisp [((eC (.str ",")), (eC (.str "next"))), ((eC (.str "end")), (eC (.str "z")))]))
  (sSeq (sSetKy (eVar 1) (eC (.str "next")) (eDisp [((eC (.str "number")), (eC (.str "from")))]))
  (sRet (eVar 1)))))))))
def F__law_table_of : FF := mkFn false 1 2 m__law_table_of
theorem ok__law_table_of (G : Globs K mg) (F : FnP K "_law_table_of" (top 52) f fd) (hm : mg "_law_table_of" = some (.ref f))  : OkD P w K mg base 1 "_law_table_of" F__law_table_of ["_law_kind"] := by
  refine OkD.mk F hm (FunD.bindsN F fun _ _ _ _ _ _ us hl => match us, hl with | [_], _ => rfl) sc__law_table_of rfl rfl fun cd A outer s H E hr => ?_
  have tk := takes_cx (P := P) (w := w) (K := K) (mg := mg) (base := base) (N := ["_law_kind", "_law_table"]) (qual := "_law_table_of") (scope := defScope (top 52)) (f := f) (cd := cd) (A := A) (outer := outer) (s := s) (H := H) (E := E)
  have ow := owns_cx (P := P) (w := w) (K := K) (mg := mg) (base := base) (N := ["_law_kind", "_law_table"]) (qual := "_law_table_of") (scope := defScope (top 52)) (f := f) (cd := cd) (A := A) (outer := outer) (s := s) (H := H) (E := E)
  exact (ss_cons (s_if (b_cmp (op_eqD hr.units) eqM_ok (x_var 0) x_str) (ss_one (s_ret (x_disp (ps := [((eC (.str "")), (eDisp [((eC (.str "number")), (eC (.str "row"))), ((eC (.str "=")), (eC (.str "cost"))), ((eC (.str ";")), (eC (.str ""))), ((eC (.str "end")), (eC (.str "z")))])), ((eC (.str "row")), (eDisp [((eC (.str "number")), (eC (.str "row"))), ((eC (.str "=")), (eC (.str "cost")))])), ((eC (.str "cost")), (eDisp [((eC (.str "number")), (eC (.str "done")))])), ((eC (.str "done")), (eDisp [((eC (.str ",")), (eC (.str "row"))), ((eC (.str ";")), (eC (.str ""))), ((eC (.str "end")), (eC (.str "z")))]))]) (pps_cons x_str (x_disp (ps := [((eC (.str "number")), (eC (.str "row"))), ((eC (.str "=")), (eC (.str "cost"))), ((eC (.str ";")), (eC (.str ""))), ((eC (.str "end")), (eC (.str "z")))]) (pps_cons x_str x_str (pps_cons x_str x_str (pps_cons x_str x_str (pps_cons x_str x_str pps_nil))))) (pps_cons x_str (x_disp (ps := [((eC (.str "number")), (eC (.str "row"))), ((eC (.str "=")), (eC (.str "cost")))]) (pps_cons x_str x_str (pps_cons x_str x_str pps_nil))) (pps_cons x_str (x_disp (ps := [((eC (.str "number")), (eC (.str "done")))]) (pps_cons x_str x_str pps_nil)) (pps_cons x_str (x_disp (ps := [((eC (.str ",")), (eC (.str "row"))), ((eC (.str ";")), (eC (.str ""))), ((eC (.str "end")), (eC (.str "z")))]) (pps_cons x_str x_str (pps_cons x_str x_str (pps_cons x_str x_str pps_nil)))) pps_nil))))))) ss_nil)
  (ss_cons (s_set sc__law_table_of.nd rfl (by first | exact Or.inl rfl | exact Or.inr rfl) (x_disp (ps := [((eC (.str "")), (eDisp [((eC (.str "number")), (eC (.str "values")))])), ((eC (.str "values")), (eDisp [((eC (.str ":")), (eC (.str "scope")))])), ((eC (.str "scope")), (eDisp [((eC (.str "number")), (eC (.str "scope"))), ((eC (.str ",")), (eC (.str "scope"))), ((eC (.str ";")), (eC (.str "edges")))]))]) (pps_cons x_str (x_disp (ps := [((eC (.str "number")), (eC (.str "values")))]) (pps_cons x_str x_str pps_nil)) (pps_cons x_str (x_disp (ps := [((eC (.str ":")), (eC (.str "scope")))]) (pps_cons x_str x_str pps_nil)) (pps_cons x_str (x_disp (ps := [((eC (.str "number")), (eC (.str "scope"))), ((eC (.str ",")), (eC (.str "scope"))), ((eC (.str ";")), (eC (.str "edges")))]) (pps_cons x_str x_str (pps_cons x_str x_str (pps_cons x_str x_str pps_nil)))) pps_nil)))))
  (ss_cons (s_setKy (u1 hr) (x_disp (ps := [((eC (.str "number")), (eC (.str "from"))), ((eC (.str "end")), (eC (.str "z")))]) (pps_cons x_str x_str (pps_cons x_str x_str pps_nil))) (x_var 1) x_str)
  (ss_cons (s_setKy (u1 hr) (x_disp (ps := [((eC (.str "-")), (eC (.str "to")))]) (pps_cons x_str x_str pps_nil)) (x_var 1) x_str)
  (ss_cons (s_setKy (u1 hr) (x_disp (ps := [((eC (.str "number")), (eC (.str "behind")))]) (pps_cons x_str x_str pps_nil)) (x_var 1) x_str)
  (ss_cons (s_setKy (u1 hr) (x_disp (ps := [((eC (.str ",")), (eC (.str "next"))), ((eC (.str "end")), (eC (.str "z")))]) (pps_cons x_str x_str (pps_cons x_str x_str pps_nil))) (x_var 1) x_str)
  (ss_cons (s_setKy (u1 hr) (x_disp (ps := [((eC (.str "number")), (eC (.str "from")))]) (pps_cons x_str x_str pps_nil)) (x_var 1) x_str)
  (ss_one (s_ret (x_var 1))))))))))
def C1__law_due : EX W := eLc lcFin (iSeq (eCall0 F__law_kinds)) (.n 2) (bVal (eDIn false (eVar 2) (eDGet (eVar 0) (eVar 1)))) (eCall 1 F__law_shown (aCons (eVar 2) aNil)) [2]
theorem sc__law_due : FnScope ["_law_table", "_law_state", "_law_kind"] ["_law_table", "_law_state"] (defScope (top 53)) := ⟨rfl, rfl, rfl, by decide +kernel, rfl, by decide +kernel, by decide +kernel⟩
def m__law_due : SX := (sRet C1__law_due)
def F__law_due : FF := mkFn true 2 3 m__law_due
theorem ok__law_due (G : Globs K mg) (F : FnP K "_law_due" (top 53) f fd) (hm : mg "_law_due" = some (.ref f)) (o__law_kinds : OkD P w K mg base 1 "_law_kinds" F__law_kinds []) (o__law_shown : OkD P w K mg base 1 "_law_shown" F__law_shown ["_law_kind"]) : OkD P w K mg base 2 "_law_due" F__law_due ["_law_table", "_law_state"] := by
  refine OkD.mk F hm (FunD.bindsN F fun _ _ _ _ _ _ us hl => match us, hl with | [_, _], _ => rfl) sc__law_due rfl rfl fun cd A outer s H E hr => ?_
  have tk := takes_cx (P := P) (w := w) (K := K) (mg := mg) (base := base) (N := ["_law_table", "_law_state", "_law_kind"]) (qual := "_law_due") (scope := defScope (top 53)) (f := f) (cd := cd) (A := A) (outer := outer) (s := s) (H := H) (E := E)
  have ow := owns_cx (P := P) (w := w) (K := K) (mg := mg) (base := base) (N := ["_law_table", "_law_state", "_law_kind"]) (qual := "_law_due") (scope := defScope (top 53)) (f := f) (cd := cd) (A := A) (outer := outer) (s := s) (H := H) (E := E)
  exact (ss_one (s_ret (x_lc (own := [("_law_kind", 2)]) lcFin_ok rfl rfl sc__law_due.nd (i_seq (x_call0 o__law_kinds (hr.mono (by omega)) tk)) (blkOk_by (by kernel_rfl)) (fun _ _ _ _ _ => (g_name sc__law_due.nd rfl (by first | exact Or.inl rfl | exact Or.inr rfl))) (fun _ _ _ _ _ => (ts_one (b_din (u1 hr) (x_var 2) (x_dget (u1 hr) (x_var 0) (x_var 1))))) (fun _ _ _ _ _ => (x_call o__law_shown (hr.mono (by omega)) takes0 (a_cons (x_var 2) a_nil))))))
def L1__law_told : SX := (sSeq (sIf (bVal (eOp2 (eqM false) (eVar 2) (eC (.int 0)))) (sRet (eCall 2 F_next_tokens (aCons (eVar 0) (aCons (eVar 1) aNil)))) sSkip)
  (sIf (bVal (eOp2 (eqM false) (eVar 1) (eC (.str "graph")))) (sExpr (eCall 1 F_read_graph (aCons (eVar 0) aNil))) (sExpr (eCall 2 F_read_tables (aCons (eTup (aCons (eC (.int 2)) (aCons (eTup (aCons (eTup (aCons (eC (.int 0)) aNil)) (aCons (eTup (aCons (eC (.int 1)) aNil)) aNil))) (aCons (eTup aNil) aNil)))) (aCons (eVar 0) aNil))))))
theorem sc__law_told : FnScope ["_law_text", "_law_kind", "_law_which", "_law_problem"] ["_law_text", "_law_kind", "_law_which"] (defScope (top 54)) := ⟨rfl, rfl, rfl, by decide +kernel, rfl, by decide +kernel, by decide +kernel⟩
def m__law_told : SX := (sSeq (sTry 3 [("TextError", true)] (.tup [(.f "column"), (.f "words")]) L1__law_told)
  (sRet (eLst aNil)))
def F__law_told : FF := mkFn true 3 4 m__law_told
theorem ok__law_told (G : Globs K mg) (F : FnP K "_law_told" (top 54) f fd) (hm : mg "_law_told" = some (.ref f)) (o_next_tokens : OkD P w K mg base 9 "next_tokens" F_next_tokens ["text", "kind"]) (o_read_graph : OkD P w K mg base 7 "read_graph" F_read_graph ["text"]) (o_read_tables : OkD P w K mg base 9 "read_tables" F_read_tables ["graph", "text"]) : OkD P w K mg base 10 "_law_told" F__law_told ["_law_text", "_law_kind", "_law_which"] := by
  refine OkD.mk F hm (FunD.bindsN F fun _ _ _ _ _ _ us hl => match us, hl with | [_, _, _], _ => rfl) sc__law_told rfl rfl fun cd A outer s H E hr => ?_
  have tk := takes_cx (P := P) (w := w) (K := K) (mg := mg) (base := base) (N := ["_law_text", "_law_kind", "_law_which", "_law_problem"]) (qual := "_law_told") (scope := defScope (top 54)) (f := f) (cd := cd) (A := A) (outer := outer) (s := s) (H := H) (E := E)
  have ow := owns_cx (P := P) (w := w) (K := K) (mg := mg) (base := base) (N := ["_law_text", "_law_kind", "_law_which", "_law_problem"]) (qual := "_law_told") (scope := defScope (top 54)) (f := f) (cd := cd) (A := A) (outer := outer) (s := s) (H := H) (E := E)
  exact (ss_cons (s_try (i := 3) (tbl := [("TextError", true)]) (r := (.tup [(.f "column"), (.f "words")])) G.k_TextError (List.forall_mem_cons.mpr ⟨G.ex_TextError_TextError, fun _ h => nomatch h⟩) (List.forall_mem_cons.mpr ⟨fun _ => rfl, fun _ h => nomatch h⟩) sc__law_told.nd rfl tk (fun _ _ _ tk ow => (ss_cons (s_if (b_cmp (op_eqD hr.units) eqM_ok (x_var 2) x_int) (ss_one (s_ret (x_call o_next_tokens (hr.mono (by omega)) tk (a_cons (x_var 0) (a_cons (x_var 1) a_nil))))) ss_nil)
  (ss_one (s_if (b_cmp (op_eqD hr.units) eqM_ok (x_var 1) x_str) (ss_one (s_expr (x_call o_read_graph (hr.mono (by omega)) tk (a_cons (x_var 0) a_nil)))) (ss_one (s_expr (x_call o_read_tables (hr.mono (by omega)) tk (a_cons (x_tup (a_cons x_int (a_cons (x_tup (a_cons (x_tup (a_cons x_int a_nil)) (a_cons (x_tup (a_cons x_int a_nil)) a_nil))) (a_cons (x_tup a_nil) a_nil)))) (a_cons (x_var 0) a_nil))))))))) (fun _ _ _ _ _ hz hf => (su_tup (by rfl) (xps_cons (xp_fld G.xf_TextError G.na_TextError_column hz hf (pv 3)) (xps_cons (xp_fld G.xf_TextError G.na_TextError_words hz hf (pv 3)) xps_nil)))))
  (ss_one (s_ret (x_lst a_nil))))
theorem sc__law_token : FnScope ["_law_stream_here", "_law_kind"] ["_law_stream_here", "_law_kind"] (defScope (top 55)) := ⟨rfl, rfl, rfl, by decide +kernel, rfl, by decide +kernel, by decide +kernel⟩
def m__law_token : SX := (sRet (eIf (bVal (eOp2 (eqM false) (eVar 1) (eC (.str "number")))) (eCall 2 F__law_pick (aCons (eVar 0) (aCons (eLst (aCons (eC (.str "0")) (aCons (eC (.str "1")) (aCons (eC (.str "3")) (aCons (eC (.str "9")) (aCons (eC (.str "000002")) aNil)))))) aNil))) (eVar 1)))
def F__law_token : FF := mkFn true 2 2 m__law_token
theorem ok__law_token (G : Globs K mg) (F : FnP K "_law_token" (top 55) f fd) (hm : mg "_law_token" = some (.ref f)) (o__law_pick : OkD P w K mg base 2 "_law_pick" F__law_pick ["_law_stream_here", "_law_rows"]) : OkD P w K mg base 3 "_law_token" F__law_token ["_law_stream_here", "_law_kind"] := by
  refine OkD.mk F hm (FunD.bindsN F fun _ _ _ _ _ _ us hl => match us, hl with | [_, _], _ => rfl) sc__law_token rfl rfl fun cd A outer s H E hr => ?_
  have tk := takes_cx (P := P) (w := w) (K := K) (mg := mg) (base := base) (N := ["_law_stream_here", "_law_kind"]) (qual := "_law_token") (scope := defScope (top 55)) (f := f) (cd := cd) (A := A) (outer := outer) (s := s) (H := H) (E := E)
  have ow := owns_cx (P := P) (w := w) (K := K) (mg := mg) (base := base) (N := ["_law_stream_here", "_law_kind"]) (qual := "_law_token") (scope := defScope (top 55)) (f := f) (cd := cd) (A := A) (outer := outer) (s := s) (H := H) (E := E)
  exact (ss_one (s_ret (x_if (b_cmp (op_eqD hr.units) eqM_ok (x_var 1) x_str) (x_call o__law_pick (hr.mono (by omega)) tk (a_cons (x_var 0) (a_cons (x_lst (a_cons x_str (a_cons x_str (a_cons x_str (a_cons x_str (a_cons x_str a_nil)))))) a_nil))) (x_var 1))))
theorem sc__law_is_right : FnScope ["_law_stream_here", "_law_table", "_law_kind", "_law_words", "_law_state", "_law_text", "_law_places", "_law_due_here", "_law_told_here"] ["_law_stream_here", "_law_table", "_law_kind", "_law_words", "_law_state"] (defScope (top 56)) := ⟨rfl, rfl, rfl, by decide +kernel, rfl, by decide +kernel, by decide +kernel⟩
def m__law_is_right : SX := (sSeq (sPut (.t [(.n 5), (.n 6)]) (eCall 2 F__law_laid (aCons (eVar 0) (aCons (eVar 3) aNil))))
  (sSeq (sSet 7 (eCall 2 F__law_due (aCons (eVar 1) (aCons (eVar 4) aNil))))
  (sSeq (sIf (bNot (bTru (eCall 2 (F__law_equal 5) (aCons (eCall 3 F__law_told (aCons (eVar 5) (aCons (eVar 2) (aCons (eC (.int 0)) aNil)))) (aCons (eVar 7) aNil))))) (sRet (eC (.bool false))) sSkip)
  (sSeq (sSet 8 (eCall 3 F__law_told (aCons (eVar 5) (aCons (eVar 2) (aCons (eC (.int 1)) aNil)))))
  (sSeq (sIf (bVal (eOp2 inX (eC (.str "the end")) (eVar 7))) (sRet (eOr (eOp1 (isiM "list") (eVar 8)) (eOp2 (eqM true) (eCut (eOp2 idxM (eVar 8) (eC (.int 1))) oNone (oSome (eC (.int 9)))) (eC (.str "expected "))))) sSkip)
  (sRet (eCall 2 (F__law_equal 5) (aCons (eVar 8) (aCons (eTup (aCons (eOp2 idxM (eVar 6) (eOp1 negM (eC (.int 1)))) (aCons (eOp2 addX (eC (.str "expected ")) (eCall 1 F__law_listed (aCons (eVar 7) aNil))) aNil))) aNil)))))))))
def F__law_is_right : FF := mkFn true 5 9 m__law_is_right
theorem ok__law_is_right (G : Globs K mg) (F : FnP K "_law_is_right" (top 56) f fd) (hm : mg "_law_is_right" = some (.ref f)) (o__law_laid : OkD P w K mg base 2 "_law_laid" F__law_laid ["_law_stream_here", "_law_words"]) (o__law_due : OkD P w K mg base 2 "_law_due" F__law_due ["_law_table", "_law_state"]) (o__law_equal : OkD P w K mg base 7 "_law_equal" (F__law_equal 5) ["_law_actual", "_law_due_here"]) (o__law_told : OkD P w K mg base 10 "_law_told" F__law_told ["_law_text", "_law_kind", "_law_which"]) (o__law_listed : OkD P w K mg base 1 "_law_listed" F__law_listed ["_law_words"]) : OkD P w K mg base 11 "_law_is_right" F__law_is_right ["_law_stream_here", "_law_table", "_law_kind", "_law_words", "_law_state"] := by
  refine OkD.mk F hm (FunD.bindsN F fun _ _ _ _ _ _ us hl => match us, hl with | [_, _, _, _, _], _ => rfl) sc__law_is_right rfl rfl fun cd A outer s H E hr => ?_
  have tk := takes_cx (P := P) (w := w) (K := K) (mg := mg) (base := base) (N := ["_law_stream_here", "_law_table", "_law_kind", "_law_words", "_law_state", "_law_text", "_law_places", "_law_due_here", "_law_told_here"]) (qual := "_law_is_right") (scope := defScope (top 56)) (f := f) (cd := cd) (A := A) (outer := outer) (s := s) (H := H) (E := E)
  have ow := owns_cx (P := P) (w := w) (K := K) (mg := mg) (base := base) (N := ["_law_stream_here", "_law_table", "_law_kind", "_law_words", "_law_state", "_law_text", "_law_places", "_law_due_here", "_law_told_here"]) (qual := "_law_is_right") (scope := defScope (top 56)) (f := f) (cd := cd) (A := A) (outer := outer) (s := s) (H := H) (E := E)
  exact (ss_cons (s_put (x_call o__law_laid (hr.mono (by omega)) tk (a_cons (x_var 0) (a_cons (x_var 3) a_nil))) (g_tup rfl (g_cons (g_name sc__law_is_right.nd rfl (by first | exact Or.inl rfl | exact Or.inr rfl)) (g_cons (g_name sc__law_is_right.nd rfl (by first | exact Or.inl rfl | exact Or.inr rfl)) g_nil))))
  (ss_cons (s_set sc__law_is_right.nd rfl (by first | exact Or.inl rfl | exact Or.inr rfl) (x_call o__law_due (hr.mono (by omega)) tk (a_cons (x_var 1) (a_cons (x_var 4) a_nil))))
  (ss_cons (s_if (b_not (b_tru (x_call o__law_equal (hr.mono (by omega)) tk (a_cons (x_call o__law_told (hr.mono (by omega)) tk (a_cons (x_var 5) (a_cons (x_var 2) (a_cons x_int a_nil)))) (a_cons (x_var 7) a_nil))))) (ss_one (s_ret x_bl)) ss_nil)
  (ss_cons (s_set sc__law_is_right.nd rfl (by first | exact Or.inl rfl | exact Or.inr rfl) (x_call o__law_told (hr.mono (by omega)) tk (a_cons (x_var 5) (a_cons (x_var 2) (a_cons x_int a_nil)))))
  (ss_cons (s_if (b_cmp (op_inX (u65 hr)) inX_ok x_str (x_var 7)) (ss_one (s_ret (x_or (x_isi (by decide) G.n_isinstance G.n_list rfl (x_var 8)) (x_one (x_cmp (op_neD hr.units) neM_ok (x_cut (x_ix (x_var 8) x_int) o_none (o_some x_int)) x_str))))) ss_nil)
  (ss_one (s_ret (x_call o__law_equal (hr.mono (by omega)) tk (a_cons (x_var 8) (a_cons (x_tup (a_cons (x_ix (x_var 6) (x_neg x_int)) (a_cons (x_op op_addAll addX_ok x_str (x_call o__law_listed (hr.mono (by omega)) tk (a_cons (x_var 7) a_nil))) a_nil))) a_nil))))))))))
theorem sc__law_goes_on : FnScope ["_law_stream_here", "_law_table", "_law_kind", "_law_words", "_law_state", "_law_word", "_law_token_here", "_law_text", "_law_places", "_law_due_here", "_law_told_here", "_law_problem", "_law_strange"] ["_law_stream_here", "_law_table", "_law_kind", "_law_words", "_law_state"] (defScope (top 57)) := ⟨rfl, rfl, rfl, by decide +kernel, rfl, by decide +kernel, by decide +kernel⟩
def m__law_goes_on : SX := (sSeq (sSet 5 (eOp2 idxM (eCall0 F__law_kinds) (eCall 2 F__law_next (aCons (eVar 0) (aCons (eC (.int 6)) aNil)))))
  (sSeq (sSet 6 (eCall 2 F__law_token (aCons (eVar 0) (aCons (eVar 5) aNil))))
  (sSeq (sPut (.t [(.n 7), (.n 8)]) (eCall 2 F__law_laid (aCons (eVar 0) (aCons (eOp2 addX (eVar 3) (eLst (aCons (eVar 6) aNil))) aNil))))
  (sSeq (sSet 9 (eCall 2 F__law_due (aCons (eVar 1) (aCons (eVar 4) aNil))))
  (sSeq (sSet 10 (eCall 3 F__law_told (aCons (eVar 7) (aCons (eVar 2) (aCons (eC (.int 0)) aNil)))))
  (sSeq (sIf (bVal (eDIn false (eVar 5) (eDGet (eVar 1) (eVar 4)))) (sRet (eCall 2 (F__law_equal 5) (aCons (eVar 10) (aCons (eCall 2 F__law_due (aCons (eVar 1) (aCons (eDGet (eDGet (eVar 1) (eVar 4)) (eVar 5)) aNil))) aNil)))) sSkip)
  (sSeq (sSet 11 (eTup (aCons (eOp2 idxM (eVar 8) (eCB lenM (aCons (eVar 3) aNil))) (aCons (eOp2 addX (eC (.str "expected ")) (eCall 1 F__law_listed (aCons (eVar 9) aNil))) aNil))))
  (sSeq (sIf (bNot (bTru (eCall 2 (F__law_equal 5) (aCons (eLst (aCons (eVar 10) (aCons (eCall 3 F__law_told (aCons (eVar 7) (aCons (eVar 2) (aCons (eC (.int 1)) aNil)))) aNil))) (aCons (eOp2 repM (eLst (aCons (eVar 11) aNil)) (eC (.int 2))) aNil))))) (sRet (eC (.bool false))) sSkip)
  (sSeq (sPut (.t [(.n 7), (.n 8)]) (eCall 2 F__law_laid (aCons (eVar 0) (aCons (eOp2 addX (eVar 3) (eLst (aCons (eVar 6) (aCons (eCall 2 F__law_token (aCons (eVar 0) (aCons (eOp2 idxM (eCall0 F__law_kinds) (eCall 2 F__law_next (aCons (eVar 0) (aCons (eC (.int 6)) aNil)))) aNil))) aNil)))) aNil))))
  (sSeq (sSet 11 (eTup (aCons (eOp2 idxM (eVar 8) (eCB lenM (aCons (eVar 3) aNil))) (aCons (eOp2 addX (eC (.str "expected ")) (eCall 1 F__law_listed (aCons (eVar 9) aNil))) aNil))))
  (sSeq (sIf (bNot (bTru (eCall 2 (F__law_equal 5) (aCons (eLst (aCons (eCall 3 F__law_told (aCons (eVar 7) (aCons (eVar 2) (aCons (eC (.int 0)) aNil)))) (aCons (eCall 3 F__law_told (aCons (eVar 7) (aCons (eVar 2) (aCons (eC (.int 1)) aNil)))) aNil))) (aCons (eOp2 repM (eLst (aCons (eVar 11) aNil)) (eC (.int 2))) aNil))))) (sRet (eC (.bool false))) sSkip)
  (sSeq (sPut (.t [(.n 12), (.n 10)]) (eCall 2 F__law_pick (aCons (eVar 0) (aCons (eLst (aCons (eTup (aCons (eC (.str "A")) (aCons (eC (.str "no token begins here")) aNil))) (aCons (eTup (aCons (eC (.str "1234567")) (aCons (eC (.str "a number has at most 6 digits")) aNil))) aNil))) aNil))))
  (sSeq (sPut (.t [(.n 7), (.n 8)]) (eCall 2 F__law_laid (aCons (eVar 0) (aCons (eOp2 addX (eVar 3) (eLst (aCons (eVar 6) (aCons (eVar 12) aNil)))) aNil))))
  (sRet (eCall 2 (F__law_equal 5) (aCons (eLst (aCons (eCall 3 F__law_told (aCons (eVar 7) (aCons (eVar 2) (aCons (eC (.int 0)) aNil)))) (aCons (eCall 3 F__law_told (aCons (eVar 7) (aCons (eVar 2) (aCons (eC (.int 1)) aNil)))) aNil))) (aCons (eOp2 repM (eLst (aCons (eTup (aCons (eOp2 idxM (eVar 8) (eOp2 addX (eCB lenM (aCons (eVar 3) aNil)) (eC (.int 1)))) (aCons (eVar 10) aNil))) aNil)) (eC (.int 2))) aNil)))))))))))))))))
def F__law_goes_on : FF := mkFn true 5 13 m__law_goes_on
theorem ok__law_goes_on (G : Globs K mg) (F : FnP K "_law_goes_on" (top 57) f fd) (hm : mg "_law_goes_on" = some (.ref f)) (o__law_kinds : OkD P w K mg base 1 "_law_kinds" F__law_kinds []) (o__law_next : OkD P w K mg base 1 "_law_next" F__law_next ["_law_stream_here", "_law_many"]) (o__law_token : OkD P w K mg base 3 "_law_token" F__law_token ["_law_stream_here", "_law_kind"]) (o__law_laid : OkD P w K mg base 2 "_law_laid" F__law_laid ["_law_stream_here", "_law_words"]) (o__law_due : OkD P w K mg base 2 "_law_due" F__law_due ["_law_table", "_law_state"]) (o__law_told : OkD P w K mg base 10 "_law_told" F__law_told ["_law_text", "_law_kind", "_law_which"]) (o__law_equal : OkD P w K mg base 7 "_law_equal" (F__law_equal 5) ["_law_actual", "_law_due_here"]) (o__law_listed : OkD P w K mg base 1 "_law_listed" F__law_listed ["_law_words"]) (o__law_pick : OkD P w K mg base 2 "_law_pick" F__law_pick ["_law_stream_here", "_law_rows"]) : OkD P w K mg base 11 "_law_goes_on" F__law_goes_on ["_law_stream_here", "_law_table", "_law_kind", "_law_words", "_law_state"] := by
  refine OkD.mk F hm (FunD.bindsN F fun _ _ _ _ _ _ us hl => match us, hl with | [_, _, _, _, _], _ => rfl) sc__law_goes_on rfl rfl fun cd A outer s H E hr => ?_
  have tk := takes_cx (P := P) (w := w) (K := K) (mg := mg) (base := base) (N := ["_law_stream_here", "_law_table", "_law_kind", "_law_words", "_law_state", "_law_word", "_law_token_here", "_law_text", "_law_places", "_law_due_here", "_law_told_here", "_law_problem", "_law_strange"]) (qual := "_law_goes_on") (scope := defScope (top 57)) (f := f) (cd := cd) (A := A) (outer := outer) (s := s) (H := H) (E := E)
  have ow := owns_cx (P := P) (w := w) (K := K) (mg := mg) (base := base) (N := ["_law_stream_here", "_law_table", "_law_kind", "_law_words", "_law_state", "_law_word", "_law_token_here", "_law_text", "_law_places", "_law_due_here", "_law_told_here", "_law_problem", "_law_strange"]) (qual := "_law_goes_on") (scope := defScope (top 57)) (f := f) (cd := cd) (A := A) (outer := outer) (s := s) (H := H) (E := E)
  exact (ss_cons (s_set sc__law_goes_on.nd rfl (by first | exact Or.inl rfl | exact Or.inr rfl) (x_ix (x_call0 o__law_kinds (hr.mono (by omega)) tk) (x_call o__law_next (hr.mono (by omega)) tk (a_cons (x_var 0) (a_cons x_int a_nil)))))
  (ss_cons (s_set sc__law_goes_on.nd rfl (by first | exact Or.inl rfl | exact Or.inr rfl) (x_call o__law_token (hr.mono (by omega)) tk (a_cons (x_var 0) (a_cons (x_var 5) a_nil))))
  (ss_cons (s_put (x_call o__law_laid (hr.mono (by omega)) tk (a_cons (x_var 0) (a_cons (x_op op_addAll addX_ok (x_var 3) (x_lst (a_cons (x_var 6) a_nil))) a_nil))) (g_tup rfl (g_cons (g_name sc__law_goes_on.nd rfl (by first | exact Or.inl rfl | exact Or.inr rfl)) (g_cons (g_name sc__law_goes_on.nd rfl (by first | exact Or.inl rfl | exact Or.inr rfl)) g_nil))))
  (ss_cons (s_set sc__law_goes_on.nd rfl (by first | exact Or.inl rfl | exact Or.inr rfl) (x_call o__law_due (hr.mono (by omega)) tk (a_cons (x_var 1) (a_cons (x_var 4) a_nil))))
  (ss_cons (s_set sc__law_goes_on.nd rfl (by first | exact Or.inl rfl | exact Or.inr rfl) (x_call o__law_told (hr.mono (by omega)) tk (a_cons (x_var 7) (a_cons (x_var 2) (a_cons x_int a_nil)))))
  (ss_cons (s_if (b_din (u1 hr) (x_var 5) (x_dget (u1 hr) (x_var 1) (x_var 4))) (ss_one (s_ret (x_call o__law_equal (hr.mono (by omega)) tk (a_cons (x_var 10) (a_cons (x_call o__law_due (hr.mono (by omega)) tk (a_cons (x_var 1) (a_cons (x_dget (u1 hr) (x_dget (u1 hr) (x_var 1) (x_var 4)) (x_var 5)) a_nil))) a_nil))))) ss_nil)
  (ss_cons (s_set sc__law_goes_on.nd rfl (by first | exact Or.inl rfl | exact Or.inr rfl) (x_tup (a_cons (x_ix (x_var 8) (x_callB call_len lenM_ok G.n_len rfl (a_cons (x_var 3) a_nil))) (a_cons (x_op op_addAll addX_ok x_str (x_call o__law_listed (hr.mono (by omega)) tk (a_cons (x_var 9) a_nil))) a_nil))))
  (ss_cons (s_if (b_not (b_tru (x_call o__law_equal (hr.mono (by omega)) tk (a_cons (x_lst (a_cons (x_var 10) (a_cons (x_call o__law_told (hr.mono (by omega)) tk (a_cons (x_var 7) (a_cons (x_var 2) (a_cons x_int a_nil)))) a_nil))) (a_cons (x_op op_repAny repM_ok (x_lst (a_cons (x_var 11) a_nil)) x_int) a_nil))))) (ss_one (s_ret x_bl)) ss_nil)
  (ss_cons (s_put (x_call o__law_laid (hr.mono (by omega)) tk (a_cons (x_var 0) (a_cons (x_op op_addAll addX_ok (x_var 3) (x_lst (a_cons (x_var 6) (a_cons (x_call o__law_token (hr.mono (by omega)) tk (a_cons (x_var 0) (a_cons (x_ix (x_call0 o__law_kinds (hr.mono (by omega)) tk) (x_call o__law_next (hr.mono (by omega)) tk (a_cons (x_var 0) (a_cons x_int a_nil)))) a_nil))) a_nil)))) a_nil))) (g_tup rfl (g_cons (g_name sc__law_goes_on.nd rfl (by first | exact Or.inl rfl | exact Or.inr rfl)) (g_cons (g_name sc__law_goes_on.nd rfl (by first | exact Or.inl rfl | exact Or.inr rfl)) g_nil))))
  (ss_cons (s_set sc__law_goes_on.nd rfl (by first | exact Or.inl rfl | exact Or.inr rfl) (x_tup (a_cons (x_ix (x_var 8) (x_callB call_len lenM_ok G.n_len rfl (a_cons (x_var 3) a_nil))) (a_cons (x_op op_addAll addX_ok x_str (x_call o__law_listed (hr.mono (by omega)) tk (a_cons (x_var 9) a_nil))) a_nil))))
  (ss_cons (s_if (b_not (b_tru (x_call o__law_equal (hr.mono (by omega)) tk (a_cons (x_lst (a_cons (x_call o__law_told (hr.mono (by omega)) tk (a_cons (x_var 7) (a_cons (x_var 2) (a_cons x_int a_nil)))) (a_cons (x_call o__law_told (hr.mono (by omega)) tk (a_cons (x_var 7) (a_cons (x_var 2) (a_cons x_int a_nil)))) a_nil))) (a_cons (x_op op_repAny repM_ok (x_lst (a_cons (x_var 11) a_nil)) x_int) a_nil))))) (ss_one (s_ret x_bl)) ss_nil)
  (ss_cons (s_put (x_call o__law_pick (hr.mono (by omega)) tk (a_cons (x_var 0) (a_cons (x_lst (a_cons (x_tup (a_cons x_str (a_cons x_str a_nil))) (a_cons (x_tup (a_cons x_str (a_cons x_str a_nil))) a_nil))) a_nil))) (g_tup rfl (g_cons (g_name sc__law_goes_on.nd rfl (by first | exact Or.inl rfl | exact Or.inr rfl)) (g_cons (g_name sc__law_goes_on.nd rfl (by first | exact Or.inl rfl | exact Or.inr rfl)) g_nil))))
  (ss_cons (s_put (x_call o__law_laid (hr.mono (by omega)) tk (a_cons (x_var 0) (a_cons (x_op op_addAll addX_ok (x_var 3) (x_lst (a_cons (x_var 6) (a_cons (x_var 12) a_nil)))) a_nil))) (g_tup rfl (g_cons (g_name sc__law_goes_on.nd rfl (by first | exact Or.inl rfl | exact Or.inr rfl)) (g_cons (g_name sc__law_goes_on.nd rfl (by first | exact Or.inl rfl | exact Or.inr rfl)) g_nil))))
  (ss_one (s_ret (x_call o__law_equal (hr.mono (by omega)) tk (a_cons (x_lst (a_cons (x_call o__law_told (hr.mono (by omega)) tk (a_cons (x_var 7) (a_cons (x_var 2) (a_cons x_int a_nil)))) (a_cons (x_call o__law_told (hr.mono (by omega)) tk (a_cons (x_var 7) (a_cons (x_var 2) (a_cons x_int a_nil)))) a_nil))) (a_cons (x_op op_repAny repM_ok (x_lst (a_cons (x_tup (a_cons (x_ix (x_var 8) (x_op op_addAll addX_ok (x_callB call_len lenM_ok G.n_len rfl (a_cons (x_var 3) a_nil)) x_int)) (a_cons (x_var 10) a_nil))) a_nil)) x_int) a_nil))))))))))))))))))
def C1_law : EX W := eLc lcFin (iSeq (eCall0 F__law_kinds)) (.n 8) (bAnd (bVal (eDIn false (eVar 8) (eDGet (eVar 3) (eVar 4)))) (bVal (eOp2 (eqM true) (eVar 8) (eC (.str "end"))))) (eVar 8) [8]
def L1_law : SX := sTidy [6, 7, 8] (sSeq (sIf (bNot (bTru (eCall 5 F__law_is_right (aCons (eVar 1) (aCons (eVar 3) (aCons (eVar 2) (aCons (eVar 5) (aCons (eVar 4) aNil)))))))) (sRet (eC (.bool false))) sSkip)
  (sSeq (sSet 7 (eCall 2 F__law_pick (aCons (eVar 1) (aCons C1_law aNil))))
  (sSeq (sExpr (eLM appendM (eVar 5) (aCons (eCall 2 F__law_token (aCons (eVar 1) (aCons (eVar 7) aNil))) aNil)))
  (sSet 4 (eDGet (eDGet (eVar 3) (eVar 4)) (eVar 7))))))
theorem sc_law : FnScope ["_law_script", "_law_stream_here", "_law_kind", "_law_table", "_law_state", "_law_words", "_law_turn", "_law_word", "_law_one"] ["_law_script"] (defScope (top 58)) := ⟨rfl, rfl, rfl, by decide +kernel, rfl, by decide +kernel, by decide +kernel⟩
def m_law : SX := (sSeq (sSet 1 (eCall 1 F__law_stream (aCons (eVar 0) aNil)))
  (sSeq (sSet 2 (eCall 2 F__law_pick (aCons (eVar 1) (aCons (eLst (aCons (eC (.str "graph")) (aCons (eC (.str "tables")) aNil))) aNil))))
  (sSeq (sSet 3 (eCall 1 F__law_table_of (aCons (eVar 2) aNil)))
  (sSeq (sSet 4 (eC (.str "")))
  (sSeq (sSet 5 (eLstL aNil))
  (sSeq (sFor (iRg1 (eCall 2 F__law_next (aCons (eVar 1) (aCons (eC (.int 21)) aNil)))) (.n 6) L1_law)
  (sRet (eAnd (eCall 5 F__law_is_right (aCons (eVar 1) (aCons (eVar 3) (aCons (eVar 2) (aCons (eVar 5) (aCons (eVar 4) aNil)))))) (eCall 5 F__law_goes_on (aCons (eVar 1) (aCons (eVar 3) (aCons (eVar 2) (aCons (eVar 5) (aCons (eVar 4) aNil))))))))))))))
def F_law : FF := mkFn true 1 9 m_law
theorem ok_law (G : Globs K mg) (F : FnP K "law" (top 58) f fd) (o__law_stream : OkD P w K mg base 1 "_law_stream" F__law_stream ["_law_script"]) (o__law_pick : OkD P w K mg base 2 "_law_pick" F__law_pick ["_law_stream_here", "_law_rows"]) (o__law_table_of : OkD P w K mg base 1 "_law_table_of" F__law_table_of ["_law_kind"]) (o__law_next : OkD P w K mg base 1 "_law_next" F__law_next ["_law_stream_here", "_law_many"]) (o__law_is_right : OkD P w K mg base 11 "_law_is_right" F__law_is_right ["_law_stream_here", "_law_table", "_law_kind", "_law_words", "_law_state"]) (o__law_kinds : OkD P w K mg base 1 "_law_kinds" F__law_kinds []) (o__law_token : OkD P w K mg base 3 "_law_token" F__law_token ["_law_stream_here", "_law_kind"]) (o__law_goes_on : OkD P w K mg base 11 "_law_goes_on" F__law_goes_on ["_law_stream_here", "_law_table", "_law_kind", "_law_words", "_law_state"]) : FnOk P w K mg base (L2.CX P w) 12 f fd ["_law_script"] (SpF K F_law 1) := by
  refine fn_mk F sc_law rfl rfl fun cd A outer s H E hr => ?_
  have tk := takes_cx (P := P) (w := w) (K := K) (mg := mg) (base := base) (N := ["_law_script", "_law_stream_here", "_law_kind", "_law_table", "_law_state", "_law_words", "_law_turn", "_law_word", "_law_one"]) (qual := "law") (scope := defScope (top 58)) (f := f) (cd := cd) (A := A) (outer := outer) (s := s) (H := H) (E := E)
  have ow := owns_cx (P := P) (w := w) (K := K) (mg := mg) (base := base) (N := ["_law_script", "_law_stream_here", "_law_kind", "_law_table", "_law_state", "_law_words", "_law_turn", "_law_word", "_law_one"]) (qual := "law") (scope := defScope (top 58)) (f := f) (cd := cd) (A := A) (outer := outer) (s := s) (H := H) (E := E)
  exact (ss_cons (s_set sc_law.nd rfl (by first | exact Or.inl rfl | exact Or.inr rfl) (x_call o__law_stream (hr.mono (by omega)) tk (a_cons (x_var 0) a_nil)))
  (ss_cons (s_set sc_law.nd rfl (by first | exact Or.inl rfl | exact Or.inr rfl) (x_call o__law_pick (hr.mono (by omega)) tk (a_cons (x_var 1) (a_cons (x_lst (a_cons x_str (a_cons x_str a_nil))) a_nil))))
  (ss_cons (s_set sc_law.nd rfl (by first | exact Or.inl rfl | exact Or.inr rfl) (x_call o__law_table_of (hr.mono (by omega)) tk (a_cons (x_var 2) a_nil)))
  (ss_cons (s_set sc_law.nd rfl (by first | exact Or.inl rfl | exact Or.inr rfl) x_str)
  (ss_cons (s_set sc_law.nd rfl (by first | exact Or.inl rfl | exact Or.inr rfl) (x_lstL a_nil))
  (ss_cons (s_for ow rfl (i_rg1 G.n_range (x_call o__law_next (hr.mono (by omega)) tk (a_cons (x_var 1) (a_cons x_int a_nil)))) (g_name sc_law.nd rfl (by first | exact Or.inl rfl | exact Or.inr rfl)) (ss_tidy [6, 7, 8] (ss_cons (s_if (b_not (b_tru (x_call o__law_is_right (hr.mono (by omega)) tk (a_cons (x_var 1) (a_cons (x_var 3) (a_cons (x_var 2) (a_cons (x_var 5) (a_cons (x_var 4) a_nil)))))))) (ss_one (s_ret x_bl)) ss_nil)
  (ss_cons (s_set sc_law.nd rfl (by first | exact Or.inl rfl | exact Or.inr rfl) (x_call o__law_pick (hr.mono (by omega)) tk (a_cons (x_var 1) (a_cons (x_lc (own := [("_law_one", 8)]) lcFin_ok rfl rfl sc_law.nd (i_seq (x_call0 o__law_kinds (hr.mono (by omega)) tk)) (blkOk_by (by kernel_rfl)) (fun _ _ _ _ _ => (g_name sc_law.nd rfl (by first | exact Or.inl rfl | exact Or.inr rfl))) (fun _ _ _ _ _ => (ts_one (PW.pt (b_and (b_din (u1 hr) (x_var 8) (x_dget (u1 hr) (x_var 3) (x_var 4))) (b_and1 (b_cmp (op_neD hr.units) neM_ok (x_var 8) x_str)))))) (fun _ _ _ _ _ => (x_var 8))) a_nil))))
  (ss_cons (s_expr (x_lm PySem.F.slot_list_append PySem.F.type_list_append mt_append appendM_ok (x_var 5) (a_cons (x_call o__law_token (hr.mono (by omega)) tk (a_cons (x_var 1) (a_cons (x_var 7) a_nil))) a_nil)))
  (ss_one (s_set sc_law.nd rfl (by first | exact Or.inl rfl | exact Or.inr rfl) (x_dget (u1 hr) (x_dget (u1 hr) (x_var 3) (x_var 4)) (x_var 7)))))))))
  (ss_one (s_ret (x_and (x_call o__law_is_right (hr.mono (by omega)) tk (a_cons (x_var 1) (a_cons (x_var 3) (a_cons (x_var 2) (a_cons (x_var 5) (a_cons (x_var 4) a_nil)))))) (x_one (x_call o__law_goes_on (hr.mono (by omega)) tk (a_cons (x_var 1) (a_cons (x_var 3) (a_cons (x_var 2) (a_cons (x_var 5) (a_cons (x_var 4) a_nil))))))))))))))))
end
end Mir.K68

namespace Mir.K68
open PySem PySem.Spec PyProof.Rows L2
@[simp] theorem o_leX {m : Hm} (i j : Int) : leX (.p (.int i)) (.p (.int j)) m = .ok (.p (.bool (decide (i ≤ j)))) m := rfl
@[simp] theorem o_intX {m : Hm} (i : Int) : intX [.p (.int i)] m = .ok (.p (.int i)) m := rfl
@[simp] theorem o_intXb {m : Hm} (b : Bool) : intX [.p (.bool b)] m = .ok (.p (.int (if b = true then 1 else 0))) m := rfl
def isW (d : PyData) (lo hi : Int) : Bool := match d with
  | .int i => decide (lo ≤ i) && decide (i ≤ hi)
  | _ => false
def nd : PyData → Bool
  | .dict _ => false
  | _ => true
theorem q_is_whole (d : PyData) (lo hi : Int) (m : Hm) (h : nd d = true) : F_is_whole [.p d, .p (.int lo), .p (.int hi)] m = .ok (.p (.bool (isW d lo hi))) m := by
  unfold F_is_whole mkFn m_is_whole
  cases d with
  | int i =>
    by_cases h1 : lo ≤ i <;> by_cases h2 : i ≤ hi <;> simp [startE, isiM, tyN, isiA, isW, h1, h2, endFn_p]
  | dict => cases h
  | _ => simp [startE, isiM, tyN, isiA, isW, endFn_p]
theorem all_true {m : Hm} {α : Type} (xs : List α) : allM true [.p (.list (xs.map fun _ => .bool true))] m = .ok (.p (.bool true)) m := by
  have := o_all (m := m) (xs.map fun _ => true)
  simp only [List.map_map, Function.comp_def] at this
  rw [this]
  simp
theorem q_climb {s : List Int} {m : Hm} (hs : s.Pairwise (· < ·)) (hl : s.length ≤ 64) : F_is_climbing [.p (sd s)] m = .ok (.p (.bool true)) m := by
  unfold F_is_climbing mkFn m_is_climbing C1_is_climbing
  cases s with
  | nil =>
    simp [startE]
    rw [lc_map ([] : List Int) (fun i => .p (.int i)) (fun _ => .bool true) (gs := []) (by simp [rgP]) rfl (by simp) fun z hz => by cases hz]
    simp [all_true]
    have := all_true (m := m) ([] : List Int)
    simp at this
    simp [this, endFn_p]
  | cons a s =>
    have e : ((s.length + 1 : Nat) : Int) - 1 = (s.length : Nat) := by omega
    have hl : s.length ≤ 63 := by simpa using hl
    simp [startE]
    rw [lc_map (rgI s.length) (fun i => .p (.int i)) (fun _ => .bool true) (gs := []) (by
      have := rg_it (n := s.length) (m := m) (by omega)
      simp at this ⊢
      exact this) rfl (by simp [rgI]; omega) fun z hz => ⟨_, rfl, ?_⟩]
    · simp [all_true, endFn_p]
    · obtain ⟨i, hi, rfl⟩ := List.mem_map.mp hz
      have hi := List.mem_range.mp hi
      have e1 : atI (.int a :: s.map PyData.int) (i : Int) = some (.int ((a :: s)[i]'(by simp; omega))) := by
        rw [atI_lit, ← List.map_cons, List.getElem?_map, List.getElem?_eq_getElem (by simp; omega)]; rfl
      have e2 : atI (.int a :: s.map PyData.int) ((i : Int) + 1) = some (.int ((a :: s)[i + 1]'(by simp; omega))) := by
        rw [show (i : Int) + 1 = ((i + 1 : Nat) : Int) from rfl, atI_lit, ← List.map_cons, List.getElem?_map, List.getElem?_eq_getElem (by simp; omega)]; rfl
      have lt := List.pairwise_iff_getElem.mp hs i (i + 1) (by simp; omega) (by simp; omega) (by omega)
      simp [wipeE, e1, e2]
      simpa using lt
theorem q_vars {s : List Int} {m : Hm} (hs : s.Pairwise (· < ·)) (hl : s.length ≤ 64) (hr : ∀ v ∈ s, 0 ≤ v ∧ v ≤ 5) : F_are_variables [.p (sd s)] m = .ok (.p (.bool true)) m := by
  unfold F_are_variables mkFn m_are_variables C1_are_variables
  simp [startE, isiM, tyN, isiA]
  rw [lc_map s (fun i => .p (.int i)) (fun _ => .bool true) (gs := []) (by simp [Function.comp_def]) rfl (by omega) fun z hz => ⟨_, rfl, by
    have := hr z hz
    simp [wipeE, q_is_whole (.int z) 0 5 m rfl, isW, this.1, this.2]⟩]
  simp [all_true, q_climb hs hl, endFn_p]
theorem q_scope {s : List Int} {m : Hm} (hs : s.Pairwise (· < ·)) (hl : s.length ≤ 3) (hr : ∀ v ∈ s, 0 ≤ v ∧ v ≤ 5) : F_is_scope [.p (sd s)] m = .ok (.p (.bool true)) m := by
  unfold F_is_scope mkFn m_is_scope
  have : (s.length : Int) ≤ 3 := by omega
  simp [startE, q_vars hs (by omega) hr, this, endFn_p]
def isInt : PyData → Bool
  | .int _ => true
  | _ => false
theorem q_isint {d : PyData} {m : Hm} (h : nd d = true) : F__law_is_integer [.p d] m = .ok (.p (.bool (isInt d))) m := by
  unfold F__law_is_integer mkFn m__law_is_integer
  cases d with
  | dict => cases h
  | _ => simp [startE, isiM, tyN, isiA, isInt, endFn_p]
theorem ix31 : ixN 3 1 = some 1 := rfl
theorem ix32 : ixN 3 2 = some 2 := rfl
theorem q_stream (ns : List Int) : F__law_stream [.ro (ns.map .int)] [] = .ok (.loc 0) [strm ns 0 0] := by
  unfold F__law_stream mkFn m__law_stream
  have e : allP (ns.map (W.p ∘ PyData.int)) = some (ns.map .int) := allP_ints ns
  simp [startE, listM, seqW, sizeLine_eq, e, endFn, okM, okW, strm]
def draws : SX := (sSeq (sSet 4 (eOp2 modM (eCB intX (aCons (eOp2 idxM (eVar 0) (eC (.int 1))) aNil)) (eVar 1)))
  (sSeq (sSetIx (eVar 0) (eC (.int 1)) (eOp2 divM (eOp2 idxM (eVar 0) (eC (.int 1))) (eVar 1)))
  (sRet (eVar 4))))
theorem q_draws {ns : List Int} {c k many : Int} {r : Hm} {s2 s3 : Option W} (h : 0 < many) (h2 : many < 1073741824) : draws [some (.loc 0), some (.p (.int many)), s2, s3, none] (strm ns c k :: r) = some (.rt (.p (.int (c % many))), strm ns (c / many) k :: r) := by
  unfold draws
  simp [strm, o_mod h, o_div h h2, setIx, ix31, ix32]
def mix : SX := (sSeq (sSet 3 (eOp2 modM (eCB intX (aCons (eOp2 addM (eOp2 addM (eOp2 mulI (eVar 3) (eC (.int 48271))) (eOp2 mulI (eVar 2) (eC (.int 69621)))) (eC (.int 11))) aNil)) (eC (.int 2147483647))))
  (sSet 3 (eOp2 addM (eOp2 mulI (eOp2 modM (eCB intX (aCons (eOp2 addM (eOp2 mulI (eVar 3) (eC (.int 16807))) (eC (.int 13))) aNil)) (eC (.int 2147483647))) (eC (.int 65537))) (eVar 3))))
theorem ex_mul (i j : Int) (h : smallI j = true) (m : Hm) : ∃ f, mulI (.p (.int i)) (.p (.int j)) m = .ok (.p (.int f)) m := ⟨_, o_mulr h⟩
theorem ex_mod (i j : Int) (h : 0 < j) (m : Hm) : ∃ f, modM (.p (.int i)) (.p (.int j)) m = .ok (.p (.int f)) m := ⟨_, o_mod h⟩
theorem q_mix (a b : Option W) (k c : Int) (m : Hm) : ∃ f, mix [a, b, some (.p (.int k)), some (.p (.int c)), none] m = some (.nx [a, b, some (.p (.int k)), some (.p (.int f)), none], m) := by
  obtain ⟨f1, e1⟩ := ex_mul c 48271 rfl m
  obtain ⟨f2, e2⟩ := ex_mul k 69621 rfl m
  obtain ⟨f3, e3⟩ := ex_mod (f1 + f2 + 11) 2147483647 (by omega) m
  obtain ⟨f4, e4⟩ := ex_mul f3 16807 rfl m
  obtain ⟨f5, e5⟩ := ex_mod (f4 + 13) 2147483647 (by omega) m
  obtain ⟨f6, e6⟩ := ex_mul f5 65537 rfl m
  refine ⟨f6 + f3, ?_⟩
  unfold mix
  generalize (2147483647 : Int) = M at e3 e5 ⊢
  simp [e1, e2, e3, e4, e5, e6]
/-- a number below many is drawn; the stream goes on -/
def Draw (ns : List Int) (many : Int) (r : Hm) (x : Res W) : Prop := ∃ (d c' : Int) (k' : Nat), x = .ok (.p (.int d)) (strm ns c' k' :: r) ∧ 0 ≤ d ∧ d < many
theorem q_next {ns : List Int} {c : Int} {k : Nat} {r : Hm} {many : Int} (h : 0 < many) (h2 : many < 1073741824) : Draw ns many r (F__law_next [.loc 0, .p (.int many)] (strm ns c k :: r)) := by
  have fin : ∀ (c' : Int) (k' : Nat) (s2 s3 : Option W), Draw ns many r (retE true (r.length + 1) (draws [some (.loc 0), some (.p (.int many)), s2, s3, none] (strm ns c' k' :: r))) := by
    intro c' k' s2 s3
    rw [q_draws h h2]
    exact ⟨c' % many, c' / many, k', endFn_len rfl, Int.emod_nonneg _ (by omega), Int.emod_lt_of_pos _ h⟩
  unfold F__law_next mkFn m__law_next
  rw [← draws, ← mix]
  obtain ⟨P, hP, B, hB⟩ : ∃ P : EX W, eOp2 powM (eC (.int 10)) (eC (.int 18)) = P ∧ ∃ B : Int, ∀ s m, P s m = .ok (.p (.int B)) m := ⟨_, rfl, 1000000000000000000, fun s m => rfl⟩
  rw [hP]
  clear hP
  by_cases c0 : c = 0
  · subst c0
    by_cases hk : k < ns.length
    · have hk' : (k : Int) < ns.length := by omega
      obtain ⟨n, hn⟩ : ∃ n, ns[k]? = some n := ⟨_, List.getElem?_eq_getElem hk⟩
      have e1 : atI (ns.map PyData.int) (k : Int) = some (.int n) := by rw [atI_lit]; simp [hn]
      by_cases hb : (if n < 0 then -n else n) < B
      · obtain ⟨f, hf⟩ := q_mix (some (.loc 0)) (some (.p (.int many))) k (if n < 0 then -n else n) (strm ns 0 k :: r)
        simp [startE, strm, hk', e1, hB, hb] at hf ⊢
        simp [hf, setIx, ix31, ix32]
        exact fin _ (k + 1) _ _
      · simp [startE, strm, hk', e1, hB, hb, setIx, ix31, ix32]
        exact fin _ (k + 1) _ _
    · have hk' : ¬ (k : Int) < ns.length := by omega
      obtain ⟨c1, hc1⟩ : ∃ c1 : Int, (7 : Int) + k = c1 := ⟨_, rfl⟩
      by_cases hb : c1 < B
      · obtain ⟨f, hf⟩ := q_mix (some (.loc 0)) (some (.p (.int many))) k c1 (strm ns 0 k :: r)
        simp [startE, strm, hk', hB, hc1, hb] at hf ⊢
        simp [hf, setIx, ix31, ix32]
        exact fin _ (k + 1) _ _
      · simp [startE, strm, hk', hB, hc1, hb, setIx, ix31, ix32]
        exact fin _ (k + 1) _ _
  · simp [startE, strm, c0]
    exact fin _ k _ _
theorem q_isnum (d : PyData) (lo hi : Int) (m : Hm) (h : nd d = true) : F_is_number [.p d, .p (.int lo), .p (.int hi)] m = .ok (.p (.bool (isW d lo hi))) m := by
  unfold F_is_number mkFn m_is_number
  cases d with
  | int i =>
    by_cases h1 : lo ≤ i <;> by_cases h2 : i ≤ hi <;> simp [startE, isiM, tyN, isiA, isW, h1, h2, endFn_p]
  | dict => cases h
  | _ => simp [startE, isiM, tyN, isiA, isW, endFn_p]
/-- the graph of the law -/
def gL : PyData := .tuple [.int 2, .tuple [.tuple [.int 0], .tuple [.int 1]], .tuple []]
theorem q_graph (m : Hm) : F_check_graph [.p gL] m = .ok (.p .none) m := by
  have s0 : F_is_scope [.p (.tuple [.int 0])] m = .ok (.p (.bool true)) m := q_scope (s := [0]) (by simp) (by simp) (by simp)
  have s1 : F_is_scope [.p (.tuple [.int 1])] m = .ok (.p (.bool true)) m := q_scope (s := [1]) (by simp) (by simp) (by simp)
  have g : F_is_graph [.p gL] m = .ok (.p (.bool true)) m := by
    unfold F_is_graph mkFn m_is_graph C1_is_graph C2_is_graph C3_is_graph
    have n2 := q_isnum (.int 2) 2 3 m rfl
    have e0 := all_true (m := m) ([] : List Int)
    have e2 := all_true (m := m) ([1, 2] : List Int)
    simp at e0 e2
    simp [startE, isiM, tyN, isiA, gL, n2, isW, Tg.put, Tg.puts, seqT]
    rw [lc_map [PyData.tuple [.int 0], .tuple [.int 1]] (fun i => .p i) (fun _ => .bool true) (gs := []) (by simp) rfl (by simp) fun z hz => ⟨_, rfl, by
      simp at hz
      rcases hz with rfl | rfl
      · simp [wipeE, s0]
      · simp [wipeE, s1]⟩]
    simp [e2, isiM, tyN, isiA]
    rw [lc_map ([] : List PyData) (fun i => .p i) (fun _ => .bool true) (gs := []) (by simp) rfl (by simp) fun z hz => by simp at hz]
    simp [e0]
    rw [lc_map ([] : List Int) (fun i => .p (.int i)) (fun _ => .bool true) (gs := []) (by simp [rgP]) rfl (by simp) fun z hz => by cases hz]
    simp [e0, endFn_p]
  unfold F_check_graph mkFn m_check_graph
  simp [startE, g, endFn_p]
end Mir.K68

namespace Mir.K68
open PySem PySem.Spec PyProof.Rows L2
/-! ### drawn, equal -/
def TL1 (w : W) (ds : List PyData) : Prop := w = .p (.tuple ds) ∨ w = .p (.list ds)
theorem TL1.len {w : W} {ds : List PyData} {m : Hm} (h : TL1 w ds) : lenM [w] m = .ok (.p (.int ds.length)) m := by
  rcases h with rfl | rfl <;> simp
theorem q_pick {w : W} {ds : List PyData} {ns : List Int} {c : Int} {k : Nat} {r : Hm} (hw : TL1 w ds) (h0 : 0 < ds.length) (h1 : ds.length < 1000) : ∃ x ∈ ds, ∃ (c' : Int) (k' : Nat), F__law_pick [.loc 0, w] (strm ns c k :: r) = .ok (.p x) (strm ns c' k' :: r) := by
  obtain ⟨d, c', k', e1, h2, h3⟩ := q_next (ns := ns) (c := c) (k := k) (r := r) (many := ds.length) (by omega) (by omega)
  obtain ⟨x, hx, e2⟩ := atI_mem (xs := ds) h2 h3
  refine ⟨x, hx, c', k', ?_⟩
  have e3 : ∀ m, idxM w (.p (.int d)) m = .ok (.p x) m := fun m => by
    rcases hw with rfl | rfl
    · rw [o_ixT, e2]
    · rw [o_ixL, e2]
  unfold F__law_pick mkFn m__law_pick
  simp only [startE, List.length_cons, List.length_nil, List.map_cons, List.map_nil, decide_true, if_true, q_ret, r_op2, r_call, r_cb, r_acons, r_anil, r_var, List.cons_append, List.nil_append, List.getElem?_cons_succ, List.getElem?_cons_zero, bind_ok, hw.len, e1, e3, st_ok, ret_rt]
  exact endFn_len rfl
inductive Deq : Nat → PyData → Prop
  | non {n : Nat} : Deq n .none
  | bl {n : Nat} (b : Bool) : Deq n (.bool b)
  | int {n : Nat} (i : Int) : Deq n (.int i)
  | str {n : Nat} {x : Str} : PySem.PyData.strOk x = true → Deq n (.str x)
  | tup {n : Nat} {ds : List PyData} : ds.length ≤ 1000 → (∀ d ∈ ds, Deq n d) → Deq (n + 1) (.tuple ds)
  | lst {n : Nat} {ds : List PyData} : ds.length ≤ 1000 → (∀ d ∈ ds, Deq n d) → Deq (n + 1) (.list ds)
theorem eq_bb {a b : Bool} {m : Hm} : eqM false (.p (.bool a)) (.p (.bool b)) m = .ok (.p (.bool (a == b))) m ∧ eqM true (.p (.bool a)) (.p (.bool b)) m = .ok (.p (.bool (!(a == b)))) m := by
  cases a <;> cases b <;> exact ⟨rfl, rfl⟩
theorem eqv_str (x y : Str) : PyData.eqv (.str x) (.str y) = decide (x = y) := by
  unfold PyData.eqv
  rw [Bool.eq_iff_iff]; simp
theorem sh_str {x : Str} (h : PySem.PyData.strOk x = true) : SeqAt.shaped (.str x) = true := by
  have h1 : PyData.canLay0 (.str x) = true := by rw [PyData.canLay0]; exact h
  show (PyData.canLay0 (.str x) && decide (PyData.depth (.str x) ≤ 64)) = true
  rw [h1]; rfl
theorem o_eqS {m : Hm} {x y : Str} (h1 : PySem.PyData.strOk x = true) (h2 : PySem.PyData.strOk y = true) : eqM false (.p (.str x)) (.p (.str y)) m = .ok (.p (.bool (decide (x = y)))) m := by
  simp [eqM, sh_str h1, sh_str h2, eqv_str]
theorem o_neS {m : Hm} {x y : Str} (h1 : PySem.PyData.strOk x = true) (h2 : PySem.PyData.strOk y = true) : eqM true (.p (.str x)) (.p (.str y)) m = .ok (.p (.bool (!decide (x = y)))) m := by
  simp [eqM, sh_str h1, sh_str h2, eqv_str]
theorem atI_rg {ds : List PyData} {z : Int} (hz : z ∈ rgI ds.length) : ∃ d ∈ ds, atI ds z = some d := by
  obtain ⟨i, hi, rfl⟩ := List.mem_map.mp hz
  have hi := List.mem_range.mp hi
  exact ⟨ds[i], List.getElem_mem _, by rw [atI_lit]; exact List.getElem?_eq_getElem hi⟩
theorem q_equal {d : PyData} {n : Nat} {m : Hm} (h : Deq n d) : F__law_equal (n + 1) [.p d, .p d] m = .ok (.p (.bool true)) m := by
  induction h with
  | non => unfold F__law_equal mkFn m__law_equal C1__law_equal; simp [startE, isNone, endFn_p]
  | bl b => unfold F__law_equal mkFn m__law_equal C1__law_equal; simp [startE, isNone, isiM, tyN, isiA, eq_bb, endFn_p]
  | int i => unfold F__law_equal mkFn m__law_equal C1__law_equal; simp [startE, isNone, isiM, tyN, isiA, q_isint (d := .int i) (m := m) rfl, isInt, endFn_p]
  | str i => unfold F__law_equal mkFn m__law_equal C1__law_equal; simp [startE, isNone, isiM, tyN, isiA, o_eqS i i, endFn_p]
  | @tup n ds hl hd ih =>
    unfold F__law_equal mkFn m__law_equal C1__law_equal
    simp [startE, isNone, isiM, tyN, isiA]
    rw [lc_map (rgI ds.length) (fun i => .p (.int i)) (fun _ => .bool true) (gs := []) (by
      have := rg_it (n := ds.length) (m := m) (by omega)
      simp at this ⊢
      exact this) rfl (by simp [rgI]; omega) fun z hz => ⟨_, rfl, by
        obtain ⟨d, hd, e⟩ := atI_rg hz
        simp [wipeE, e, ih d hd]⟩]
    simp [all_true, endFn_p]
  | @lst n ds hl hd ih =>
    unfold F__law_equal mkFn m__law_equal C1__law_equal
    simp [startE, isNone, isiM, tyN, isiA]
    rw [lc_map (rgI ds.length) (fun i => .p (.int i)) (fun _ => .bool true) (gs := []) (by
      have := rg_it (n := ds.length) (m := m) (by omega)
      simp at this ⊢
      exact this) rfl (by simp [rgI]; omega) fun z hz => ⟨_, rfl, by
        obtain ⟨d, hd, e⟩ := atI_rg hz
        simp [wipeE, e, ih d hd]⟩]
    simp [all_true, endFn_p]
/-! ### loops by their turns -/
theorem wh_nx {b : EX Bool} {body : SX} {n : Nat} {s s2 : Ev} {m m2 : Hm} (h1 : b s m = .ok true m) (h2 : body s m = some (.nx s2, m2)) : whGo b body (n + 1) s m = whGo b body n s2 m2 := by
  rw [whGo, h1]; simp only [st_ok, if_true, h2]
theorem wh_ex {b : EX Bool} {body : SX} {n : Nat} {s s2 : Ev} {m m2 : Hm} {x : Exn} (h1 : b s m = .ok true m) (h2 : body s m = some (.ex x s2, m2)) : whGo b body (n + 1) s m = some (.ex x s2, m2) := by
  rw [whGo, h1]; simp only [st_ok, if_true, h2]
theorem wh_end {b : EX Bool} {body : SX} {n : Nat} {s : Ev} {m : Hm} (h1 : b s m = .ok false m) : whGo b body (n + 1) s m = some (.nx s, m) := by
  rw [whGo, h1]; simp
@[simp] theorem q_while {fu : Nat} {b : EX Bool} {body : SX} {s : Ev} {m : Hm} : sWhile fu b body s m = whGo b body fu s m := rfl
theorem endX_same {x : Exn} {m : Hm} : endX m.length x m = .exc x m := by
  unfold endX; split <;> simp
theorem endX_app {x : Exn} {m e : Hm} (h : okM m.length m = true) (hx : okWs m.length (x.fs.map (·.2)) = true) : endX m.length x (m ++ e) = .exc x m := by
  unfold endX
  rw [okM_app rfl, h, hx]
  simp
/-- what a TextError is -/
def tx (c : Int) (w : Str) : Exn := ⟨"TextError", [("words", .p (.str w)), ("column", .p (.int c))]⟩
/-! ### texts as lists of code points -/
abbrev S (l : List Nat) : Str := ⟨l.toArray⟩
@[simp] theorem S_len (l : List Nat) : (S l).length = l.length := by simp [Str.length]
theorem S_inj {a b : List Nat} (h : S a = S b) : a = b := by
  have := congrArg (fun z : Str => z.cps.toList) h
  simpa using this
theorem S_app (a b : List Nat) : S a ++ S b = S (a ++ b) := by
  show Str.append (S a) (S b) = _
  simp [Str.append]
theorem o_lenS {l : List Nat} {m : Hm} (h : l.length ≤ 16777216) : lenM [.p (.str (S l))] m = .ok (.p (.int l.length)) m := by
  have z : (S l).length ≤ sizeLine := by rw [S_len, sizeLine_eq]; exact h
  show (if (S l).length ≤ sizeLine then (.ok (.p (.int (S l).length)) m : Res W) else .stuck) = _
  rw [if_pos z, S_len]
theorem o_ixS {l : List Nat} {i c : Nat} {m : Hm} (h : l[i]? = some c) (hl : l.length ≤ 16777216) : idxM (.p (.str (S l))) (.p (.int (i : Nat))) m = .ok (.p (.str (S [c]))) m := by
  have e : atI (S l).cps.toList (i : Int) = some c := by rw [atI_lit]; simpa using h
  have z : (S l).length ≤ sizeLine := by rw [S_len, sizeLine_eq]; exact hl
  show (if (S l).length ≤ sizeLine then (match atI (S l).cps.toList (i : Int) with | some c => (.ok (.p (.str ⟨#[c]⟩)) m : Res W) | none => .stuck) else .stuck) = _
  rw [if_pos z, e]
@[simp] theorem o_in1 {c : Nat} {z : Str} {m : Hm} : inX (.p (.str (S [c]))) (.p (.str z)) m = .ok (.p (.bool (decide (c ∈ z.cps.toList)))) m := rfl
def isDg (c : Nat) : Bool := decide (48 ≤ c) && decide (c ≤ 57)
theorem dg_of (c : Nat) : decide (c ∈ ("0123456789" : Str).cps.toList) = isDg c := by
  have e : ("0123456789" : Str).cps.toList = [48, 49, 50, 51, 52, 53, 54, 55, 56, 57] := by decide +kernel
  rw [e]
  unfold isDg
  rw [Bool.eq_iff_iff]
  simp
  omega
def sgs : List Nat := [58, 44, 59, 45, 61]
theorem sg_of : (":,;-=" : Str).cps.toList = sgs := by decide +kernel
theorem cutS_mid (pre d rest : List Nat) : cutS (S (pre ++ d ++ rest)) (some (pre.length : Nat)) (some ((pre.length + d.length : Nat) : Int)) = S d := by
  have h1 : HT.sIx (S (pre ++ d ++ rest)).length 0 (some (pre.length : Nat)) = pre.length := by
    rw [S_len, HT.sIx_nat]
    simp
  have h2 : HT.sIx (S (pre ++ d ++ rest)).length (S (pre ++ d ++ rest)).length (some ((pre.length + d.length : Nat) : Int)) = pre.length + d.length := by
    rw [S_len, HT.sIx_nat]
    simp
  unfold cutS
  rw [h1, h2]
  simp
/-! ### digits_at -/
theorem wh_digits {pre : List Nat} {rest : List Nat} {a : W} {m : Hm} {b : EX Bool} (hr : ∀ c, rest[0]? = some c → isDg c = false) : ∀ (d2 d1 : List Nat) (n : Nat), (pre ++ (d1 ++ d2) ++ rest).length ≤ 16777216 → (∀ c ∈ d2, isDg c = true) → d2.length < n →
    whGo (bAnd (bVal (eOp2 ltM (eVar 2) (eCB lenM (aCons (eVar 0) aNil)))) (bVal (eOp2 inX (eOp2 idxM (eVar 0) (eVar 2)) (eC (.str "0123456789"))))) L1_digits_at n [some (.p (.str (S (pre ++ (d1 ++ d2) ++ rest)))), some a, some (.p (.int ((pre.length + d1.length : Nat) : Int)))] m =
      some (.nx [some (.p (.str (S (pre ++ (d1 ++ d2) ++ rest)))), some a, some (.p (.int ((pre.length + (d1 ++ d2).length : Nat) : Int)))], m) := by
  intro d2
  induction d2 with
  | nil =>
    intro d1 n hz _ hn
    obtain ⟨n, rfl⟩ : ∃ k, n = k + 1 := ⟨n - 1, by simp at hn; omega⟩
    cases rest with
    | nil =>
      rw [wh_end]
      · simp
      · have lt : ¬ ((pre.length + d1.length : Nat) : Int) < ((pre ++ (d1 ++ []) ++ []).length : Nat) := by simp
        simp only [r_band, r_bval, r_op2, r_var, r_cb, r_acons, r_anil, List.getElem?_cons_succ, List.getElem?_cons_zero, bind_ok, o_lenS hz, o_lt, r_boolOf, decide_eq_false lt, Bool.false_eq_true, if_false]
    | cons c r =>
      have hc := hr c rfl
      have e : (pre ++ (d1 ++ []) ++ c :: r)[pre.length + d1.length]? = some c := by
        rw [List.append_nil, List.getElem?_append_right (by simp)]
        simp
      rw [wh_end]
      · simp
      · have lt : ((pre.length + d1.length : Nat) : Int) < ((pre ++ (d1 ++ []) ++ c :: r).length : Nat) := by simp; omega
        simp only [r_band, r_bval, r_op2, r_var, r_cb, r_acons, r_anil, List.getElem?_cons_succ, List.getElem?_cons_zero, bind_ok, o_lenS hz, o_lt, r_boolOf, decide_eq_true lt, if_true, o_ixS e hz, r_c, o_in1, dg_of, hc]
  | cons c d2 ih =>
    intro d1 n hz hd hn
    obtain ⟨n, rfl⟩ : ∃ k, n = k + 1 := ⟨n - 1, by simp at hn; omega⟩
    have hc := hd c List.mem_cons_self
    have e : (pre ++ (d1 ++ c :: d2) ++ rest)[pre.length + d1.length]? = some c := by
      rw [List.append_assoc, List.append_assoc, ← List.append_assoc, List.getElem?_append_right (by simp)]
      simp
    have lt : ((pre.length + d1.length : Nat) : Int) < ((pre ++ (d1 ++ c :: d2) ++ rest).length : Nat) := by simp; omega
    rw [wh_nx (s2 := [some (.p (.str (S (pre ++ (d1 ++ c :: d2) ++ rest)))), some a, some (.p (.int ((pre.length + (d1 ++ [c]).length : Nat) : Int)))]) (m2 := m)]
    · have := ih (d1 ++ [c]) n (by simpa using hz) (fun x hx => hd x (List.mem_cons_of_mem _ hx)) (by simp at hn; omega)
      simpa using this
    · simp only [r_band, r_bval, r_op2, r_var, r_cb, r_acons, r_anil, List.getElem?_cons_succ, List.getElem?_cons_zero, bind_ok, o_lenS hz, o_lt, r_boolOf, decide_eq_true lt, if_true, o_ixS e hz, r_c, o_in1, dg_of, hc]
    · unfold L1_digits_at sTidy
      simp [wipeE, tidy_len]
      omega
theorem q_digits {pre d rest : List Nat} {m : Hm} (hr : ∀ c, rest[0]? = some c → isDg c = false) (hd : ∀ c ∈ d, isDg c = true) (hz : (pre ++ d ++ rest).length ≤ 2500) : F_digits_at [.p (.str (S (pre ++ d ++ rest))), .p (.int (pre.length : Nat))] m = .ok (.p (.str (S d))) m := by
  unfold F_digits_at mkFn m_digits_at
  have key := wh_digits (pre := pre) (rest := rest) (a := .p (.int (pre.length : Nat))) (m := m) (b := bYes) hr d [] 3000 (by simp at hz ⊢; omega) hd (by simp at hz; omega)
  simp only [List.nil_append, List.length_nil, Nat.add_zero] at key
  simp only [startE, List.length_cons, List.length_nil, List.map_cons, List.map_nil, decide_true, if_true, q_seq, q_set, r_var, List.cons_append, List.nil_append, List.replicate, List.getElem?_cons_succ, List.getElem?_cons_zero, st_ok, List.set, q_while]
  rw [key]
  have z : (S (pre ++ d ++ rest)).length ≤ sizeLine := by rw [S_len, sizeLine_eq]; omega
  have e := cutS_mid pre d rest
  simp only [q_ret, eCut, oSome, r_var, List.getElem?_cons_succ, List.getElem?_cons_zero, bind_ok, cutM, z, if_true, e, st_ok, ret_rt, endFn_p]
end Mir.K68

namespace Mir.K68
open PySem PySem.Spec PyProof.Rows L2
/-! ### tokens -/
inductive Kd where
  | num
  | sg (c : Nat)
  | fin
  deriving DecidableEq
structure Tk where
  k : Kd
  w : List Nat
  c : Int
def kdS : Kd → Str
  | .num => "number"
  | .sg _ => "sign"
  | .fin => "end"
def tokD (t : Tk) : PyData := .tuple [.str (kdS t.k), .str (S t.w), .int t.c]
theorem o_tk0 {t : Tk} {m : Hm} : idxM (.p (tokD t)) (.p (.int 0)) m = .ok (.p (.str (kdS t.k))) m := rfl
theorem o_tk1 {t : Tk} {m : Hm} : idxM (.p (tokD t)) (.p (.int 1)) m = .ok (.p (.str (S t.w))) m := rfl
theorem o_tk2 {t : Tk} {m : Hm} : idxM (.p (tokD t)) (.p (.int 2)) m = .ok (.p (.int t.c)) m := rfl
theorem atI_last {α : Type} (xs : List α) (x : α) : atI (xs ++ [x]) (-1) = some x := by
  have e : ixN (xs ++ [x]).length (-1) = some xs.length := by
    unfold ixN
    rw [if_neg (by omega), if_pos (by simp; omega)]
    congr 1
    simp
    omega
  unfold atI
  rw [e]
  simp
theorem o_neg1 {m : Hm} : negM (.p (.int 1)) m = .ok (.p (.int (-1))) m := rfl
def asc (l : List Nat) : Prop := ∀ c ∈ l, c < 1000
theorem asc_ok {l : List Nat} (h : asc l) : PySem.PyData.strOk (S l) = true := by
  unfold PySem.PyData.strOk
  rw [Array.all_eq_true]
  intro i hi
  have : l[i]'(by simpa using hi) < 1000 := h _ (List.getElem_mem _)
  simp
  omega
section
variable {pre rest : List Nat} {m : Hm}
theorem at_mid (c : Nat) : (pre ++ c :: rest)[pre.length]? = some c := by
  rw [List.getElem?_append_right (Nat.le_refl _)]; simp
theorem q_token_sg {c : Nat} (hc : c ∈ sgs) (hz : (pre ++ c :: rest).length ≤ 2500) : F_token_at [.p (.str (S (pre ++ c :: rest))), .p (.int (pre.length : Nat))] m = .ok (.p (tokD ⟨.sg c, [c], pre.length + 1⟩)) m := by
  unfold F_token_at mkFn m_token_at
  have e := o_ixS (m := m) (at_mid (pre := pre) (rest := rest) c) (by omega)
  simp only [startE, List.length_cons, List.length_nil, List.map_cons, List.map_nil, decide_true, if_true, q_seq, q_if, q_ret, q_skip, r_bval, r_op2, r_c, r_var, r_tup, r_acons, r_anil, List.cons_append, List.nil_append, List.replicate, List.getElem?_cons_succ, List.getElem?_cons_zero, bind_ok, e, o_in1, sg_of, hc, r_boolOf, st_ok, o_add]
  simp [mkTup, sizeLine_eq, endFn_p, tokD, kdS]
theorem q_token_num {d : List Nat} (h0 : d ≠ []) (hd : ∀ c ∈ d, isDg c = true) (hl : d.length ≤ 6) (hr : ∀ c, rest[0]? = some c → isDg c = false) (hz : (pre ++ d ++ rest).length ≤ 2500) :
    F_token_at [.p (.str (S (pre ++ d ++ rest))), .p (.int (pre.length : Nat))] m = .ok (.p (tokD ⟨.num, d, pre.length + 1⟩)) m := by
  obtain ⟨c, d', rfl⟩ : ∃ c d', d = c :: d' := by cases d with
    | nil => exact absurd rfl h0
    | cons c d' => exact ⟨c, d', rfl⟩
  have hc := hd c List.mem_cons_self
  have ns : c ∉ sgs := by unfold isDg at hc; simp [sgs] at hc ⊢; omega
  unfold F_token_at mkFn m_token_at
  have e := o_ixS (m := m) (l := pre ++ (c :: d') ++ rest) (i := pre.length) (c := c) (by rw [List.append_assoc, List.cons_append]; exact at_mid c) (by omega)
  have q := q_digits (pre := pre) (d := c :: d') (rest := rest) (m := m) hr hd hz
  have ne : S (c :: d') ≠ ("" : Str) := fun h => by
    have : S (c :: d') = S [] := h
    have := S_inj this
    cases this
  have ok1 : PySem.PyData.strOk (S (c :: d')) = true := asc_ok fun x hx => by
    have := hd x hx
    unfold isDg at this
    simp at this
    omega
  have l1 : ¬ ((6 : Int) < ((d'.length + 1 : Nat) : Int)) := by simp at hl; omega
  simp only [startE, List.length_cons, List.length_nil, List.map_cons, List.map_nil, decide_true, if_true, q_seq, q_if, q_ret, q_set, q_skip, r_call, r_cb, r_bval, r_op2, r_c, r_var, r_tup, r_acons, r_anil, List.cons_append, List.nil_append, List.replicate, List.getElem?_cons_succ, List.getElem?_cons_zero, bind_ok, e, o_in1, sg_of, ns, decide_false, Bool.false_eq_true, if_false, r_boolOf, st_ok, o_add, q, List.set, o_eqS ok1 (show PySem.PyData.strOk ("" : Str) = true by decide +kernel), ne, o_lenS (show (c :: d').length ≤ 16777216 by omega), o_gt, decide_eq_false l1]
  simp [mkTup, sizeLine_eq, endFn_p, tokD, kdS]
theorem q_token_bad {c : Nat} (hc : isDg c = false) (ns : c ∉ sgs) (hz : (pre ++ c :: rest).length ≤ 2500) : F_token_at [.p (.str (S (pre ++ c :: rest))), .p (.int (pre.length : Nat))] m = .exc (tx (pre.length + 1) "no token begins here") m := by
  unfold F_token_at mkFn m_token_at
  have e := o_ixS (m := m) (l := pre ++ c :: rest) (i := pre.length) (c := c) (at_mid c) (by omega)
  have q := q_digits (pre := pre) (d := []) (rest := c :: rest) (m := m) (fun x hx => by cases hx; exact hc) (fun _ h => nomatch h) (by simpa using hz)
  rw [List.append_nil] at q
  have z : PySem.PyData.strOk (S []) = true := by decide +kernel
  have z2 : (("" : Str)) = S [] := by decide +kernel
  simp only [startE, List.length_cons, List.length_nil, List.map_cons, List.map_nil, decide_true, if_true, q_seq, q_if, q_ret, q_set, q_skip, r_call, r_cb, r_bval, r_op2, r_c, r_var, r_tup, r_acons, r_anil, List.cons_append, List.nil_append, List.replicate, List.getElem?_cons_succ, List.getElem?_cons_zero, bind_ok, e, o_in1, sg_of, ns, decide_false, Bool.false_eq_true, if_false, r_boolOf, st_ok, o_add, q, List.set, z2, o_eqS z z, sRaise]
  simp [tx, endX_same]
theorem q_token_long {d : List Nat} (h0 : d ≠ []) (hd : ∀ c ∈ d, isDg c = true) (hl : 6 < d.length) (hr : ∀ c, rest[0]? = some c → isDg c = false) (hz : (pre ++ d ++ rest).length ≤ 2500) :
    F_token_at [.p (.str (S (pre ++ d ++ rest))), .p (.int (pre.length : Nat))] m = .exc (tx (pre.length + 1) "a number has at most 6 digits") m := by
  obtain ⟨c, d', rfl⟩ : ∃ c d', d = c :: d' := by cases d with
    | nil => exact absurd rfl h0
    | cons c d' => exact ⟨c, d', rfl⟩
  have hc := hd c List.mem_cons_self
  have ns : c ∉ sgs := by unfold isDg at hc; simp [sgs] at hc ⊢; omega
  unfold F_token_at mkFn m_token_at
  have e := o_ixS (m := m) (l := pre ++ (c :: d') ++ rest) (i := pre.length) (c := c) (by rw [List.append_assoc, List.cons_append]; exact at_mid c) (by omega)
  have q := q_digits (pre := pre) (d := c :: d') (rest := rest) (m := m) hr hd hz
  have ne : S (c :: d') ≠ ("" : Str) := fun h => by
    have : S (c :: d') = S [] := h
    have := S_inj this
    cases this
  have ok1 : PySem.PyData.strOk (S (c :: d')) = true := asc_ok fun x hx => by
    have := hd x hx
    unfold isDg at this
    simp at this
    omega
  have l1 : ((6 : Int) < ((d'.length + 1 : Nat) : Int)) := by simp at hl; omega
  have l2 : (c :: d').length ≤ 16777216 := by simp at hz ⊢; omega
  simp only [startE, List.length_cons, List.length_nil, List.map_cons, List.map_nil, decide_true, if_true, q_seq, q_if, q_ret, q_set, q_skip, r_call, r_cb, r_bval, r_op2, r_c, r_var, r_tup, r_acons, r_anil, List.cons_append, List.nil_append, List.replicate, List.getElem?_cons_succ, List.getElem?_cons_zero, bind_ok, e, o_in1, sg_of, ns, decide_false, Bool.false_eq_true, if_false, r_boolOf, st_ok, o_add, q, List.set, o_eqS ok1 (show PySem.PyData.strOk ("" : Str) = true by decide +kernel), ne, o_lenS l2, o_gt, decide_eq_true l1, sRaise]
  simp [tx, endX_same]
end
/-! ### the loop of scan -/
def tokW (t : Tk) : W := .p (tokD t)
def scI (z : List Nat) (k : Nat) (p : Nat) : Ev := [some (.p (.str (S z))), some (.loc k), some (.p (.int (p : Nat)))]
def scB : EX Bool := (bVal (eOp2 ltM (eVar 2) (eCB lenM (aCons (eVar 0) aNil))))
section
variable {pre rest : List Nat} {m0 : Hm} {ts : List Tk}
theorem scB_t {c : Nat} {k : Nat} {m : Hm} (hz : (pre ++ c :: rest).length ≤ 2500) : scB (scI (pre ++ c :: rest) k pre.length) m = .ok true m := by
  have lt : ((pre.length : Nat) : Int) < ((pre ++ c :: rest).length : Nat) := by simp; omega
  simp only [scB, scI, r_bval, r_op2, r_var, r_cb, r_acons, r_anil, List.getElem?_cons_succ, List.getElem?_cons_zero, bind_ok, o_lenS (show (pre ++ c :: rest).length ≤ 16777216 by omega), o_lt, r_boolOf, decide_eq_true lt]
theorem scB_f {k : Nat} {m : Hm} (hz : pre.length ≤ 2500) : scB (scI pre k pre.length) m = .ok false m := by
  simp only [scB, scI, r_bval, r_op2, r_var, r_cb, r_acons, r_anil, List.getElem?_cons_succ, List.getElem?_cons_zero, bind_ok, o_lenS (show pre.length ≤ 16777216 by omega), o_lt, r_boolOf]
  simp
theorem sc_blank {n : Nat} {k : Nat} {m : Hm} (hz : (pre ++ 32 :: rest).length ≤ 2500) : whGo scB L1_scan (n + 1) (scI (pre ++ 32 :: rest) k pre.length) m = whGo scB L1_scan n (scI (pre ++ 32 :: rest) k (pre ++ [32]).length) m := by
  refine wh_nx (scB_t hz) ?_
  have e := o_ixS (m := m) (l := pre ++ 32 :: rest) (i := pre.length) (c := 32) (at_mid 32) (by omega)
  have z : PySem.PyData.strOk (S [32]) = true := by decide +kernel
  have z2 : (" " : Str) = S [32] := by decide +kernel
  unfold L1_scan scI
  simp only [q_tidy, q_if, q_set, r_bval, r_op2, r_c, r_var, List.getElem?_cons_succ, List.getElem?_cons_zero, bind_ok, e, z2, o_eqS z z, decide_true, r_boolOf, st_ok, if_true, o_add, List.set, tidy_same]
  simp [wipeE]
theorem app_last {m0 : Hm} {ws : List W} : (m0 ++ [Cell.lst ws])[m0.length]? = some (.lst ws) := by simp
theorem sc_add {c : Nat} {n : Nat} {t : Tk} {m : Hm} (h : m = m0 ++ [.lst (ts.map tokW)]) (hl : ts.length ≤ 3000) (hb : c ≠ 32) (hc : c < 1000) (hw : t.w.length ≤ 6) (hz : (pre ++ c :: rest).length ≤ 2500)
    (ht : F_token_at [.p (.str (S (pre ++ c :: rest))), .p (.int (pre.length : Nat))] m = .ok (.p (tokD t)) m) :
    whGo scB L1_scan (n + 1) (scI (pre ++ c :: rest) m0.length pre.length) m = whGo scB L1_scan n (scI (pre ++ c :: rest) m0.length (pre.length + t.w.length)) (m0 ++ [.lst ((ts ++ [t]).map tokW)]) := by
  refine wh_nx (scB_t hz) ?_
  have e := o_ixS (m := m) (l := pre ++ c :: rest) (i := pre.length) (c := c) (at_mid c) (by omega)
  have z : PySem.PyData.strOk (S [c]) = true := asc_ok fun x hx => by simp at hx; omega
  have z1 : PySem.PyData.strOk (S [32]) = true := by decide +kernel
  have z2 : (" " : Str) = S [32] := by decide +kernel
  have ne : S [c] ≠ S [32] := fun h => hb (by have := S_inj h; simpa using this)
  have la : lstAt (.loc m0.length) m = true := lstAt_loc (ws := ts.map tokW) (by rw [h]; exact app_last)
  have ap : appendM (.loc m0.length) [.p (tokD t)] m = .ok (.p .none) (m0 ++ [.lst ((ts ++ [t]).map tokW)]) := by
    rw [o_append (ws := ts.map tokW) (by rw [h]; exact app_last) (by simp; omega)]
    rw [h]
    simp [List.set_append_right, tokW]
  have ix : idxM (.loc m0.length) (.p (.int (-1))) (m0 ++ [.lst ((ts ++ [t]).map tokW)]) = .ok (.p (tokD t)) (m0 ++ [.lst ((ts ++ [t]).map tokW)]) := by
    simp only [idxM, app_last, List.map_append, List.map_cons, List.map_nil, atI_last]
    rfl
  unfold L1_scan scI
  simp only [q_tidy, q_if, q_seq, q_expr, q_set, r_bval, r_op2, r_op1, r_c, r_cb, r_var, r_call, r_acons, r_anil, eLM, List.length_cons, List.length_nil, List.getElem?_cons_succ, List.getElem?_cons_zero, bind_ok, e, z2, o_eqS z z1, ne, decide_false, decide_true, Bool.false_eq_true, if_false, r_boolOf, st_ok, if_true, la, ht, ap, o_neg1, ix, o_tk1, o_lenS (show t.w.length ≤ 16777216 by omega), o_add, List.set]
  rw [tidy_len (by rw [h]; simp)]
  simp [wipeE]
theorem sc_exc {c : Nat} {n : Nat} {x : Exn} {m : Hm} (h : m = m0 ++ [.lst (ts.map tokW)]) (hb : c ≠ 32) (hc : c < 1000) (hz : (pre ++ c :: rest).length ≤ 2500)
    (ht : F_token_at [.p (.str (S (pre ++ c :: rest))), .p (.int (pre.length : Nat))] m = .exc x m) :
    whGo scB L1_scan (n + 1) (scI (pre ++ c :: rest) m0.length pre.length) m = some (.ex x (scI (pre ++ c :: rest) m0.length pre.length), m) := by
  refine wh_ex (scB_t hz) ?_
  have e := o_ixS (m := m) (l := pre ++ c :: rest) (i := pre.length) (c := c) (at_mid c) (by omega)
  have z : PySem.PyData.strOk (S [c]) = true := asc_ok fun x hx => by simp at hx; omega
  have z1 : PySem.PyData.strOk (S [32]) = true := by decide +kernel
  have z2 : (" " : Str) = S [32] := by decide +kernel
  have ne : S [c] ≠ S [32] := fun h => hb (by have := S_inj h; simpa using this)
  have la : lstAt (.loc m0.length) m = true := lstAt_loc (ws := ts.map tokW) (by rw [h]; exact app_last)
  unfold L1_scan scI
  simp only [q_tidy, q_if, q_seq, q_expr, q_set, r_bval, r_op2, r_op1, r_c, r_cb, r_var, r_call, r_acons, r_anil, eLM, List.length_cons, List.length_nil, List.getElem?_cons_succ, List.getElem?_cons_zero, bind_ok, e, z2, o_eqS z z1, ne, decide_false, decide_true, Bool.false_eq_true, if_false, r_boolOf, st_ok, if_true, la, ht, bind_exc, st_exc]
end
end Mir.K68

namespace Mir.K68
open PySem PySem.Spec PyProof.Rows L2
/-! ### laid texts -/
abbrev It := Nat × Kd × List Nat
def itOk : It → Prop
  | (_, .num, w) => w ≠ [] ∧ (∀ c ∈ w, isDg c = true) ∧ w.length ≤ 6
  | (_, .sg c, w) => w = [c] ∧ c ∈ sgs
  | (_, .fin, _) => False
def bl (b : Nat) : List Nat := List.replicate b 32
def chs : List It → List Nat
  | [] => []
  | (b, _, w) :: r => bl b ++ w ++ chs r
def toks (p : Nat) : List It → List Tk
  | [] => []
  | (b, k, w) :: r => ⟨k, w, ((p + b + 1 : Nat) : Int)⟩ :: toks (p + b + w.length) r
def sepOk (pn : Bool) : List It → Prop
  | [] => True
  | (b, k, _) :: r => (pn = true → k = .num → 1 ≤ b) ∧ sepOk (decide (k = .num)) r
theorem toks_len (p : Nat) (its : List It) : (toks p its).length = its.length := by
  induction its generalizing p with
  | nil => rfl
  | cons i r ih => obtain ⟨b, k, w⟩ := i; simp [toks, ih]
theorem sg_nd {c : Nat} (h : c ∈ sgs) : isDg c = false ∧ c ≠ 32 ∧ c < 1000 ∧ c ≠ 10 := by
  simp only [sgs, List.mem_cons, List.not_mem_nil, or_false] at h
  rcases h with rfl | rfl | rfl | rfl | rfl <;> decide
theorem dg_r {c : Nat} (h : isDg c = true) : c ≠ 32 ∧ c < 1000 ∧ c ≠ 10 := by
  unfold isDg at h
  simp at h
  omega
/-- behind a number no digit stands -/
theorem hd_nd : ∀ {its : List It} {t : Nat}, (∀ i ∈ its, itOk i) → sepOk true its → ∀ c, (chs its ++ bl t)[0]? = some c → isDg c = false
  | [], t, _, _, c, h => by
    cases t with
    | zero => simp [chs, bl] at h
    | succ t => simp [chs, bl, List.replicate_succ] at h; subst h; rfl
  | (b, k, w) :: r, t, hi, hs, c, h => by
    have i0 := hi _ List.mem_cons_self
    cases b with
    | succ b => simp [chs, bl, List.replicate_succ] at h; subst h; rfl
    | zero =>
      cases k with
      | num => exact absurd (hs.1 rfl rfl) (by omega)
      | sg d =>
        obtain ⟨rfl, hd⟩ := i0
        simp [chs, bl] at h
        subst h
        exact (sg_nd hd).1
      | fin => exact i0.elim
theorem wh_blanks {z : List Nat} {k : Nat} {m : Hm} : ∀ (b : Nat) (pre rest : List Nat) (n : Nat), z = pre ++ bl b ++ rest → z.length ≤ 2500 → whGo scB L1_scan (n + b) (scI z k pre.length) m = whGo scB L1_scan n (scI z k (pre.length + b)) m
  | 0, pre, rest, n, _, _ => rfl
  | b + 1, pre, rest, n, hz, hl => by
    have e : z = pre ++ 32 :: (bl b ++ rest) := by rw [hz]; simp [bl, List.replicate_succ]
    have s1 := sc_blank (pre := pre) (rest := bl b ++ rest) (n := n + b) (k := k) (m := m) (by rw [← e]; exact hl)
    rw [← e] at s1
    rw [show n + (b + 1) = n + b + 1 by omega, s1]
    have := wh_blanks (z := z) (k := k) (m := m) b (pre ++ [32]) rest n (by rw [hz]; simp [bl, List.replicate_succ]) hl
    rw [this]
    congr 1
    simp [scI]
    omega
theorem wh_items {z : List Nat} {m0 : Hm} {tail : List Nat} (hz : z.length ≤ 2500) : ∀ (its : List It) (pre : List Nat) (ts : List Tk) (n : Nat), z = pre ++ chs its ++ tail → (∀ i ∈ its, itOk i) →
    (∀ a b, its = a ++ b → (∃ i ∈ a, True) → sepOk (decide ((a.getLast?.map fun i => i.2.1) = some .num)) b → True) → (∀ a i b, its = a ++ i :: b → i.2.1 = .num → ∀ c, (chs b ++ tail)[0]? = some c → isDg c = false) → ts.length + its.length ≤ 2900 →
    whGo scB L1_scan (n + (chs its).length) (scI z m0.length pre.length) (m0 ++ [.lst (ts.map tokW)]) = whGo scB L1_scan (n + (chs its).length - (its.map fun i => i.1 + 1).sum) (scI z m0.length (pre.length + (chs its).length)) (m0 ++ [.lst ((ts ++ toks pre.length its).map tokW)])
  | [], pre, ts, n, e, hi, _, _, hl => by simp [chs, toks]
  | (b, k, w) :: r, pre, ts, n, e, hi, h0, hs, hl => by
    have i0 := hi _ List.mem_cons_self
    have hw : w ≠ [] ∧ w.length ≤ 6 := by
      cases k with
      | num => exact ⟨i0.1, i0.2.2⟩
      | sg c => rw [i0.1]; simp
      | fin => exact i0.elim
    obtain ⟨c, w', rfl⟩ : ∃ c w', w = c :: w' := by
      cases w with
      | nil => exact absurd rfl hw.1
      | cons c w' => exact ⟨c, w', rfl⟩
    have eq1 : (chs ((b, k, c :: w') :: r)).length = b + 1 + w'.length + (chs r).length := by simp [chs, bl]; omega
    -- blanks
    have e1 := wh_blanks (z := z) (k := m0.length) (m := m0 ++ [.lst (ts.map tokW)]) b pre (c :: w' ++ chs r ++ tail) (n + 1 + w'.length + (chs r).length) (by rw [e]; simp [chs]) hz
    rw [eq1, show n + (b + 1 + w'.length + (chs r).length) = n + 1 + w'.length + (chs r).length + b by omega, e1]
    -- the word
    have ez : z = (pre ++ bl b) ++ c :: (w' ++ chs r ++ tail) := by rw [e]; simp [chs]
    have ez2 : z = (pre ++ bl b) ++ (c :: w') ++ (chs r ++ tail) := by rw [e]; simp [chs]
    have lp : (pre ++ bl b).length = pre.length + b := by simp [bl]
    have ht : F_token_at [.p (.str (S z)), .p (.int ((pre.length + b : Nat) : Int))] (m0 ++ [.lst (ts.map tokW)]) = .ok (.p (tokD ⟨k, c :: w', ((pre.length + b + 1 : Nat) : Int)⟩)) (m0 ++ [.lst (ts.map tokW)]) := by
      cases k with
      | num =>
        have := q_token_num (pre := pre ++ bl b) (d := c :: w') (rest := chs r ++ tail) (m := m0 ++ [.lst (ts.map tokW)]) (by simp) i0.2.1 i0.2.2 (fun x hx => hs [] _ r rfl rfl x hx) (by rw [← ez2]; exact hz)
        rw [← ez2, lp] at this
        exact this
      | sg d =>
        obtain ⟨e2, hd⟩ := i0
        cases e2
        have := q_token_sg (pre := pre ++ bl b) (rest := chs r ++ tail) (m := m0 ++ [.lst (ts.map tokW)]) hd (by rw [List.nil_append] at ez; rw [← ez]; exact hz)
        rw [List.nil_append] at ez
        rw [← ez, lp] at this
        exact this
      | fin => exact i0.elim
    have hc : c ≠ 32 ∧ c < 1000 := by
      cases k with
      | num => have := dg_r (i0.2.1 c List.mem_cons_self); exact ⟨this.1, this.2.1⟩
      | sg d =>
        obtain ⟨e2, hd⟩ := i0
        cases e2
        have := sg_nd hd
        exact ⟨this.2.1, this.2.2.1⟩
      | fin => exact i0.elim
    have s2 := sc_add (pre := pre ++ bl b) (rest := w' ++ chs r ++ tail) (m0 := m0) (ts := ts) (c := c) (n := n + w'.length + (chs r).length) (t := ⟨k, c :: w', ((pre.length + b + 1 : Nat) : Int)⟩) (m := m0 ++ [.lst (ts.map tokW)]) rfl (by simp at hl; omega) hc.1 hc.2 hw.2 (by rw [← ez]; exact hz) (by rw [← ez, lp]; exact ht)
    rw [← ez, lp] at s2
    rw [show n + 1 + w'.length + (chs r).length = n + w'.length + (chs r).length + 1 by omega, s2]
    have lp2 : (pre ++ bl b ++ c :: w').length = pre.length + b + (c :: w').length := by simp [bl]; omega
    have ih := wh_items (z := z) (m0 := m0) (tail := tail) hz r (pre ++ bl b ++ c :: w') (ts ++ [⟨k, c :: w', ((pre.length + b + 1 : Nat) : Int)⟩]) (n + w'.length) (by rw [e]; simp [chs]) (fun i hi2 => hi i (List.mem_cons_of_mem _ hi2)) (fun _ _ _ _ _ => trivial)
      (fun a i b' e' hk => hs ((b, k, c :: w') :: a) i b' (by rw [e']; rfl) hk) (by simp at hl ⊢; omega)
    rw [lp2] at ih
    rw [ih]
    have a1 : n + w'.length + (chs r).length - (r.map fun i => i.1 + 1).sum = n + w'.length + (chs r).length + 1 + b - ((b, k, c :: w') :: r |>.map fun i : It => i.1 + 1).sum := by simp; omega
    rw [a1]
    congr 2
    · simp [scI]; omega
    · simp [toks]
theorem it_sum : ∀ its : List It, (∀ i ∈ its, itOk i) → (its.map fun i => i.1 + 1).sum ≤ (chs its).length
  | [], _ => by simp [chs]
  | (b, k, w) :: r, h => by
    have ih := it_sum r fun i hi => h i (List.mem_cons_of_mem _ hi)
    have i0 := h _ List.mem_cons_self
    have : 1 ≤ w.length := by
      cases k with
      | num => exact List.length_pos_iff.mpr i0.1
      | sg c => rw [i0.1]; simp
      | fin => exact i0.elim
    simp [chs, bl]
    omega
theorem sep_num {t : Nat} : ∀ {its : List It} {pn : Bool}, (∀ i ∈ its, itOk i) → sepOk pn its → ∀ a i b, its = a ++ i :: b → i.2.1 = .num → sepOk true b
  | [], _, _, _, a, i, b, e, _ => by simp at e
  | (b0, k, w) :: r, pn, hi, hs, [], i, b, e, hk => by
    simp at e
    obtain ⟨rfl, rfl⟩ := e
    have hk : k = .num := hk
    have := hs.2
    rw [hk] at this
    simpa using this
  | (b0, k, w) :: r, pn, hi, hs, x :: a, i, b, e, hk => by
    simp at e
    exact sep_num (t := t) (fun i h => hi i (List.mem_cons_of_mem _ h)) hs.2 a i b e.2 hk
theorem nl_of : ∀ its : List It, (∀ i ∈ its, itOk i) → 10 ∉ chs its
  | [], _ => by simp [chs]
  | (b, k, w) :: r, h => by
    have ih := nl_of r fun i hi => h i (List.mem_cons_of_mem _ hi)
    have i0 := h _ List.mem_cons_self
    have hw : 10 ∉ w := by
      cases k with
      | num => intro q; exact (dg_r (i0.2.1 10 q)).2.2 rfl
      | sg c => rw [i0.1]; intro q; simp at q; exact (sg_nd i0.2).2.2.2 q.symm
      | fin => exact i0.elim
    simp [chs, bl, hw, ih]
/-! ### scan -/
theorem q_check_text {z : List Nat} {m : Hm} (hl : z.length ≤ 2000) (hn : 10 ∉ z) : F_check_text [.p (.str (S z))] m = .ok (.p .none) m := by
  unfold F_check_text mkFn m_check_text
  have h1 : ¬ ((2000 : Int) < (z.length : Nat)) := by omega
  have h2 : ("\n" : Str) = S [10] := by decide +kernel
  simp only [startE, List.length_cons, List.length_nil, List.map_cons, List.map_nil, decide_true, if_true, q_if, q_skip, r_bor, r_bnot, r_btru, r_bval, r_op1, r_op2, r_cb, r_acons, r_anil, r_var, r_c, List.cons_append, List.nil_append, List.replicate, List.getElem?_cons_zero, bind_ok, o_lenS (show z.length ≤ 16777216 by omega), o_gt, decide_eq_false h1, r_boolOf, h2, o_in1, List.toList_toArray, hn, decide_false, isiM, tyN]
  simp [isiA, endFn_p]
theorem pf_stops {T v : W} : putFW "stops" v [(("tokens" : Str), T)] = [(("tokens" : Str), T), (("stops" : Str), v)] := by
  unfold putFW putFW
  rw [if_neg (by decide +kernel)]
theorem pf_at {T v u : W} : putFW "at" u [(("tokens" : Str), T), (("stops" : Str), v)] = [(("tokens" : Str), T), (("stops" : Str), v), (("at" : Str), u)] := by
  unfold putFW putFW putFW
  rw [if_neg (by decide +kernel), if_neg (by decide +kernel)]
theorem pf_tok {T : W} : putFW "tokens" T [] = [(("tokens" : Str), T)] := rfl
theorem q_init {m : Hm} {T : W} {st : Bool} {fs : List (Str × W)} : F_Parser___init__ [.loc m.length, T, .p (.bool st)] (m ++ [.ins "Parser" []]) = endFn true (m.length + 1) (.p .none) (m ++ [.ins "Parser" [("tokens", T), ("stops", .p (.bool st)), ("at", .p (.int 0))]]) := by
  unfold F_Parser___init__ mkFn m_Parser___init__
  have h : (m ++ [Cell.ins "Parser" []]).length = m.length + 1 := by simp
  simp [startE, sSetF, insAt, pf_stops, pf_at, pf_tok, h]
theorem q_scan {its : List It} {t : Nat} {m : Hm} (hi : ∀ i ∈ its, itOk i) (hs : sepOk false its) (hl : (chs its).length + t ≤ 2000) (hm : okM m.length m = true) :
    F_scan [.p (.str (S (chs its ++ bl t)))] m = .ok (.p (.list ((toks 0 its ++ [(Tk.mk .fin [] (((chs its).length + t + 1 : Nat) : Int))]).map tokD))) m := by
  have lz : (chs its ++ bl t).length = (chs its).length + t := by simp [bl]
  have n10 : 10 ∉ chs its ++ bl t := by simp [nl_of its hi, bl]
  have hsum := it_sum its hi
  have l2 : its.length ≤ 2000 := by
    have : its.length ≤ (its.map fun i => i.1 + 1).sum := by
      clear hs hl n10 lz hsum hi
      induction its with
      | nil => simp
      | cons i r ih => simp; omega
    omega
  have w1 := wh_items (z := chs its ++ bl t) (m0 := m) (tail := bl t) (by omega) its [] [] (3000 - (chs its).length) (by simp) hi (fun _ _ _ _ _ => trivial) (fun a i b e hk => hd_nd (fun j hj => hi j (by rw [e]; exact List.mem_append_right _ (List.mem_cons_of_mem _ hj))) (sep_num (t := t) hi hs a i b e hk)) (by simp; omega)
  rw [show 3000 - (chs its).length + (chs its).length = 3000 by omega] at w1
  simp only [List.length_nil, Nat.zero_add, List.map_nil, List.nil_append] at w1
  obtain ⟨n, hn⟩ : ∃ n, 3000 - (its.map fun i => i.1 + 1).sum = n + 1 + t := ⟨3000 - (its.map fun i => i.1 + 1).sum - 1 - t, by omega⟩
  rw [hn, wh_blanks (z := chs its ++ bl t) t (chs its) [] (n + 1) (by simp) (by omega)] at w1
  have w2 : scB (scI (chs its ++ bl t) m.length ((chs its).length + t)) (m ++ [.lst ((toks 0 its).map tokW)]) = .ok false (m ++ [.lst ((toks 0 its).map tokW)]) := by
    rw [← lz]; exact scB_f (by omega)
  rw [wh_end w2] at w1
  unfold F_scan mkFn m_scan
  have c1 := q_check_text (m := m) (show (chs its ++ bl t).length ≤ 2000 by omega) n10
  have la : lstAt (.loc m.length) (m ++ [.lst ((toks 0 its).map tokW)]) = true := lstAt_loc app_last
  have ap : appendM (.loc m.length) [.p (tokD (Tk.mk .fin [] (((chs its).length + t + 1 : Nat) : Int)))] (m ++ [.lst ((toks 0 its).map tokW)]) = .ok (.p .none) (m ++ [.lst ((toks 0 its ++ [(Tk.mk .fin [] (((chs its).length + t + 1 : Nat) : Int))]).map tokW)]) := by
    rw [o_append app_last (by simp [toks_len]; omega)]
    simp [List.set_append_right, tokW]
  have ic : (((chs its).length + t : Nat) : Int) + 1 = (((chs its).length + t + 1 : Nat) : Int) := by omega
  have tp : mkTup [.p (.str "end"), .p (.str ""), .p (.int (((chs its).length + t + 1 : Nat) : Int))] = .p (tokD (Tk.mk .fin [] (((chs its).length + t + 1 : Nat) : Int))) := by
    have : ("" : Str) = S [] := by decide +kernel
    simp [mkTup, tokD, kdS, this]
  have ez : (0 + 1 + 1 + 1 ≤ sizeLine) = True := by simp [sizeLine_eq]
  have ez0 : (0 ≤ sizeLine) = True := by simp
  simp only [startE, List.length_cons, List.length_nil, List.map_cons, List.map_nil, decide_true, if_true, q_seq, q_expr, q_set, q_while, q_ret, r_call, r_cb, r_c, r_var, r_lstL, r_acons, r_anil, List.cons_append, List.nil_append, List.replicate, List.getElem?_cons_succ, List.getElem?_cons_zero, bind_ok, c1, st_ok, List.set, ez0]
  change retE true m.length (match whGo scB L1_scan 3000 (scI (chs its ++ bl t) m.length 0) (m ++ [.lst []]) with | some (.nx s1, m1) => _ | r => r) = _
  rw [w1]
  simp only [scI, List.length_cons, List.length_nil, q_seq, q_expr, q_ret, r_lm, r_cb, r_c, r_var, r_tup, r_op2, r_acons, r_anil, List.getElem?_cons_succ, List.getElem?_cons_zero, bind_ok, la, if_true, o_lenS (show (chs its ++ bl t).length ≤ 16777216 by omega), o_add, lz, ic, ez, tp, ap, st_ok, ret_rt]
  exact end_RD rfl hm (.inr ⟨m.length, rfl, Nat.le_refl _, by rw [app_last, List.map_map]; rfl⟩)
/-- a strange word behind it -/
theorem q_scan_bad {its : List It} {b t : Nat} {w : List Nat} {x : Exn} {m : Hm} (hi : ∀ i ∈ its, itOk i) (hs : sepOk false its) (hl : (chs its).length + b + w.length + t ≤ 2000) (hm : okM m.length m = true) {c : Nat} {w' : List Nat} (hw : w = c :: w') (hc : c ≠ 32 ∧ c < 1000) (h10 : 10 ∉ w) (hlast : ∀ a i, its = a ++ [i] → i.2.1 = .num → isDg c = true → 1 ≤ b)
    (hx : okWs m.length (x.fs.map (·.2)) = true) (ht : ∀ m', F_token_at [.p (.str (S ((chs its ++ bl b) ++ w ++ bl t))), .p (.int (((chs its ++ bl b).length : Nat) : Int))] m' = .exc x m') :
    F_scan [.p (.str (S (chs its ++ bl b ++ w ++ bl t)))] m = .exc x m := by
  subst hw
  have lz : (chs its ++ bl b ++ (c :: w') ++ bl t).length = (chs its).length + b + (c :: w').length + t := by simp [bl]; omega
  have n10 : 10 ∉ chs its ++ bl b ++ (c :: w') ++ bl t := by simp [nl_of its hi, bl] at h10 ⊢; exact h10
  have hsum := it_sum its hi
  have l2 : its.length ≤ 2000 := by
    have : its.length ≤ (its.map fun i => i.1 + 1).sum := by
      clear hs hl n10 lz hsum hi hlast ht
      induction its with
      | nil => simp
      | cons i r ih => simp; omega
    omega
  have w1 := wh_items (z := chs its ++ bl b ++ (c :: w') ++ bl t) (m0 := m) (tail := bl b ++ (c :: w') ++ bl t) (by omega) its [] [] (3000 - (chs its).length) (by simp) hi (fun _ _ _ _ _ => trivial) (fun a i r e hk y hy => by
    cases r with
    | cons j r =>
      have q1 : ∀ j' ∈ j :: r, itOk j' := fun j' hj => hi j' (by rw [e]; exact List.mem_append_right _ (List.mem_cons_of_mem _ hj))
      refine hd_nd (t := 0) q1 (sep_num (t := t) hi hs a i _ e hk) y ?_
      have : 0 < (chs (j :: r)).length := by
        have := it_sum _ q1
        simp at this
        omega
      rw [List.getElem?_append_left this] at hy
      rw [List.getElem?_append_left this]
      exact hy
    | nil =>
      by_cases hd : isDg c = true
      · have := hlast a i e hk hd
        obtain ⟨b', rfl⟩ : ∃ b', b = b' + 1 := ⟨b - 1, by omega⟩
        simp [chs, bl, List.replicate_succ] at hy
        subst hy; rfl
      · cases b with
        | zero => simp [chs, bl] at hy; subst hy; simpa using hd
        | succ b => simp [chs, bl, List.replicate_succ] at hy; subst hy; rfl) (by simp; omega)
  rw [show 3000 - (chs its).length + (chs its).length = 3000 by omega] at w1
  simp only [List.length_nil, Nat.zero_add, List.map_nil, List.nil_append] at w1
  obtain ⟨n, hn⟩ : ∃ n, 3000 - (its.map fun i => i.1 + 1).sum = n + 1 + b := ⟨3000 - (its.map fun i => i.1 + 1).sum - 1 - b, by simp at hl; omega⟩
  have ez : chs its ++ bl b ++ (c :: w') ++ bl t = (chs its ++ bl b) ++ c :: (w' ++ bl t) := by simp
  rw [hn, wh_blanks (z := chs its ++ bl b ++ (c :: w') ++ bl t) b (chs its) ((c :: w') ++ bl t) (n + 1) (by simp) (by omega)] at w1
  have w2 := sc_exc (pre := chs its ++ bl b) (rest := w' ++ bl t) (m0 := m) (ts := toks 0 its) (c := c) (n := n) (x := x) (m := m ++ [.lst ((toks 0 its).map tokW)]) rfl hc.1 hc.2 (by rw [← ez]; omega) (by rw [← ez]; exact ht _)
  rw [← ez, show (chs its ++ bl b).length = (chs its).length + b by simp [bl]] at w2
  rw [w2] at w1
  unfold F_scan mkFn m_scan
  have c1 := q_check_text (m := m) (show (chs its ++ bl b ++ (c :: w') ++ bl t).length ≤ 2000 by omega) n10
  have ez0 : (0 ≤ sizeLine) = True := by simp
  simp only [startE, List.length_cons, List.length_nil, List.map_cons, List.map_nil, decide_true, if_true, q_seq, q_expr, q_set, q_while, q_ret, r_call, r_cb, r_c, r_var, r_lstL, r_acons, r_anil, List.cons_append, List.nil_append, List.replicate, List.getElem?_cons_succ, List.getElem?_cons_zero, bind_ok, c1, st_ok, List.set, ez0]
  change retE true m.length (match whGo scB L1_scan 3000 (scI (chs its ++ bl b ++ (c :: w') ++ bl t) m.length 0) (m ++ [.lst []]) with | some (.nx s1, m1) => _ | r => r) = _
  rw [w1]
  simp only [ret_ex]
  exact endX_app hm hx
end Mir.K68

namespace Mir.K68
open PySem PySem.Spec PyProof.Rows L2
/-! ### dict displays -/
theorem putW_new {kvs : List (Key × W)} {k : Key} {w : W} (h : k ∉ kvs.map (·.1)) : putW kvs k w = kvs ++ [(k, w)] := by
  unfold putW
  rw [if_neg]
  intro q
  rw [List.any_eq_true] at q
  obtain ⟨x, hx, e⟩ := q
  exact h (List.mem_map.mpr ⟨x, hx, of_decide_eq_true e⟩)
theorem merge_nd : ∀ (l kvs : List (Key × W)), ((kvs ++ l).map (·.1)).Nodup → mergeW kvs l = kvs ++ l
  | [], kvs, _ => by simp [mergeW]
  | (k, w) :: l, kvs, h => by
    have h2 : k ∉ kvs.map (·.1) := by
      simp [List.nodup_append] at h
      intro q
      obtain ⟨x, hx, rfl⟩ := List.mem_map.mp q
      exact (h.2.2 x.1 x.2 (by simpa using hx)).1 rfl
    have e : mergeW kvs ((k, w) :: l) = mergeW (putW kvs k w) l := rfl
    rw [e, putW_new h2, merge_nd l (kvs ++ [(k, w)]) (by simpa using h)]
    simp
theorem disp_of {ps : List (EX W × EX W)} {s : Ev} {m e : Hm} {l : List (Key × W)} (h : dpGo ps s (m ++ [.dct []]) = .ok l (m ++ .dct [] :: e)) (hl : l.length ≤ 15) (hn : (l.map (·.1)).Nodup) : eDisp ps s m = .ok (.loc m.length) (m ++ .dct l :: e) := by
  unfold eDisp
  rw [h]
  simp only [bind_ok, decide_eq_true hl, if_true]
  have g : (m ++ Cell.dct [] :: e)[m.length]? = some (.dct []) := by simp
  rw [g]
  simp only
  rw [merge_nd l [] (by simpa using hn)]
  simp
/-! ### how a token is told -/
def shw : Kd → Str
  | .num => "a number"
  | .sg c => S [34, c, 34]
  | .fin => "the end"
/-- kinds as they come, with their words -/
def kOk : Kd → List Nat → Prop
  | .num, w => w ≠ [] ∧ ∀ c ∈ w, isDg c = true
  | .sg c, w => w = [c] ∧ c ∈ sgs
  | .fin, w => w = []
theorem shw_ok {k : Kd} {w : List Nat} (h : kOk k w) : PySem.PyData.strOk (shw k) = true := by
  cases k with
  | num => decide +kernel
  | fin => decide +kernel
  | sg c =>
    refine asc_ok fun x hx => ?_
    have := (sg_nd h.2).2.2.1
    simp at hx
    rcases hx with rfl | rfl | rfl <;> omega
theorem str_num : ("a number" : Str) = S [97, 32, 110, 117, 109, 98, 101, 114] := by decide +kernel
theorem str_end : ("the end" : Str) = S [116, 104, 101, 32, 101, 110, 100] := by decide +kernel
theorem str_q : ("\"" : Str) = S [34] := by decide +kernel
theorem shw_inj : ∀ {a b : Kd}, shw a = shw b → a = b
  | .num, .num, _ => rfl
  | .fin, .fin, _ => rfl
  | .sg c, .sg d, h => by have := S_inj h; simp at this; rw [this]
  | .num, .fin, h => by simp only [shw, str_num, str_end] at h; have := S_inj h; simp at this
  | .fin, .num, h => by simp only [shw, str_num, str_end] at h; have := S_inj h; simp at this
  | .num, .sg d, h => by simp only [shw, str_num] at h; have := S_inj h; simp at this
  | .sg d, .num, h => by simp only [shw, str_num] at h; have := S_inj h; simp at this
  | .fin, .sg d, h => by simp only [shw, str_end] at h; have := S_inj h; simp at this
  | .sg d, .fin, h => by simp only [shw, str_end] at h; have := S_inj h; simp at this
theorem o_addS {a b : List Nat} {m : Hm} (h : a.length + b.length ≤ 16777216) : addM (.p (.str (S a))) (.p (.str (S b))) m = .ok (.p (.str (S (a ++ b)))) m := by
  have z : (S a).length + (S b).length ≤ sizeLine := by rw [S_len, S_len, sizeLine_eq]; exact h
  show (if (S a).length + (S b).length ≤ sizeLine then (.ok (.p (.str (S a ++ S b))) m : Res W) else .stuck) = _
  rw [if_pos z, S_app]
theorem kd_ok (k : Kd) : PySem.PyData.strOk (kdS k) = true := by
  cases k with
  | num => decide +kernel
  | fin => decide +kernel
  | sg c =>
    show PySem.PyData.strOk ("sign" : Str) = true
    decide +kernel
def kdd : List (Key × W) := [(.inr "number", .p (.str "a number")), (.inr "end", .p (.str "the end"))]
theorem q_shown_d {d : PyData} {kn v : Str} {m : Hm} (h0 : idxM (.p d) (.p (.int 0)) m = .ok (.p (.str kn)) m) (ok : PySem.PyData.strOk kn = true) (e : kn ≠ "sign") (hv : getW kdd (.inr kn) = some (.p (.str v))) (hm : okM m.length m = true) : F_shown [.p d] m = .ok (.p (.str v)) m := by
  unfold F_shown mkFn m_shown
  have z : PySem.PyData.strOk ("sign" : Str) = true := by decide +kernel
  have d' : ∀ s, eDisp [((eC (.str "number")), (eC (.str "a number"))), ((eC (.str "end")), (eC (.str "the end")))] s m = .ok (.loc m.length) (m ++ [.dct kdd]) := fun s =>
    disp_of (l := kdd) (e := []) rfl (by decide) (by decide +kernel)
  have g : dctAt (.loc m.length) (m ++ [.dct kdd]) = some kdd := by simp [dctAt]
  have h1 : idxM (.p d) (.p (.int 0)) (m ++ [.dct kdd]) = .ok (.p (.str kn)) (m ++ [.dct kdd]) := by
    unfold idxM at h0 ⊢
    cases d with
    | tuple ds =>
      simp only at h0 ⊢
      cases q : atI ds 0 with
      | none => rw [q] at h0; cases h0
      | some x => rw [q] at h0; cases h0; rfl
    | list ds =>
      simp only at h0 ⊢
      cases q : atI ds 0 with
      | none => rw [q] at h0; cases h0
      | some x => rw [q] at h0; cases h0; rfl
    | str z =>
      simp only at h0 ⊢
      split at h0
      · rename_i hz
        rw [if_pos hz]
        cases q : atI z.cps.toList 0 with
        | none => rw [q] at h0; cases h0
        | some x => rw [q] at h0; cases h0; rfl
      · cases h0
    | _ => cases h0
  simp only [startE, List.length_cons, List.length_nil, List.map_cons, List.map_nil, decide_true, if_true, q_seq, q_if, q_ret, q_skip, r_bval, r_op2, r_c, r_var, List.cons_append, List.nil_append, List.replicate, List.getElem?_cons_zero, bind_ok, h0, o_eqS ok z, e, decide_false, Bool.false_eq_true, if_false, r_boolOf, st_ok, eDGet, d', h1, g, keyW, keyP, hv, ret_rt]
  exact end_p rfl hm
theorem q_shown {t : Tk} {m : Hm} (h : kOk t.k t.w) (hm : okM m.length m = true) : F_shown [.p (tokD t)] m = .ok (.p (.str (shw t.k))) m := by
  obtain ⟨k, w, c⟩ := t
  cases k with
  | sg d =>
    have z : PySem.PyData.strOk ("sign" : Str) = true := by decide +kernel
    obtain ⟨rfl, hd⟩ := h
    have i0 : idxM (.p (tokD ⟨.sg d, [d], c⟩)) (.p (.int 0)) m = .ok (.p (.str "sign")) m := rfl
    have i1 : idxM (.p (tokD ⟨.sg d, [d], c⟩)) (.p (.int 1)) m = .ok (.p (.str (S [d]))) m := rfl
    have c1 : (bVal (eOp2 (eqM false) (eOp2 idxM (eVar 0) (eC (.int 0))) (eC (.str "sign")))) [some (.p (tokD ⟨.sg d, [d], c⟩))] m = .ok true m := by
      simp only [r_bval, r_op2, r_c, r_var, List.getElem?_cons_zero, bind_ok, i0, o_eqS z z, decide_true, r_boolOf]
    have e1 : eOp2 addM (eOp2 addM (eC (.str "\"")) (eOp2 idxM (eVar 0) (eC (.int 1)))) (eC (.str "\"")) [some (.p (tokD ⟨.sg d, [d], c⟩))] m = .ok (.p (.str (shw (.sg d)))) m := by
      simp only [r_op2, r_c, r_var, List.getElem?_cons_zero, bind_ok, i1]
      rw [str_q, o_addS (by simp), bind_ok, o_addS (by simp)]
      rfl
    unfold F_shown mkFn m_shown
    change retE true m.length (sSeq _ _ [some (.p (tokD ⟨.sg d, [d], c⟩))] m) = _
    rw [q_seq, q_if, c1]
    simp only [st_ok, if_true, q_ret]
    rw [e1]
    simp only [st_ok, ret_rt, endFn_p]
  | num => exact q_shown_d (kn := "number") rfl (by decide +kernel) (by decide +kernel) (by kernel_rfl) hm
  | fin => exact q_shown_d (kn := "end") rfl (by decide +kernel) (by decide +kernel) (by kernel_rfl) hm
/-! ### in_order, joined -/
def ordK : List Kd := [.num, .sg 58, .sg 44, .sg 59, .sg 45, .sg 61, .fin]
def ordOf (os : List Kd) : List Kd := ordK.filter fun k => decide (k ∈ os)
def shD (k : Kd) : PyData := .str (shw k)
theorem any_shw (k : Kd) (os : List Kd) : ((os.map shD).any fun z => PyData.eqv z (shD k)) = decide (k ∈ os) := by
  induction os with
  | nil => rfl
  | cons o r ih =>
    rw [List.map_cons, List.any_cons, ih]
    have : PyData.eqv (shD o) (shD k) = decide (o = k) := by
      unfold shD
      rw [eqv_str, Bool.eq_iff_iff]
      simp only [decide_eq_true_eq]
      exact ⟨shw_inj, fun h => by rw [h]⟩
    rw [this, Bool.eq_iff_iff]
    simp only [Bool.or_eq_true, decide_eq_true_eq, List.mem_cons]
    exact or_congr eq_comm Iff.rfl
theorem o_inOs {k : Kd} {os : List Kd} {m : Hm} (neg : Bool) : inM neg (.p (shD k)) (.p (.tuple (os.map shD))) m = .ok (.p (.bool (if neg = true then !decide (k ∈ os) else decide (k ∈ os)))) m := by
  have f : (os.map shD).all flatP = true := by
    rw [List.all_eq_true]
    intro x hx
    obtain ⟨o, _, rfl⟩ := List.mem_map.mp hx
    rfl
  have f2 : flatP (shD k) = true := rfl
  simp only [inM, rd_p]
  rw [f, f2]
  simp only [Bool.and_self, if_true, any_shw]
theorem o_inXOs {k : Kd} {os : List Kd} {m : Hm} : inX (.p (shD k)) (.p (.tuple (os.map shD))) m = .ok (.p (.bool (decide (k ∈ os)))) m := by
  have : inX (.p (shD k)) (.p (.tuple (os.map shD))) m = inM false (.p (shD k)) (.p (.tuple (os.map shD))) m := rfl
  rw [this, o_inOs]
  simp
theorem q_in_order {os : List Kd} {m : Hm} : F_in_order [.p (.tuple (os.map shD))] m = .ok (.p (.list ((ordOf os).map shD))) m := by
  unfold F_in_order mkFn m_in_order C1_in_order C2_in_order
  have sg : signsOf (":,;-=" : Str) = sgs.map fun c => .p (.str (S [c])) := by
    unfold signsOf
    rw [sg_of]
  have ez : (0 + 1 ≤ sizeLine) = True := by simp [sizeLine_eq]
  simp only [startE, List.length_cons, List.length_nil, List.map_cons, List.map_nil, decide_true, if_true, q_seq, q_set, q_ret, r_op2, r_lst, r_acons, r_anil, r_c, bind_ok, ez, allP_cons, allP_nil, Option.map]
  rw [lc_map sgs (fun c => .p (.str (S [c]))) (fun c => shD (.sg c)) (gs := []) (by
    simp only [iStrW, r_c, bind_ok, sg]) rfl (by decide) fun c hc => ⟨_, rfl, by
      simp only [r_op2, r_c, r_var, bind_ok, wipeE, List.replicate, List.set, List.length_cons, List.length_nil, List.getElem?_cons_succ, List.getElem?_cons_zero, List.cons_append, List.nil_append, str_q, o_addS (show [34].length + [c].length ≤ 16777216 by simp)]
      rw [o_addS (by simp)]
      rfl⟩]
  have l1 : addM (.p (.list [.str "a number"])) (.p (.list (sgs.map fun c => shD (.sg c)))) m = .ok (.p (.list (.str "a number" :: sgs.map fun c => shD (.sg c)))) m := o_addL (by decide)
  have l2 : addM (.p (.list (.str "a number" :: sgs.map fun c => shD (.sg c)))) (.p (.list [.str "the end"])) m = .ok (.p (.list (ordK.map shD))) m := by rw [o_addL (by decide)]; rfl
  simp only [bind_ok, l1, l2, st_ok, List.cons_append, List.nil_append, List.replicate, List.set]
  rw [lc_data ordK (fun k => .p (shD k)) (fun k => decide (k ∈ os)) shD (gs := []) (by
    simp only [r_iseq, r_var, List.getElem?_cons_succ, List.getElem?_cons_zero, bind_ok]
    rfl) rfl (by decide) fun k hk => ⟨_, rfl, by
      simp only [r_bval, r_op2, r_var, bind_ok, wipeE, List.set, List.getElem?_cons_succ, List.getElem?_cons_zero, o_inXOs, r_boolOf], fun _ => by
      simp only [r_var, wipeE, List.set, List.getElem?_cons_succ, List.getElem?_cons_zero]⟩]
  simp only [st_ok, ret_rt, endFn_p]
  rfl
end Mir.K68

namespace Mir.K68
open PySem PySem.Spec PyProof.Rows L2
/-! ### the words -/
def jn (ks : List Kd) : Str := if ks.length = 1 then shw (ks.headD .fin) else Txt.join ", " (ks.dropLast.map shw) ++ " or " ++ shw (ks.getLastD .fin)
def ew (ks : List Kd) : Str := "expected " ++ jn ks
/-- lists of kinds whose words are no trouble -/
structure Jn (ks : List Kd) : Prop where
  ne : ks ≠ []
  len : ks.length ≤ 7
  sh : ∀ k ∈ ks, (shw k).length ≤ 20
  j : (jn ks).length ≤ 1000
  or_ : (Txt.join ", " (ks.dropLast.map shw)).length ≤ 500
theorem str_len_app (a b : Str) : (a ++ b).length = a.length + b.length := by
  show (Str.append a b).cps.size = _
  simp [Str.append, Str.length]
theorem o_addSt {a b : Str} {m : Hm} (h : a.length + b.length ≤ 16777216) : addM (.p (.str a)) (.p (.str b)) m = .ok (.p (.str (a ++ b))) m := by
  have z : a.length + b.length ≤ sizeLine := by rw [sizeLine_eq]; exact h
  show (if a.length + b.length ≤ sizeLine then (.ok (.p (.str (a ++ b))) m : Res W) else .stuck) = _
  rw [if_pos z]
theorem sum_le : ∀ (ks : List Kd), (∀ k ∈ ks, (shw k).length ≤ 20) → ((ks.map shw).map (·.length)).sum ≤ 20 * ks.length
  | [], _ => by simp
  | k :: ks, h => by
    have ih := sum_le ks fun x hx => h x (List.mem_cons_of_mem _ hx)
    have h0 := h k List.mem_cons_self
    simp only [List.map_cons, List.sum_cons, List.length_cons]
    omega
theorem shD_strs (ks : List Kd) : strsOf (ks.map shD) = some (ks.map shw) := by
  have : ks.map shD = (ks.map shw).map PyData.str := by simp [shD]
  rw [this, strsOf_map]
theorem cut_butlast {α : Type} (xs : List α) (h : xs ≠ []) : cutA xs none (some (-1)) = xs.dropLast := by
  have h0 : 0 < xs.length := List.length_pos_iff.mpr h
  have e : HT.sIx xs.length xs.length (some (-1)) = xs.length - 1 := by
    simp [HT.sIx]
    omega
  unfold cutA
  rw [e]
  simp [HT.sIx, List.dropLast_eq_take]
theorem list_last {α : Type} (xs : List α) (d : α) (h : xs ≠ []) : xs = xs.dropLast ++ [xs.getLastD d] := by
  rw [List.getLastD_eq_getLast?, List.getLast?_eq_some_getLast h]
  exact (List.dropLast_concat_getLast h).symm
theorem o_last {α : Type} (xs : List α) (d : α) (h : xs ≠ []) : atI xs (-1) = some (xs.getLastD d) := by
  conv => lhs; rw [list_last xs d h]
  exact atI_last _ _
def joinE : EX W := (eOp2 addM (eOp2 addM (eJoin (eC (.str ", ")) (eCut (eVar 0) oNone (oSome (eOp1 negM (eC (.int 1)))))) (eC (.str " or "))) (eOp2 idxM (eVar 0) (eOp1 negM (eC (.int 1)))))
theorem q_joinE {ks : List Kd} {s : Ev} {m : Hm} (h : Jn ks) (h1 : ks.length ≠ 1) (hs : s[0]? = some (some (.p (.list (ks.map shD))))) : joinE s m = .ok (.p (.str (jn ks))) m := by
  have e0 : (ks.map shD) ≠ [] := by simpa using h.ne
  have e1 : cutA (ks.map shD) none (some (-1)) = ks.dropLast.map shD := by rw [cut_butlast _ e0, List.map_dropLast]
  have e2 : atI (ks.map shD) (-1) = some (.str (shw (ks.getLastD .fin))) := by
    have := o_last (ks.map shD) (shD .fin) e0
    rw [this, List.getLastD_eq_getLast?, List.getLastD_eq_getLast?, List.getLast?_map, List.getLast?_eq_some_getLast h.ne]
    rfl
  have z1 : ((ks.dropLast.map shw).map (·.length)).sum + (ks.dropLast.map shw).length * (", " : Str).length ≤ 16777216 := by
    have a := sum_le ks.dropLast fun k hk => h.sh k (List.dropLast_subset _ hk)
    have b : (", " : Str).length = 2 := by decide +kernel
    have c := h.len
    simp at a ⊢
    rw [b]
    omega
  have b2 : (" or " : Str).length = 4 := by decide +kernel
  have c2 := h.or_
  have c3 : (shw (ks.getLastD .fin)).length ≤ 20 := by
    rw [show ks.getLastD .fin = ks.getLast h.ne by simp [List.getLastD_eq_getLast?, List.getLast?_eq_some_getLast h.ne]]
    exact h.sh _ (List.getLast_mem h.ne)
  unfold joinE
  simp only [r_op2, eJoin, r_c, bind_ok, isStr, if_true, eCut, r_var, hs, oNone, oSome, r_op1, o_neg1, cutM, e1, joinM, rd_p, shD_strs, decide_eq_true z1]
  rw [o_addSt (by rw [b2]; omega), bind_ok]
  simp only [idxM, e2, bind_ok]
  rw [o_addSt (by rw [str_len_app, b2]; omega)]
  simp only [jn, h1, if_false]
theorem q_joined {ks : List Kd} {m : Hm} (h : Jn ks) : F_joined [.p (.list (ks.map shD))] m = .ok (.p (.str (jn ks))) m := by
  have c : (bVal (eOp2 (eqM false) (eCB lenM (aCons (eVar 0) aNil)) (eC (.int 1)))) [some (.p (.list (ks.map shD)))] m = .ok (decide (ks.length = 1)) m := by
    simp only [r_bval, r_op2, r_cb, r_acons, r_anil, r_c, r_var, List.getElem?_cons_zero, bind_ok, o_lenL, List.length_map, o_eqI, r_boolOf]
    congr 1
    rw [Bool.eq_iff_iff]
    simp
    omega
  unfold F_joined mkFn m_joined
  change retE true m.length (sSeq _ _ [some (.p (.list (ks.map shD)))] m) = _
  rw [q_seq, q_if, c]
  by_cases h1 : ks.length = 1
  · obtain ⟨k, rfl⟩ := List.length_eq_one_iff.mp h1
    simp [jn, shD, endFn_p]
  · simp only [decide_eq_false h1, st_ok, Bool.false_eq_true, if_false, q_skip, q_ret]
    have := q_joinE (s := [some (.p (.list (ks.map shD)))]) (m := m) h h1 rfl
    unfold joinE at this
    rw [this]
    simp only [st_ok, ret_rt, endFn_p]
theorem q_listed {ks : List Kd} {m : Hm} (h : Jn ks) : F__law_listed [.p (.list (ks.map shD))] m = .ok (.p (.str (jn ks))) m := q_joined h
/-! ### the parser's cell -/
def pc (T : List Tk) (st : Bool) (i : Nat) : Cell := .ins "Parser" [(("tokens" : Str), .p (.list (T.map tokD))), (("stops" : Str), .p (.bool st)), (("at" : Str), .p (.int (i : Nat)))]
section
variable {T : List Tk} {st : Bool} {i n : Nat} {m : Hm}
theorem g_tok {a b c : W} : getFW "tokens" [(("tokens" : Str), a), (("stops" : Str), b), (("at" : Str), c)] = some a := by kernel_rfl
theorem g_stop {a b c : W} : getFW "stops" [(("tokens" : Str), a), (("stops" : Str), b), (("at" : Str), c)] = some b := by kernel_rfl
theorem g_at {a b c : W} : getFW "at" [(("tokens" : Str), a), (("stops" : Str), b), (("at" : Str), c)] = some c := by kernel_rfl
theorem g_put {a b c d : W} : putFW "at" d [(("tokens" : Str), a), (("stops" : Str), b), (("at" : Str), c)] = [(("tokens" : Str), a), (("stops" : Str), b), (("at" : Str), d)] := by kernel_rfl
theorem ins_pc (h : m[n]? = some (pc T st i)) : insAt "Parser" (.loc n) m = some (n, [(("tokens" : Str), .p (.list (T.map tokD))), (("stops" : Str), .p (.bool st)), (("at" : Str), .p (.int (i : Nat)))]) := by
  simp [insAt, h, pc]
theorem f_tok (h : m[n]? = some (pc T st i)) {f : EX W} {s : Ev} (hf : f s m = .ok (.loc n) m) : eFld "Parser" "tokens" f s m = .ok (.p (.list (T.map tokD))) m := by
  unfold eFld; rw [hf, bind_ok, ins_pc h]; simp only [g_tok]
theorem f_stop (h : m[n]? = some (pc T st i)) {f : EX W} {s : Ev} (hf : f s m = .ok (.loc n) m) : eFld "Parser" "stops" f s m = .ok (.p (.bool st)) m := by
  unfold eFld; rw [hf, bind_ok, ins_pc h]; simp only [g_stop]
theorem f_at (h : m[n]? = some (pc T st i)) {f : EX W} {s : Ev} (hf : f s m = .ok (.loc n) m) : eFld "Parser" "at" f s m = .ok (.p (.int (i : Nat))) m := by
  unfold eFld; rw [hf, bind_ok, ins_pc h]; simp only [g_at]
theorem aug_at (h : m[n]? = some (pc T st i)) {s : Ev} (hs : s[0]? = some (some (.loc n))) : sAugF "Parser" "at" (eVar 0) (eC (.int 1)) s m = some (.nx s, m.set n (pc T st (i + 1))) := by
  unfold sAugF
  simp only [r_var, hs, st_ok, ins_pc h, g_at, r_c, h, pc, g_put, List.length_cons, List.length_nil, decide_true, Bool.true_and]
  rfl
end
/-- an Ahead -/
def ah (ks : List Kd) : Exn := ⟨"Ahead", [(("options" : Str), .p (.list (ks.map shD)))]⟩
/-- a whole thing about lists of options -/
structure Os (os : List Kd) : Prop where
  j : Jn (ordOf os)
/-- what a parse gives -/
inductive PR (α : Type) where
  | ok (a : α) (i : Nat)
  | ahead (os : List Kd) (i : Nat)
  | err (c : Int) (os : List Kd) (i : Nat)
def PR.res {α : Type} (f : α → PyData) (m : Hm) (n : Nat) (T : List Tk) (st : Bool) : PR α → Res W
  | .ok a i => .ok (.p (f a)) (m.set n (pc T st i))
  | .ahead os i => .exc (ah (ordOf os)) (m.set n (pc T st i))
  | .err c os i => .exc (tx c (ew (ordOf os))) (m.set n (pc T st i))
/-- the present token -/
def look (st : Bool) (t : Tk) (os : List Kd) (i : Nat) : PR Tk := if t.k = .fin ∧ st = true then .ahead os i else if t.k ∈ os then .ok t i else .err t.c os i
def take (st : Bool) (t : Tk) (os : List Kd) (i : Nat) : PR Tk := if t.k = .fin ∧ st = true then .ahead os i else if t.k ∈ os then .ok t (i + 1) else .err t.c os i
theorem atI_map {T : List Tk} {i : Nat} {t : Tk} (h : T[i]? = some t) : atI (T.map tokD) (i : Int) = some (tokD t) := by rw [atI_lit, List.getElem?_map, h]; rfl
theorem kd_end (k : Kd) : decide (kdS k = ("end" : Str)) = decide (k = .fin) := by
  cases k with
  | num => decide +kernel
  | fin => decide +kernel
  | sg c =>
    have : ("sign" : Str) ≠ "end" := by decide +kernel
    simp [kdS, this]
theorem q_look {T : List Tk} {st : Bool} {i n : Nat} {t : Tk} {os : List Kd} {m : Hm} (hn : m[n]? = some (pc T st i)) (ht : T[i]? = some t) (hk : kOk t.k t.w) (hj : Jn (ordOf os)) (hm : okM m.length m = true) :
    F_Parser_look [.loc n, .p (.tuple (os.map shD))] m = (look st t os i).res tokD m n T st := by
  have same : m.set n (pc T st i) = m := by
    obtain ⟨hl, e⟩ := List.getElem?_eq_some_iff.mp hn
    rw [← e]; simp
  have z1 : PySem.PyData.strOk ("end" : Str) = true := by decide +kernel
  have a1 : ∀ s : Ev, s[0]? = some (some (.loc n)) → (eOp2 idxM (eFld "Parser" "tokens" (eVar 0)) (eFld "Parser" "at" (eVar 0))) s m = .ok (.p (tokD t)) m := fun s hs => by
    rw [r_op2, f_tok hn (by rw [r_var, hs]), bind_ok, f_at hn (by rw [r_var, hs]), bind_ok, o_ixL, atI_map ht]
  unfold F_Parser_look mkFn m_Parser_look
  change retE true m.length (sSeq _ _ [some (.loc n), some (.p (.tuple (os.map shD))), none] m) = _
  rw [q_seq, q_set, a1 _ rfl]
  simp only [st_ok, List.set]
  rw [q_seq, q_if]
  have c1 : (bAnd (bVal (eOp2 (eqM false) (eOp2 idxM (eVar 2) (eC (.int 0))) (eC (.str "end")))) (bTru (eFld "Parser" "stops" (eVar 0)))) [some (.loc n), some (.p (.tuple (os.map shD))), some (.p (tokD t))] m = .ok (decide (t.k = .fin) && st) m := by
    simp only [r_band, r_bval, r_op2, r_var, r_c, List.getElem?_cons_succ, List.getElem?_cons_zero, bind_ok, o_tk0, o_eqS (kd_ok t.k) z1, kd_end, r_boolOf, r_btru]
    by_cases h : t.k = .fin
    · rw [f_stop hn (by rfl)]
      simp [h]
    · simp [h]
  rw [c1]
  by_cases h : t.k = .fin ∧ st = true
  · have hb : (decide (t.k = .fin) && st) = true := by simp [h]
    simp only [hb, st_ok, if_true, sRaise, r_acons, r_anil, r_call, r_var, List.getElem?_cons_succ, List.getElem?_cons_zero, bind_ok, List.length_cons, List.length_nil, decide_true, q_in_order]
    obtain ⟨h1, h3⟩ := h
    subst h3
    simp [look, h1, PR.res, same, ah, endX_same]
  · have hb : (decide (t.k = .fin) && st) = false := by
      rw [Bool.eq_false_iff]
      intro q
      rw [Bool.and_eq_true, decide_eq_true_eq] at q
      exact h q
    simp only [hb, st_ok, Bool.false_eq_true, if_false, q_skip]
    rw [q_seq, q_if]
    have c2 : (bVal (eOp2 (inM true) (eCall 1 F_shown (aCons (eVar 2) aNil)) (eVar 1))) [some (.loc n), some (.p (.tuple (os.map shD))), some (.p (tokD t))] m = .ok (!decide (t.k ∈ os)) m := by
      simp only [r_bval, r_op2, r_call, r_acons, r_anil, r_var, r_c, List.getElem?_cons_succ, List.getElem?_cons_zero, bind_ok, List.length_cons, List.length_nil, decide_true, if_true, q_shown hk hm]
      have := o_inOs (k := t.k) (os := os) (m := m) true
      unfold shD at this
      rw [show List.map (fun k => PyData.str (shw k)) os = List.map shD os from rfl] at this
      rw [this]
      simp
    rw [c2]
    by_cases h2 : t.k ∈ os
    · simp [h2, look, h, PR.res, same, endFn_p]
    · have b9 : ("expected " : Str).length = 9 := by decide +kernel
      simp only [h2, decide_false, Bool.not_false, st_ok, if_true, sRaise, r_acons, r_anil, r_call, r_op2, r_c, r_var, List.getElem?_cons_succ, List.getElem?_cons_zero, bind_ok, List.length_cons, List.length_nil, decide_true, o_tk2, q_in_order, q_joined hj]
      rw [o_addSt (by rw [b9]; have := hj.j; omega)]
      simp [look, h, h2, PR.res, same, tx, ew, endX_same]
theorem set_len {m : Hm} {n : Nat} {c : Cell} : (m.set n c).length = m.length := by simp
theorem q_take {T : List Tk} {st : Bool} {i n : Nat} {t : Tk} {os : List Kd} {m : Hm} (hn : m[n]? = some (pc T st i)) (ht : T[i]? = some t) (hk : kOk t.k t.w) (hj : Jn (ordOf os)) (hm : okM m.length m = true) :
    F_Parser_take [.loc n, .p (.tuple (os.map shD))] m = (take st t os i).res tokD m n T st := by
  have same : m.set n (pc T st i) = m := by
    obtain ⟨hl, e⟩ := List.getElem?_eq_some_iff.mp hn
    rw [← e]; simp
  have gN : (getFW "look" [(("tokens" : Str), (.p (.list (T.map tokD)) : W)), (("stops" : Str), .p (.bool st)), (("at" : Str), .p (.int (i : Nat)))]).isNone = true := by kernel_rfl
  have e1 : eMeth "Parser" "look" 2 F_Parser_look (eVar 0) (aCons (eVar 1) aNil) [some (.loc n), some (.p (.tuple (os.map shD))), none] m = (look st t os i).res tokD m n T st := by
    unfold eMeth
    rw [r_var]
    simp only [List.getElem?_cons_zero, bind_ok, ins_pc hn, gN, if_true, r_acons, r_anil, r_var, List.getElem?_cons_succ, List.length_cons, List.length_nil, decide_true, q_look hn ht hk hj hm]
  unfold F_Parser_take mkFn m_Parser_take
  change retE true m.length (sSeq _ _ [some (.loc n), some (.p (.tuple (os.map shD))), none] m) = _
  rw [q_seq, q_set, e1]
  unfold look take
  by_cases h : t.k = .fin ∧ st = true
  · obtain ⟨h1, h3⟩ := h
    subst h3
    simp [h1, PR.res, same, endX_same]
  · by_cases h2 : t.k ∈ os
    · simp only [h, h2, if_false, if_true, PR.res, same, st_ok, List.set]
      rw [q_seq, aug_at hn rfl]
      simp only [q_ret, r_var, List.getElem?_cons_succ, List.getElem?_cons_zero, st_ok, ret_rt]
      exact endFn_len set_len
    · simp [h, h2, PR.res, same, endX_same]
end Mir.K68

namespace Mir.K68
open PySem PySem.Spec PyProof.Rows L2
def jnB (ks : List Kd) : Bool := decide (ks ≠ []) && (decide (ks.length ≤ 7) && (ks.all (fun k => decide ((shw k).length ≤ 20)) && (decide ((jn ks).length ≤ 1000) && decide ((Txt.join ", " (ks.dropLast.map shw)).length ≤ 500))))
theorem jn_of {ks : List Kd} (h : jnB ks = true) : Jn ks := by
  unfold jnB at h
  simp only [Bool.and_eq_true, decide_eq_true_eq] at h
  exact ⟨h.1, h.2.1, fun k hk => of_decide_eq_true (List.all_eq_true.mp h.2.2.1 k hk), h.2.2.2.1, h.2.2.2.2⟩
/-! ### cells stay in order -/
mutual
theorem okW_mono {k j : Nat} (h : k ≤ j) : ∀ w : W, okW k w = true → okW j w = true
  | .p _, _ => rfl
  | .ro _, _ => rfl
  | .loc n, e => by
    have e : decide (n < k) = true := e
    have := of_decide_eq_true e
    exact decide_eq_true (by omega)
  | .tw ws, e => okWs_mono h ws e
  | .kt _, _ => rfl
theorem okWs_mono {k j : Nat} (h : k ≤ j) : ∀ ws : List W, okWs k ws = true → okWs j ws = true
  | [], _ => rfl
  | w :: ws, e => by
    have e : (okW k w && okWs k ws) = true := e
    rw [Bool.and_eq_true] at e
    show (okW j w && okWs j ws) = true
    rw [okW_mono h w e.1, okWs_mono h ws e.2]
    rfl
end
theorem okC_mono {k j : Nat} (h : k ≤ j) (x : Cell) (e : okC k x = true) : okC j x = true := by
  cases x <;> exact okWs_mono h _ e
theorem okM_all {k : Nat} {m : Hm} (h : m.length = k) : okM k m = m.all (okC k) := by
  unfold okM; rw [← h, List.take_length]
theorem okM_snoc {m : Hm} {c : Cell} (h : okM m.length m = true) (hc : okC (m.length + 1) c = true) : okM (m ++ [c]).length (m ++ [c]) = true := by
  rw [okM_all rfl] at h ⊢
  rw [List.all_append, Bool.and_eq_true]
  refine ⟨List.all_eq_true.mpr fun x hx => okC_mono (by simp) x (List.all_eq_true.mp h x hx), ?_⟩
  simp [hc]
theorem okM_set {m : Hm} {n : Nat} {c : Cell} (h : okM m.length m = true) (hc : okC m.length c = true) : okM (m.set n c).length (m.set n c) = true := by
  rw [okM_all rfl] at h ⊢
  rw [List.length_set]
  refine List.all_eq_true.mpr fun x hx => ?_
  rcases List.mem_or_eq_of_mem_set hx with hx | rfl
  · exact List.all_eq_true.mp h x hx
  · exact hc
theorem ok_pc {T : List Tk} {st : Bool} {i k : Nat} : okC k (pc T st i) = true := rfl
theorem okWs_p (k : Nat) : ∀ ds : List PyData, okWs k (ds.map .p) = true
  | [] => rfl
  | d :: ds => okWs_p k ds
/-! ### parses -/
inductive PL (α : Type) where
  | bad
  | ok (a : α) (L : List Tk)
  | ahead (os : List Kd) (L : List Tk)
  | err (c : Int) (os : List Kd) (L : List Tk)
def PL.bind {α β : Type} : PL α → (α → List Tk → PL β) → PL β
  | .bad, _ => .bad
  | .ok a L, k => k a L
  | .ahead os L, _ => .ahead os L
  | .err c os L, _ => .err c os L
def takeL (st : Bool) (os : List Kd) : List Tk → PL Tk
  | [] => .bad
  | t :: L => if t.k = .fin ∧ st = true then .ahead os (t :: L) else if t.k ∈ os then .ok t L else .err t.c os (t :: L)
theorem takeL_cons {st : Bool} {os : List Kd} {t : Tk} {L : List Tk} : takeL st os (t :: L) = if t.k = .fin ∧ st = true then .ahead os (t :: L) else if t.k ∈ os then .ok t L else .err t.c os (t :: L) := rfl
def numsP (st : Bool) (cl : List Kd) : List Tk → PL (List Tk × Tk)
  | [] => .bad
  | t :: L => (takeL st (.num :: cl) (t :: L)).bind fun _ _ => if t.k = .num then (numsP st cl L).bind fun p L' => .ok (t :: p.1, p.2) L' else .ok ([], t) L
def edgesC (st : Bool) : Nat → Tk → List Tk → PL (List (Tk × Tk))
  | 0, _, _ => .bad
  | f + 1, t, L => if t.k = .num then (takeL st [.sg 45] L).bind fun _ L1 => (takeL st [.num] L1).bind fun u L2 => (takeL st [.sg 44, .fin] L2).bind fun v L3 =>
      (if v.k = .sg 44 then takeL st [.num] L3 else .ok v L3).bind fun w L4 => (edgesC st f w L4).bind fun r L5 => .ok ((t, u) :: r) L5 else .ok [] L
def edgesP (st : Bool) (f : Nat) (L : List Tk) : PL (List (Tk × Tk)) := (takeL st [.num, .fin] L).bind fun t L1 => edgesC st f t L1
/-- items as long as the last one asks for more -/
def itC {α : Type} (P : List Tk → PL α) (c : α → Bool) : Nat → α → List Tk → PL (List α)
  | 0, _, _ => .bad
  | f + 1, p, L => if c p = true then (P L).bind fun q L1 => (itC P c f q L1).bind fun r L2 => .ok (p :: r) L2 else .ok [p] L
def scC (st : Bool) (f : Nat) (p : List Tk × Tk) (L : List Tk) : PL (List (List Tk × Tk)) := itC (numsP st [.sg 44, .sg 59]) (fun p => decide (p.2.k = .sg 44)) f p L
def graphP (st : Bool) (f : Nat) (L : List Tk) : PL (Tk × List (List Tk × Tk) × List (Tk × Tk)) :=
  (takeL st [.num] L).bind fun v L1 => (takeL st [.sg 58] L1).bind fun _ L2 => (numsP st [.sg 44, .sg 59] L2).bind fun p L3 => (scC st f p L3).bind fun ss L4 => (edgesP st f L4).bind fun es L5 => .ok (v, ss, es) L5
abbrev Rw := List Tk × Tk × Tk
def rowP (st : Bool) (L : List Tk) : PL Rw := (numsP st [.sg 61] L).bind fun p L1 => (takeL st [.num] L1).bind fun c L2 => .ok (p.1, p.2, c) L2
def rowsC (st : Bool) : Nat → Tk → List Tk → PL (List Rw × Tk)
  | 0, _, _ => .bad
  | f + 1, t, L => if t.k = .sg 44 then (rowP st L).bind fun r L1 => (takeL st [.sg 44, .sg 59, .fin] L1).bind fun u L2 => (rowsC st f u L2).bind fun q L3 => .ok (r :: q.1, q.2) L3 else .ok ([], t) L
def lookL (st : Bool) (os : List Kd) : List Tk → PL Tk
  | [] => .bad
  | t :: L => if t.k = .fin ∧ st = true then .ahead os (t :: L) else if t.k ∈ os then .ok t (t :: L) else .err t.c os (t :: L)
theorem lookL_cons {st : Bool} {os : List Kd} {t : Tk} {L : List Tk} : lookL st os (t :: L) = if t.k = .fin ∧ st = true then .ahead os (t :: L) else if t.k ∈ os then .ok t (t :: L) else .err t.c os (t :: L) := rfl
def tableP (st : Bool) (f : Nat) (L : List Tk) : PL (List Rw × Tk) := (lookL st [.num, .sg 59, .sg 61, .fin] L).bind fun t L0 => if t.k = .sg 59 ∨ t.k = .fin then (takeL st [.sg 59, .fin] L0).bind fun u L1 => .ok ([], u) L1 else
    (rowP st L0).bind fun r L1 => (takeL st [.sg 44, .sg 59, .fin] L1).bind fun u L2 => (rowsC st f u L2).bind fun q L3 => .ok (r :: q.1, q.2) L3
def tabsC (st : Bool) (F f : Nat) (p : List Rw × Tk) (L : List Tk) : PL (List (List Rw × Tk)) := itC (tableP st F) (fun p => decide (p.2.k = .sg 59)) f p L
def tablesP (st : Bool) (f : Nat) (L : List Tk) : PL (List (List Rw × Tk)) := (tableP st f L).bind fun p L1 => tabsC st f f p L1
/-! ### what they stand for -/
def numsD (p : List Tk × Tk) : PyData := .tuple [.list (p.1.map tokD), tokD p.2]
def edgeD (p : Tk × Tk) : PyData := .tuple [tokD p.1, tokD p.2]
def edgesD (es : List (Tk × Tk)) : PyData := .list (es.map edgeD)
def graphD (g : Tk × List (List Tk × Tk) × List (Tk × Tk)) : PyData := .tuple [tokD g.1, .list (g.2.1.map numsD), edgesD g.2.2]
def rowD (r : Rw) : PyData := .tuple [.list (r.1.map tokD), tokD r.2.1, tokD r.2.2]
def tableD (t : List Rw × Tk) : PyData := .tuple [.list (t.1.map rowD), tokD t.2]
def tablesD (ts : List (List Rw × Tk)) : PyData := .list (ts.map tableD)
/-! ### parses of the mirror -/
section
variable (m : Hm) (n : Nat) (T : List Tk) (st : Bool)
/-- the heap with the parser at a place -/
def Mm (L : List Tk) (e : Hm) : Hm := m.set n (pc T st (T.length - L.length)) ++ e
def PL.res {α : Type} (f : α → PyData) (e : Hm) : PL α → Res W
  | .bad => .stuck
  | .ok a L => .ok (.p (f a)) (Mm m n T st L e)
  | .ahead os L => .exc (ah (ordOf os)) (Mm m n T st L e)
  | .err c os L => .exc (tx c (ew (ordOf os))) (Mm m n T st L e)
def Ends {α : Type} (r : SR) (P : PL α) (g : α → List Tk → SR) : Prop := match P with
  | .bad => True
  | .ok a L => r = g a L
  | .ahead os L => ∃ s e, r = some (.ex (ah (ordOf os)) s, Mm m n T st L e)
  | .err c os L => ∃ s e, r = some (.ex (tx c (ew (ordOf os))) s, Mm m n T st L e)
end
section
variable {m : Hm} {n : Nat} {T : List Tk} {st : Bool} {α β : Type}
theorem ends_res {r : SR} {P : PL α} {g : α → List Tk → SR} {f : α → PyData} (hm : okM m.length m = true) (nb : P ≠ .bad) (h : Ends m n T st r P g) (hg : ∀ a L, P = .ok a L → retE true m.length (g a L) = .ok (.p (f a)) (Mm m n T st L [])) : retE true m.length r = P.res m n T st f [] := by
  have sl : ∀ L e, Mm m n T st L e = m.set n (pc T st (T.length - L.length)) ++ e := fun _ _ => rfl
  cases P with
  | bad => exact absurd rfl nb
  | ok a L =>
    have h : r = g a L := h
    rw [h, hg a L rfl]; rfl
  | ahead os L =>
    obtain ⟨s, e, rfl⟩ := h
    rw [ret_ex, sl]
    have := endX_app (x := ah (ordOf os)) (m := m.set n (pc T st (T.length - L.length))) (e := e) (okM_set hm ok_pc) rfl
    rw [List.length_set] at this
    rw [this]
    simp [PL.res, sl]
  | err c os L =>
    obtain ⟨s, e, rfl⟩ := h
    rw [ret_ex, sl]
    have := endX_app (x := tx c (ew (ordOf os))) (m := m.set n (pc T st (T.length - L.length))) (e := e) (okM_set hm ok_pc) rfl
    rw [List.length_set] at this
    rw [this]
    simp [PL.res, sl]
theorem ends_exc {P : PL α} {Q : α → List Tk → PL β} {g : β → List Tk → SR} {f : α → PyData} {e : Hm} {s : Ev} {k : W → Hm → SR} (hk : ∀ a L, P = .ok a L → Ends m n T st (k (.p (f a)) (Mm m n T st L e)) (Q a L) g) : Ends m n T st ((P.res m n T st f e).st s k) (P.bind Q) g := by
  cases P with
  | bad => trivial
  | ok a L => exact hk a L rfl
  | ahead os L => exact ⟨s, e, rfl⟩
  | err c os L => exact ⟨s, e, rfl⟩
/-- name = parse; rest -/
theorem ends_set {P : PL α} {Q : α → List Tk → PL β} {g : β → List Tk → SR} {f : α → PyData} {e : Hm} {s : Ev} {E : EX W} {R : SX} {j : Nat} {m1 : Hm} (hE : E s m1 = P.res m n T st f e) (hk : ∀ a L, P = .ok a L → Ends m n T st (R (s.set j (some (.p (f a)))) (Mm m n T st L e)) (Q a L) g) :
    Ends m n T st (sSeq (sSet j E) R s m1) (P.bind Q) g := by
  rw [q_seq, q_set, hE]
  cases P with
  | bad => trivial
  | ok a L => exact hk a L rfl
  | ahead os L => exact ⟨s, e, rfl⟩
  | err c os L => exact ⟨s, e, rfl⟩
theorem ends_expr {P : PL α} {Q : α → List Tk → PL β} {g : β → List Tk → SR} {f : α → PyData} {e : Hm} {s : Ev} {E : EX W} {R : SX} {m1 : Hm} (hE : E s m1 = P.res m n T st f e) (hk : ∀ a L, P = .ok a L → Ends m n T st (R s (Mm m n T st L e)) (Q a L) g) :
    Ends m n T st (sSeq (sExpr E) R s m1) (P.bind Q) g := by
  rw [q_seq, q_expr, hE]
  cases P with
  | bad => trivial
  | ok a L => exact hk a L rfl
  | ahead os L => exact ⟨s, e, rfl⟩
  | err c os L => exact ⟨s, e, rfl⟩
theorem Mm_len {L : List Tk} {e : Hm} : (Mm m n T st L e).length = m.length + e.length := by simp [Mm]
theorem Mm_at {L : List Tk} {e : Hm} (hn : n < m.length) : (Mm m n T st L e)[n]? = some (pc T st (T.length - L.length)) := by
  unfold Mm
  rw [List.getElem?_append_left (by simpa using hn), List.getElem?_set_self hn]
theorem Mm_set {L L' : List Tk} {e : Hm} (hn : n < m.length) : (Mm m n T st L e).set n (pc T st (T.length - L'.length)) = Mm m n T st L' e := by
  unfold Mm
  rw [List.set_append_left _ _ (by simpa using hn), List.set_set]
/-- good cells behind the heap -/
def okX (e : Hm) : Prop := ∀ c ∈ e, ∀ k, okC k c = true
theorem Mm_ok {L : List Tk} {e : Hm} (hm : okM m.length m = true) (he : okX e) : okM (Mm m n T st L e).length (Mm m n T st L e) = true := by
  rw [okM_all rfl]
  unfold Mm
  rw [List.all_append, Bool.and_eq_true]
  have h1 := okM_set (n := n) (c := pc T st (T.length - L.length)) hm ok_pc
  rw [okM_all rfl] at h1
  exact ⟨List.all_eq_true.mpr fun x hx => okC_mono (by simp) x (List.all_eq_true.mp h1 x hx), List.all_eq_true.mpr fun x hx => he x hx _⟩
/-- self.take(..) -/
theorem m_take {L : List Tk} {e : Hm} {s : Ev} {os : List Kd} {fa : EX (List W)} (hn : n < m.length) (hm : okM m.length m = true) (he : okX e) (hs : s[0]? = some (some (.loc n))) (hL : L <:+ T) (hk : ∀ t ∈ T, kOk t.k t.w) (hj : jnB (ordOf os) = true) (hf : fa s (Mm m n T st L e) = .ok [.p (.tuple (os.map shD))] (Mm m n T st L e)) (nb : takeL st os L ≠ .bad) :
    eMeth "Parser" "take" 2 F_Parser_take (eVar 0) fa s (Mm m n T st L e) = (takeL st os L).res m n T st tokD e := by
  cases L with
  | nil => exact absurd rfl nb
  | cons t L =>
    obtain ⟨pre, hT⟩ := hL
    have len : T.length - (t :: L).length = pre.length := by rw [← hT]; simp
    have ht : T[T.length - (t :: L).length]? = some t := by
      rw [len, ← hT, List.getElem?_append_right (Nat.le_refl _)]; simp
    have gN : (getFW "take" [(("tokens" : Str), (.p (.list (T.map tokD)) : W)), (("stops" : Str), .p (.bool st)), (("at" : Str), .p (.int ((T.length - (t :: L).length : Nat) : Int)))]).isNone = true := by kernel_rfl
    have ha := Mm_at (T := T) (st := st) (L := t :: L) (e := e) hn
    have key := q_take ha ht (hk t (by rw [← hT]; simp)) (jn_of hj) (Mm_ok hm he)
    unfold eMeth
    rw [r_var, hs]
    simp only [bind_ok]
    rw [ins_pc ha]
    dsimp only
    rw [if_pos gN, hf, bind_ok, if_pos (by rfl), key]
    have len2 : T.length - (t :: L).length + 1 = T.length - L.length := by
      rw [← hT]; simp; omega
    have sm := fun L' => Mm_set (m := m) (n := n) (T := T) (st := st) (L := t :: L) (L' := L') (e := e) hn
    rw [takeL_cons]
    unfold take
    by_cases h1 : t.k = .fin ∧ st = true
    · rw [if_pos h1, if_pos h1]
      simp only [PR.res, PL.res]
      rw [sm]
    · rw [if_neg h1, if_neg h1]
      by_cases h2 : t.k ∈ os
      · rw [if_pos h2, if_pos h2]
        simp only [PR.res, PL.res]
        rw [len2, sm]
      · rw [if_neg h2, if_neg h2]
        simp only [PR.res, PL.res]
        rw [sm]
end
end Mir.K68

namespace Mir.K68
open PySem PySem.Spec PyProof.Rows L2
section
variable {m : Hm} {n : Nat} {T : List Tk} {st : Bool} {α β : Type}
theorem Mm_Mm {L L' : List Tk} {e e' : Hm} (hn : n < m.length) : Mm (Mm m n T st L e) n T st L' e' = Mm m n T st L' (e ++ e') := by
  unfold Mm
  rw [List.set_append_left _ _ (by simpa using hn), List.set_set, List.append_assoc]
theorem res_Mm {L : List Tk} {e e' : Hm} {P : PL α} {f : α → PyData} (hn : n < m.length) : P.res (Mm m n T st L e) n T st f e' = P.res m n T st f (e ++ e') := by
  cases P <;> simp only [PL.res, Mm_Mm hn]
theorem Mm_self {L : List Tk} {e : Hm} (hn : m[n]? = some (pc T st (T.length - L.length))) : m ++ e = Mm m n T st L e := by
  obtain ⟨hl, q⟩ := List.getElem?_eq_some_iff.mp hn
  unfold Mm
  rw [← q]; simp
theorem lt_of_at {c : Cell} (hn : m[n]? = some c) : n < m.length := (List.getElem?_eq_some_iff.mp hn).1
/-- self.x(..) -/
theorem m_any {x : Str} {F : FF} {P : PL α} {f : α → PyData} {L : List Tk} {e : Hm} {s : Ev} {fa : EX (List W)} {ws : List W} {p : Nat} (hx : ∀ a b c : W, (getFW x [(("tokens" : Str), a), (("stops" : Str), b), (("at" : Str), c)]).isNone = true) (hn : n < m.length) (hs : s[0]? = some (some (.loc n)))
    (hf : fa s (Mm m n T st L e) = .ok ws (Mm m n T st L e)) (hp : ws.length + 1 = p) (key : F (.loc n :: ws) (Mm m n T st L e) = P.res (Mm m n T st L e) n T st f []) : eMeth "Parser" x p F (eVar 0) fa s (Mm m n T st L e) = P.res m n T st f e := by
  have ha := Mm_at (T := T) (st := st) (L := L) (e := e) hn
  unfold eMeth
  rw [r_var, hs]
  simp only [bind_ok]
  rw [ins_pc ha]
  dsimp only
  rw [if_pos (hx _ _ _), hf, bind_ok, if_pos (decide_eq_true hp), key, res_Mm hn, List.append_nil]
theorem nm_numbers (a b c : W) : (getFW "numbers" [(("tokens" : Str), a), (("stops" : Str), b), (("at" : Str), c)]).isNone = true := by kernel_rfl
theorem nm_edges (a b c : W) : (getFW "edges" [(("tokens" : Str), a), (("stops" : Str), b), (("at" : Str), c)]).isNone = true := by kernel_rfl
theorem nm_row (a b c : W) : (getFW "row" [(("tokens" : Str), a), (("stops" : Str), b), (("at" : Str), c)]).isNone = true := by kernel_rfl
theorem nm_table (a b c : W) : (getFW "table" [(("tokens" : Str), a), (("stops" : Str), b), (("at" : Str), c)]).isNone = true := by kernel_rfl
theorem nm_tables (a b c : W) : (getFW "tables" [(("tokens" : Str), a), (("stops" : Str), b), (("at" : Str), c)]).isNone = true := by kernel_rfl
theorem nm_graph (a b c : W) : (getFW "graph" [(("tokens" : Str), a), (("stops" : Str), b), (("at" : Str), c)]).isNone = true := by kernel_rfl
theorem nm_look (a b c : W) : (getFW "look" [(("tokens" : Str), a), (("stops" : Str), b), (("at" : Str), c)]).isNone = true := by kernel_rfl
/-! ### loops that parse -/
theorem wipe0 (s : Ev) : wipeE s [] = s := rfl
theorem tidy0 (f : SX) (s : Ev) (m1 : Hm) (hl : ∀ s' m2, f s m1 = some (.nx s', m2) → m2.length = m1.length) (hc : ∀ s' m2, f s m1 ≠ some (.ct s', m2)) : sTidy [] f s m1 = f s m1 := by
  rw [q_tidy]
  cases q : f s m1 with
  | none => rfl
  | some p =>
    obtain ⟨o, m2⟩ := p
    cases o with
    | nx s' => simp only [tidy_len (hl s' m2 q), wipe0]
    | ct s' => exact absurd q (hc s' m2)
    | _ => rfl
theorem seq_nx {b : EX Bool} {body R : SX} {fu : Nat} {s s2 : Ev} {m1 m2 : Hm} (h1 : b s m1 = .ok true m1) (h2 : body s m1 = some (.nx s2, m2)) : sSeq (whGo b body (fu + 1)) R s m1 = sSeq (whGo b body fu) R s2 m2 := by
  rw [q_seq, wh_nx h1 h2]; rfl
theorem seq_ex {b : EX Bool} {body R : SX} {fu : Nat} {s s2 : Ev} {m1 m2 : Hm} {x : Exn} (h1 : b s m1 = .ok true m1) (h2 : body s m1 = some (.ex x s2, m2)) : sSeq (whGo b body (fu + 1)) R s m1 = some (.ex x s2, m2) := by
  rw [q_seq, wh_ex h1 h2]
theorem seq_end {b : EX Bool} {body R : SX} {fu : Nat} {s : Ev} {m1 : Hm} (h1 : b s m1 = .ok false m1) : sSeq (whGo b body (fu + 1)) R s m1 = R s m1 := by
  rw [q_seq, wh_end h1]
/-- one turn of a loop: the body parses -/
theorem ends_turn {b : EX Bool} {body R : SX} {fu : Nat} {s : Ev} {m1 : Hm} {P : PL α} {Q : α → List Tk → PL β} {g : β → List Tk → SR} {f2 : α → List Tk → Ev × Hm} (h1 : b s m1 = .ok true m1) (hb : Ends m n T st (body s m1) P fun a L => some (.nx (f2 a L).1, (f2 a L).2))
    (hk : ∀ a L, P = .ok a L → Ends m n T st (sSeq (whGo b body fu) R (f2 a L).1 (f2 a L).2) (Q a L) g) : Ends m n T st (sSeq (whGo b body (fu + 1)) R s m1) (P.bind Q) g := by
  cases P with
  | bad => trivial
  | ok a L =>
    have hb : body s m1 = some (.nx (f2 a L).1, (f2 a L).2) := hb
    show Ends m n T st _ (Q a L) g
    rw [seq_nx h1 hb]
    exact hk a L rfl
  | ahead os L =>
    obtain ⟨s', e, q⟩ := hb
    exact ⟨s', e, seq_ex h1 q⟩
  | err c os L =>
    obtain ⟨s', e, q⟩ := hb
    exact ⟨s', e, seq_ex h1 q⟩
theorem ends_tidy {f : SX} {s : Ev} {m1 : Hm} {P : PL α} {f2 : α → List Tk → Ev × Hm} (h : Ends m n T st (f s m1) P fun a L => some (.nx (f2 a L).1, (f2 a L).2)) (hl : ∀ a L, P = .ok a L → (f2 a L).2.length = m1.length) : Ends m n T st (sTidy [] f s m1) P fun a L => some (.nx (f2 a L).1, (f2 a L).2) := by
  cases P with
  | bad => trivial
  | ok a L =>
    have h : f s m1 = some (.nx (f2 a L).1, (f2 a L).2) := h
    show sTidy [] f s m1 = some (.nx (f2 a L).1, (f2 a L).2)
    rw [q_tidy, h]
    simp only [tidy_len (hl a L rfl), wipe0]
  | ahead os L =>
    obtain ⟨s', e, q⟩ := h
    exact ⟨s', e, by rw [q_tidy, q]⟩
  | err c os L =>
    obtain ⟨s', e, q⟩ := h
    exact ⟨s', e, by rw [q_tidy, q]⟩
/-- a last assignment -/
theorem ends_set1 {P : PL α} {f : α → PyData} {e : Hm} {s : Ev} {E : EX W} {j : Nat} {m1 : Hm} (hE : E s m1 = P.res m n T st f e) : Ends m n T st (sSet j E s m1) P fun a L => some (.nx (s.set j (some (.p (f a)))), Mm m n T st L e) := by
  rw [q_set, hE]
  cases P with
  | bad => trivial
  | ok a L => rfl
  | ahead os L => exact ⟨s, e, rfl⟩
  | err c os L => exact ⟨s, e, rfl⟩
/-- .. then something that only appends -/
theorem ends_after {A R : SX} {s : Ev} {m1 m2 : Hm} {P : PL α} {g : α → List Tk → SR} (hA : A s m1 = some (.nx s, m2)) (h : Ends m n T st (R s m2) P g) : Ends m n T st (sSeq A R s m1) P g := by
  rw [q_seq, hA]; exact h
theorem app_cell {L : List Tk} {ws : List W} {y : W} {e : Hm} {s : Ev} {j : Nat} {f : EX W} (hn : n < m.length) (hs : s[j]? = some (some (.loc (m.length + e.length)))) (hl : ws.length < 16777216) (hf : f s (Mm m n T st L (e ++ [.lst ws])) = .ok y (Mm m n T st L (e ++ [.lst ws]))) : sExpr (eLM appendM (eVar j) (aCons f aNil)) s (Mm m n T st L (e ++ [.lst ws])) = some (.nx s, Mm m n T st L (e ++ [.lst (ws ++ [y])])) := by
  have at_ : (Mm m n T st L (e ++ [.lst ws]))[m.length + e.length]? = some (.lst ws) := by
    unfold Mm
    rw [List.getElem?_append_right (by simp)]
    simp
  rw [q_expr, r_lm, r_var, hs]
  simp only [bind_ok, lstAt_loc at_, if_true, r_acons, r_anil, hf]
  rw [o_append at_ hl]
  simp only [st_ok]
  congr 3
  unfold Mm
  rw [List.set_append_right _ _ (by simp)]
  simp
theorem okX_lst (ds : List PyData) : okX [Cell.lst (ds.map .p)] := fun c hc k => by
  simp at hc
  subst hc
  exact okWs_p k ds
/-! ### numbers -/
def numsC (st : Bool) (cl : List Kd) (t : Tk) (L : List Tk) : PL (List Tk × Tk) := if t.k = .num then (numsP st cl L).bind fun p L' => .ok (t :: p.1, p.2) L' else .ok ([], t) L
theorem numsP_cons (cl : List Kd) (t : Tk) (L : List Tk) : numsP st cl (t :: L) = (takeL st (.num :: cl) (t :: L)).bind fun _ _ => numsC st cl t L := rfl
theorem bind_assoc' {γ : Type} {P : PL α} {Q : α → List Tk → PL β} {R : β → List Tk → PL γ} : (P.bind Q).bind R = P.bind fun a L => (Q a L).bind R := by cases P <;> rfl
theorem take_ok {os : List Kd} {L L' : List Tk} {t : Tk} (h : takeL st os L = .ok t L') : L = t :: L' ∧ t.k ∈ os ∧ ¬ (t.k = .fin ∧ st = true) := by
  cases L with
  | nil => cases h
  | cons t0 L =>
    rw [takeL_cons] at h
    split at h
    · cases h
    · rename_i h1
      split at h
      · rename_i h2
        cases h
        exact ⟨rfl, h2, h1⟩
      · cases h
def sNum (n k : Nat) (cl : List Kd) (t : Tk) : Ev := [some (.loc n), some (.p (.tuple (cl.map shD))), some (.loc k), some (.p (tokD t))]
def bNum : EX Bool := (bVal (eOp2 (eqM false) (eOp2 idxM (eVar 3) (eC (.int 0))) (eC (.str "number"))))
theorem kd_num (k : Kd) : decide (kdS k = ("number" : Str)) = decide (k = .num) := by
  cases k with
  | num => decide +kernel
  | fin => decide +kernel
  | sg c =>
    have : ("sign" : Str) ≠ "number" := by decide +kernel
    simp [kdS, this]
theorem strk_number : PySem.PyData.strOk ("number" : Str) = true := by decide +kernel
theorem bNum_is {k : Nat} {cl : List Kd} {t : Tk} {m1 : Hm} : bNum (sNum n k cl t) m1 = .ok (decide (t.k = .num)) m1 := by
  simp only [bNum, sNum, r_bval, r_op2, r_var, r_c, List.getElem?_cons_succ, List.getElem?_cons_zero, bind_ok, o_tk0, o_eqS (kd_ok t.k) strk_number, kd_num, r_boolOf]
def rNum : SX := (sRet (eTup (aCons (eVar 2) (aCons (eVar 3) aNil))))
theorem addOpt {cl : List Kd} {m1 : Hm} {s : Ev} (hs : s[1]? = some (some (.p (.tuple (cl.map shD))))) (hc : cl.length ≤ 10) : (aCons (eOp2 addM (eTup (aCons (eC (.str "a number")) aNil)) (eVar 1)) aNil) s m1 = .ok [.p (.tuple ((Kd.num :: cl).map shD))] m1 := by
  have ez : (0 + 1 ≤ sizeLine) = True := by simp [sizeLine_eq]
  simp only [r_acons, r_op2, r_tup, r_c, r_anil, bind_ok, List.length_cons, List.length_nil, ez, if_true, r_var, hs]
  rw [show mkTup [.p (.str "a number")] = .p (.tuple [.str "a number"]) by simp [mkTup], o_addT (by simp; omega)]
  rfl
theorem suf_cons {t : Tk} {L : List Tk} (h : t :: L <:+ T) : L <:+ T := (List.suffix_cons t L).trans h
theorem nums_loop {cl : List Kd} (hn : n < m.length) (hm : okM m.length m = true) (hk : ∀ t ∈ T, kOk t.k t.w) (hj : jnB (ordOf (.num :: cl)) = true) (hc : cl.length ≤ 10) : ∀ (L : List Tk) (t : Tk) (acc : List Tk) (fu : Nat), L <:+ T → L.length < fu → acc.length + L.length ≤ 10000 → numsC st cl t L ≠ .bad →
    Ends m n T st (sSeq (whGo bNum L1_Parser_numbers fu) rNum (sNum n m.length cl t) (Mm m n T st L [.lst ((acc.map tokD).map .p)])) (numsC st cl t L) fun p L' => some (.rt (.tw [.loc m.length, .p (tokD p.2)]), Mm m n T st L' [.lst (((acc ++ p.1).map tokD).map .p)]) := by
  intro L
  induction L with
  | nil =>
    intro t acc fu hL hf hl nb
    obtain ⟨fu, rfl⟩ : ∃ k, fu = k + 1 := ⟨fu - 1, by simp at hf; omega⟩
    unfold numsC at nb ⊢
    split at nb
    · exact absurd rfl nb
    · rename_i h
      rw [if_neg h]
      show _ = _
      rw [seq_end (by rw [bNum_is]; simp [h])]
      simp [rNum, sNum, sizeLine_eq, mkTup, allP]
  | cons t' L ih =>
    intro t acc fu hL hf hl nb
    obtain ⟨fu, rfl⟩ : ∃ k, fu = k + 1 := ⟨fu - 1, by simp at hf; omega⟩
    unfold numsC at nb ⊢
    split at nb
    · rename_i h
      rw [if_pos h]
      rw [numsP_cons, bind_assoc'] at nb ⊢
      have tnb : takeL st (.num :: cl) (t' :: L) ≠ .bad := fun q => by rw [q] at nb; exact nb rfl
      refine ends_turn (f2 := fun t2 L2 => (sNum n m.length cl t2, Mm m n T st L2 [.lst (((acc ++ [t]).map tokD).map .p)])) (by rw [bNum_is]; simp [h]) (ends_tidy ?_ (fun a L' _ => by simp [Mm_len])) fun t2 L2 e2 => ?_
      · have hA := app_cell (m := m) (n := n) (T := T) (st := st) (L := t' :: L) (ws := (acc.map tokD).map .p) (y := .p (tokD t)) (e := []) (s := sNum n m.length cl t) (j := 2) (f := eVar 3) hn rfl (by simp at hl ⊢; omega) rfl
        refine ends_after hA ?_
        have ea : ([] : Hm) ++ [.lst ((acc.map tokD).map .p ++ [.p (tokD t)])] = [.lst (((acc ++ [t]).map tokD).map .p)] := by simp
        rw [ea]
        exact ends_set1 (j := 3) (s := sNum n m.length cl t) (m_take hn hm (okX_lst _) rfl hL hk hj (addOpt rfl hc) tnb)
      · obtain ⟨e3, _, _⟩ := take_ok e2
        cases e3
        have nb2 : numsC st cl t' L ≠ .bad := fun q => by
          rw [e2] at nb
          exact nb (by simp [PL.bind, q])
        have := ih t' (acc ++ [t]) fu (suf_cons hL) (by simp at hf; omega) (by simp at hl ⊢; omega) nb2
        cases q : numsC st cl t' L with
        | bad => exact absurd q nb2
        | ok p L' =>
          rw [q] at this
          have this : _ = _ := this
          show _ = _
          rw [this]
          simp
        | ahead os L' => rw [q] at this; exact this
        | err c os L' => rw [q] at this; exact this
    · rename_i h
      rw [if_neg h]
      show _ = _
      rw [seq_end (by rw [bNum_is]; simp [h])]
      simp [rNum, sNum, sizeLine_eq, mkTup, allP]
theorem end_tw {k : Nat} {m e : Hm} {j : Nat} {ds : List PyData} {d : PyData} (hk : m.length = k) (hm : okM k m = true) (hj : k ≤ j) (h : (m ++ e)[j]? = some (.lst (ds.map .p))) : endFn true k (.tw [.loc j, .p d]) (m ++ e) = .ok (.p (.tuple [.list ds, d])) m := by
  have o2 := frz_loc (k := k) (n := 2) (j := j) (m := m ++ e) (h := fun d : PyData => d) (xs := ds) hj h
  have o3 : okW k (.tw [.loc j, .p d]) = false := by
    show (decide (j < k) && _) = false
    rw [decide_eq_false (by omega)]; rfl
  have o4 : frz k (m ++ e) 4 (.tw [.loc j, .p d]) = some (.tuple [.list ds, d]) := by
    show (frzL (frz k (m ++ e) 3) [.loc j, .p d]).map PyData.tuple = _
    have : frz k (m ++ e) 3 (.loc j) = some (.list ds) := by simpa using o2
    simp [frzL, this, frz_p]
  unfold endFn
  rw [okM_app hk, if_pos hm, o3, if_neg Bool.false_ne_true, if_pos rfl, o4, take_app hk]
theorem q_numbers {cl : List Kd} {L : List Tk} (hn : m[n]? = some (pc T st (T.length - L.length))) (hm : okM m.length m = true) (hk : ∀ t ∈ T, kOk t.k t.w) (hL : L <:+ T) (hl : T.length < 90) (hj : jnB (ordOf (.num :: cl)) = true) (hc : cl.length ≤ 10) (nb : numsP st cl L ≠ .bad) :
    F_Parser_numbers [.loc n, .p (.tuple (cl.map shD))] m = (numsP st cl L).res m n T st numsD [] := by
  have ln := lt_of_at hn
  have lL : L.length ≤ T.length := hL.length_le
  cases L with
  | nil => exact absurd rfl nb
  | cons t L =>
    unfold F_Parser_numbers mkFn m_Parser_numbers
    change retE true m.length (sSeq (sSet 2 (eLstL aNil)) _ [some (.loc n), some (.p (.tuple (cl.map shD))), none, none] m) = _
    rw [numsP_cons] at nb ⊢
    refine ends_res (g := fun p L' => some (.rt (.tw [.loc m.length, .p (tokD p.2)]), Mm m n T st L' [.lst ((p.1.map tokD).map .p)])) hm nb ?_ fun p L' _ => ?_
    · rw [q_seq, q_set, r_lstL, r_anil]
      simp only [bind_ok, List.length_nil, Nat.zero_le, if_true, st_ok, List.set]
      rw [Mm_self (T := T) (st := st) (L := t :: L) (e := [.lst []]) hn]
      have tnb : takeL st (.num :: cl) (t :: L) ≠ .bad := fun q => by rw [q] at nb; exact nb rfl
      refine ends_set (j := 3) (m_take ln hm (okX_lst []) rfl hL hk hj (addOpt rfl hc) tnb) fun t2 L2 e2 => ?_
      obtain ⟨e3, _, _⟩ := take_ok e2
      cases e3
      have nb2 : numsC st cl t L ≠ .bad := fun q => by
        rw [e2] at nb
        exact nb (by simp [PL.bind, q])
      have := nums_loop (m := m) (n := n) (T := T) (st := st) ln hm hk hj hc L t [] 100 (suf_cons hL) (by simp at lL; omega) (by simp at lL ⊢; omega) nb2
      exact this
    · show endFn true m.length _ _ = _
      have := end_tw (k := m.length) (m := m.set n (pc T st (T.length - L'.length))) (e := [.lst ((p.1.map tokD).map .p)]) (j := m.length) (ds := p.1.map tokD) (d := tokD p.2) set_len (by have := okM_set (n := n) (c := pc T st (T.length - L'.length)) hm ok_pc; rw [set_len] at this; exact this) (Nat.le_refl _) (by rw [List.getElem?_append_right (by simp)]; simp)
      unfold Mm
      rw [this]
      simp [numsD]
end
end Mir.K68

namespace Mir.K68
open PySem PySem.Spec PyProof.Rows L2
section
variable {m : Hm} {n : Nat} {T : List Tk} {st : Bool} {α β : Type}
/-! ### steps -/
theorem ends_seq {A R : SX} {s : Ev} {m1 : Hm} {P : PL α} {Q : α → List Tk → PL β} {g : β → List Tk → SR} {f2 : α → List Tk → Ev × Hm} (h1 : Ends m n T st (A s m1) P fun a L => some (.nx (f2 a L).1, (f2 a L).2))
    (hk : ∀ a L, P = .ok a L → Ends m n T st (R (f2 a L).1 (f2 a L).2) (Q a L) g) : Ends m n T st (sSeq A R s m1) (P.bind Q) g := by
  rw [q_seq]
  cases P with
  | bad => trivial
  | ok a L =>
    have h1 : A s m1 = some (.nx (f2 a L).1, (f2 a L).2) := h1
    show Ends m n T st _ (Q a L) g
    rw [h1]
    exact hk a L rfl
  | ahead os L => obtain ⟨s', e, q⟩ := h1; exact ⟨s', e, by rw [q]⟩
  | err c os L => obtain ⟨s', e, q⟩ := h1; exact ⟨s', e, by rw [q]⟩
theorem ends_set' {P : PL α} {f : α → PyData} {e : Hm} {s : Ev} {E : EX W} {j : Nat} {m1 : Hm} (hE : P ≠ .bad → E s m1 = P.res m n T st f e) : Ends m n T st (sSet j E s m1) P fun a L => some (.nx (s.set j (some (.p (f a)))), Mm m n T st L e) := by
  cases P with
  | bad => trivial
  | ok a L => exact ends_set1 (hE (by intro h; cases h))
  | ahead os L => exact ends_set1 (hE (by intro h; cases h))
  | err c os L => exact ends_set1 (hE (by intro h; cases h))
theorem ends_expr' {P : PL α} {f : α → PyData} {e : Hm} {s : Ev} {E : EX W} {m1 : Hm} (hE : P ≠ .bad → E s m1 = P.res m n T st f e) : Ends m n T st (sExpr E s m1) P fun a L => some (.nx s, Mm m n T st L e) := by
  cases P with
  | bad => trivial
  | ok a L => rw [q_expr, hE (by intro h; cases h)]; rfl
  | ahead os L => rw [q_expr, hE (by intro h; cases h)]; exact ⟨s, e, rfl⟩
  | err c os L => rw [q_expr, hE (by intro h; cases h)]; exact ⟨s, e, rfl⟩
/-- name.append(parse) -/
theorem ends_app {P : PL α} {f : EX W} {fD : α → PyData} {e : Hm} {ws : List W} {s : Ev} {j : Nat} {L : List Tk} (hn : n < m.length) (hs : s[j]? = some (some (.loc (m.length + e.length)))) (hl : ws.length < 16777216) (hf : P ≠ .bad → f s (Mm m n T st L (e ++ [.lst ws])) = P.res m n T st fD (e ++ [.lst ws])) :
    Ends m n T st (sExpr (eLM appendM (eVar j) (aCons f aNil)) s (Mm m n T st L (e ++ [.lst ws]))) P fun a L' => some (.nx s, Mm m n T st L' (e ++ [.lst (ws ++ [.p (fD a)])])) := by
  have at_ : ∀ L', (Mm m n T st L' (e ++ [.lst ws]))[m.length + e.length]? = some (.lst ws) := fun L' => by
    unfold Mm
    rw [List.getElem?_append_right (by simp)]
    simp
  have pre : sExpr (eLM appendM (eVar j) (aCons f aNil)) s (Mm m n T st L (e ++ [.lst ws])) = ((f s (Mm m n T st L (e ++ [.lst ws]))).bind fun w m1 => appendM (.loc (m.length + e.length)) [w] m1).st s fun _ m1 => some (.nx s, m1) := by
    rw [q_expr, r_lm, r_var, hs]
    simp only [bind_ok, lstAt_loc (at_ L), if_true, r_acons, r_anil]
    congr 1
    cases f s (Mm m n T st L (e ++ [.lst ws])) <;> rfl
  rw [pre]
  cases P with
  | bad => trivial
  | ok a L' =>
    rw [hf (by intro h; cases h)]
    show _ = _
    simp only [PL.res, bind_ok]
    rw [o_append (at_ L') hl]
    simp only [st_ok]
    congr 3
    unfold Mm
    rw [List.set_append_right _ _ (by simp)]
    simp
  | ahead os L' => rw [hf (by intro h; cases h)]; exact ⟨s, _, rfl⟩
  | err c os L' => rw [hf (by intro h; cases h)]; exact ⟨s, _, rfl⟩
theorem ends_mono {P : PL α} {g g' : α → List Tk → SR} {r : SR} (h : Ends m n T st r P g) (hg : ∀ a L, P = .ok a L → g a L = g' a L) : Ends m n T st r P g' := by
  cases P with
  | bad => trivial
  | ok a L => have h : r = g a L := h; show r = g' a L; rw [h, hg a L rfl]
  | ahead os L => exact h
  | err c os L => exact h
theorem ends_ok {a : α} {L : List Tk} {g : α → List Tk → SR} {r : SR} (h : r = g a L) : Ends m n T st r (.ok a L) g := h
theorem ends_map {P : PL α} {f : α → β} {g : β → List Tk → SR} {r : SR} (h : Ends m n T st r P fun a L => g (f a) L) : Ends m n T st r (P.bind fun a L => .ok (f a) L) g := by
  cases P with
  | bad => trivial
  | ok a L => exact h
  | ahead os L => exact h
  | err c os L => exact h
theorem okX_p {ds : List PyData} {e : Hm} (h : okX e) : okX (e ++ [Cell.lst (ds.map .p)]) := fun c hc k => by
  rcases List.mem_append.mp hc with hc | hc
  · exact h c hc k
  · exact okX_lst ds c hc k
theorem okX_nil : okX [] := fun _ h => nomatch h
theorem bind_inv {P : PL α} {Q : α → List Tk → PL β} {b : β} {L' : List Tk} (h : P.bind Q = .ok b L') : ∃ a L, P = .ok a L ∧ Q a L = .ok b L' := by
  cases P with
  | ok a L => exact ⟨a, L, rfl, h⟩
  | bad => cases h
  | ahead os L => cases h
  | err c os L => cases h
/-! ### options -/
theorem opt1 {a : Kd} {s : Ev} {m1 : Hm} {x : Str} (h : x = shw a) : (aCons (eTup (aCons (eC (.str x)) aNil)) aNil) s m1 = .ok [.p (.tuple ([a].map shD))] m1 := by
  have ez : (0 + 1 ≤ sizeLine) = True := by simp [sizeLine_eq]
  subst h
  simp only [r_acons, r_tup, r_c, r_anil, bind_ok, List.length_cons, List.length_nil, ez, if_true]
  simp [mkTup, shD]
theorem opt2 {a b : Kd} {s : Ev} {m1 : Hm} {x y : Str} (h : x = shw a) (h2 : y = shw b) : (aCons (eTup (aCons (eC (.str x)) (aCons (eC (.str y)) aNil))) aNil) s m1 = .ok [.p (.tuple ([a, b].map shD))] m1 := by
  have ez : (0 + 1 + 1 ≤ sizeLine) = True := by simp [sizeLine_eq]
  subst h h2
  simp only [r_acons, r_tup, r_c, r_anil, bind_ok, List.length_cons, List.length_nil, ez, if_true]
  simp [mkTup, shD]
theorem opt3 {a b c : Kd} {s : Ev} {m1 : Hm} {x y z : Str} (h : x = shw a) (h2 : y = shw b) (h3 : z = shw c) : (aCons (eTup (aCons (eC (.str x)) (aCons (eC (.str y)) (aCons (eC (.str z)) aNil)))) aNil) s m1 = .ok [.p (.tuple ([a, b, c].map shD))] m1 := by
  have ez : (0 + 1 + 1 + 1 ≤ sizeLine) = True := by simp [sizeLine_eq]
  subst h h2 h3
  simp only [r_acons, r_tup, r_c, r_anil, bind_ok, List.length_cons, List.length_nil, ez, if_true]
  simp [mkTup, shD]
theorem opt4 {a b c d : Kd} {s : Ev} {m1 : Hm} {x y z u : Str} (h : x = shw a) (h2 : y = shw b) (h3 : z = shw c) (h4 : u = shw d) : (aCons (eTup (aCons (eC (.str x)) (aCons (eC (.str y)) (aCons (eC (.str z)) (aCons (eC (.str u)) aNil))))) aNil) s m1 = .ok [.p (.tuple ([a, b, c, d].map shD))] m1 := by
  have ez : (0 + 1 + 1 + 1 + 1 ≤ sizeLine) = True := by simp [sizeLine_eq]
  subst h h2 h3 h4
  simp only [r_acons, r_tup, r_c, r_anil, bind_ok, List.length_cons, List.length_nil, ez, if_true]
  simp [mkTup, shD]
theorem s_col : ("\":\"" : Str) = shw (.sg 58) := by decide +kernel
theorem s_com : ("\",\"" : Str) = shw (.sg 44) := by decide +kernel
theorem s_sem : ("\";\"" : Str) = shw (.sg 59) := by decide +kernel
theorem s_das : ("\"-\"" : Str) = shw (.sg 45) := by decide +kernel
theorem s_equ : ("\"=\"" : Str) = shw (.sg 61) := by decide +kernel
theorem s_num : ("a number" : Str) = shw .num := rfl
theorem s_fin : ("the end" : Str) = shw .fin := rfl
theorem w_com : ("," : Str) = S [44] := by decide +kernel
theorem w_sem : (";" : Str) = S [59] := by decide +kernel
theorem w_emp : ("" : Str) = S [] := by decide +kernel
theorem kOk_asc {k : Kd} {w : List Nat} (h : kOk k w) : asc w := by
  cases k with
  | num => exact fun c hc => (dg_r (h.2 c hc)).2.1
  | sg c => rw [h.1]; intro x hx; simp at hx; subst hx; exact (sg_nd h.2).2.2.1
  | fin => rw [h]; intro x hx; cases hx
theorem kOk_str {t : Tk} (h : kOk t.k t.w) : PySem.PyData.strOk (S t.w) = true := asc_ok (kOk_asc h)
/-- the characters tell the sign -/
theorem w_is {t : Tk} (h : kOk t.k t.w) {c : Nat} (hc : c ∈ sgs) : decide (S t.w = S [c]) = decide (t.k = .sg c) := by
  obtain ⟨k, w, col⟩ := t
  rw [Bool.eq_iff_iff]
  simp only [decide_eq_true_eq]
  constructor
  · intro e
    have e := S_inj e
    have h : kOk k w := h
    have e : w = [c] := e
    subst e
    cases k with
    | num =>
      have := h.2 c (by simp)
      rw [(sg_nd hc).1] at this
      cases this
    | sg d => have := h.1; simp at this; rw [this]
    | fin => cases h
  · intro e
    have e : k = .sg c := e
    subst e
    have h : w = [c] := h.1
    rw [h]
theorem w_nil {t : Tk} (h : kOk t.k t.w) : decide (S t.w = S []) = decide (t.k = .fin) := by
  obtain ⟨k, w, col⟩ := t
  rw [Bool.eq_iff_iff]
  simp only [decide_eq_true_eq]
  constructor
  · intro e
    have e := S_inj e
    have h : kOk k w := h
    have e : w = [] := e
    subst e
    cases k with
    | num => exact absurd rfl h.1
    | sg d => have := h.1; simp at this
    | fin => rfl
  · intro e
    have e : k = .fin := e
    subst e
    have h : w = [] := h
    rw [h]
theorem sok1 (c : Nat) (h : c < 1000) : PySem.PyData.strOk (S [c]) = true := asc_ok fun x hx => by simp at hx; omega
/-! ### edges -/
def sEd (n k : Nat) (t : Tk) : Ev := [some (.loc n), some (.loc k), some (.p (tokD t))]
def bEd : EX Bool := (bVal (eOp2 (eqM false) (eOp2 idxM (eVar 2) (eC (.int 0))) (eC (.str "number"))))
theorem bEd_is {k : Nat} {t : Tk} {m1 : Hm} : bEd (sEd n k t) m1 = .ok (decide (t.k = .num)) m1 := by
  simp only [bEd, sEd, r_bval, r_op2, r_var, r_c, List.getElem?_cons_succ, List.getElem?_cons_zero, bind_ok, o_tk0, o_eqS (kd_ok t.k) strk_number, kd_num, r_boolOf]
theorem take_suf {os : List Kd} {L L' : List Tk} {t : Tk} (h : takeL st os L = .ok t L') (hL : L <:+ T) : L' <:+ T ∧ t ∈ T := by
  obtain ⟨rfl, _, _⟩ := take_ok h
  exact ⟨suf_cons hL, hL.subset List.mem_cons_self⟩
theorem edges_loop (hn : n < m.length) (hm : okM m.length m = true) (hk : ∀ t ∈ T, kOk t.k t.w) : ∀ (f : Nat) (t : Tk) (L : List Tk) (acc : List (Tk × Tk)) (fu : Nat), L <:+ T → t ∈ T → f ≤ fu → acc.length + f ≤ 10000 →
    Ends m n T st (sSeq (whGo bEd L1_Parser_edges fu) (sRet (eVar 1)) (sEd n m.length t) (Mm m n T st L [.lst ((acc.map edgeD).map .p)])) (edgesC st f t L) fun es L' => some (.rt (.loc m.length), Mm m n T st L' [.lst (((acc ++ es).map edgeD).map .p)]) := by
  intro f
  induction f with
  | zero => intro t L acc fu _ _ _ _; trivial
  | succ f ih =>
    intro t L acc fu hL ht hf ha
    obtain ⟨fu, rfl⟩ : ∃ k, fu = k + 1 := ⟨fu - 1, by omega⟩
    unfold edgesC
    split
    case isFalse h =>
      refine ends_ok ?_
      rw [seq_end (by rw [bEd_is]; simp [h])]
      simp [sEd]
    case isTrue h =>
    have e1 : (((takeL st [.sg 45] L).bind fun _ L1 => (takeL st [.num] L1).bind fun u L2 => (takeL st [.sg 44, .fin] L2).bind fun v L3 => (if v.k = .sg 44 then takeL st [.num] L3 else .ok v L3).bind fun w L4 => (edgesC st f w L4).bind fun r L5 => .ok ((t, u) :: r) L5) : PL (List (Tk × Tk))) =
        (((takeL st [.sg 45] L).bind fun _ L1 => (takeL st [.num] L1).bind fun u L2 => (takeL st [.sg 44, .fin] L2).bind fun v L3 => (if v.k = .sg 44 then takeL st [.num] L3 else .ok v L3).bind fun w L4 => .ok (u, w) L4).bind fun p L4 => (edgesC st f p.2 L4).bind fun r L5 => .ok ((t, p.1) :: r) L5) := by
      simp only [bind_assoc']; rfl
    rw [e1]
    refine ends_turn (f2 := fun p L4 => (sEd n m.length p.2, Mm m n T st L4 [.lst (((acc ++ [(t, p.1)]).map edgeD).map .p)])) (by rw [bEd_is]; simp [h]) (ends_tidy ?_ fun a L' _ => by simp [Mm_len]) fun p L4 e4 => ?_
    · refine ends_seq (f2 := fun _ L1 => (sEd n m.length t, Mm m n T st L1 [.lst ((acc.map edgeD).map .p)])) (ends_expr' fun nb => m_take hn hm (okX_lst _) rfl hL hk (by decide +kernel) (opt1 s_das) nb) fun x1 L1 q1 => ?_
      have hL1 := (take_suf q1 hL).1
      refine ends_seq (f2 := fun u L2 => (sEd n m.length t, Mm m n T st L2 [.lst (((acc ++ [(t, u)]).map edgeD).map .p)])) ?_ fun u L2 q2 => ?_
      · refine ends_mono (ends_app (m := m) (n := n) (T := T) (st := st) (e := []) (fD := fun u => edgeD (t, u)) (ws := (acc.map edgeD).map .p) (L := L1) hn rfl (by simp; omega) fun nb => ?_) fun a L' _ => by simp
        have mt := m_take (m := m) (n := n) (T := T) (st := st) (L := L1) (e := [.lst ((acc.map edgeD).map .p)]) (s := sEd n m.length t) hn hm (okX_lst _) rfl hL1 hk (by decide +kernel) (opt1 s_num) nb
        rw [List.nil_append]
        have sv : (sEd n m.length t)[2]? = some (some (.p (tokD t))) := rfl
        simp only [r_tup, r_acons, r_var, sv, bind_ok, mt, r_anil]
        cases takeL st [.num] L1 with
        | bad => rfl
        | ok u L2 =>
          have ez : (0 + 1 + 1 ≤ sizeLine) = True := by simp [sizeLine_eq]
          simp only [PL.res, bind_ok, List.length_cons, List.length_nil, ez, if_true]
          simp [mkTup, edgeD]
        | ahead os L2 => rfl
        | err c os L2 => rfl
      · have hL2 := (take_suf q2 hL1).1
        refine ends_seq (f2 := fun v L3 => (sEd n m.length v, Mm m n T st L3 [.lst (((acc ++ [(t, u)]).map edgeD).map .p)])) (ends_set' (j := 2) (s := sEd n m.length t) fun nb => m_take hn hm (okX_lst _) rfl hL2 hk (by decide +kernel) (opt2 s_com s_fin) nb) fun v L3 q3 => ?_
        have ⟨hL3, hv⟩ := take_suf q3 hL2
        have cnd : (bVal (eOp2 (eqM false) (eOp2 idxM (eVar 2) (eC (.int 1))) (eC (.str ",")))) (sEd n m.length v) (Mm m n T st L3 [.lst (((acc ++ [(t, u)]).map edgeD).map .p)]) = .ok (decide (v.k = .sg 44)) (Mm m n T st L3 [.lst (((acc ++ [(t, u)]).map edgeD).map .p)]) := by
          have sv : (sEd n m.length v)[2]? = some (some (.p (tokD v))) := rfl
          simp only [r_bval, r_op2, r_var, r_c, sv, bind_ok, o_tk1]
          rw [w_com, o_eqS (kOk_str (hk v hv)) (sok1 44 (by omega)), bind_ok, w_is (hk v hv) (by decide)]
          rfl
        refine ends_map (f := fun w => (u, w)) ?_
        rw [q_if, cnd]
        split
        · rename_i h4
          simp only [h4, decide_true, st_ok, if_true]
          refine ends_mono (ends_set' (j := 2) (s := sEd n m.length v) fun nb => m_take hn hm (okX_lst _) rfl hL3 hk (by decide +kernel) (opt1 s_num) nb) fun a L' _ => rfl
        · rename_i h4
          simp only [h4, decide_false, st_ok, Bool.false_eq_true, if_false]
          exact ends_ok rfl
    · have hp : L4 <:+ T ∧ p.2 ∈ T := by
        obtain ⟨x1, L1, q1, e5⟩ := bind_inv e4
        obtain ⟨u, L2, q2, e6⟩ := bind_inv e5
        obtain ⟨v, L3, q3, e7⟩ := bind_inv e6
        obtain ⟨w, L5, q4, e8⟩ := bind_inv e7
        cases e8
        have hL3 := take_suf q3 (take_suf q2 (take_suf q1 hL).1).1
        split at q4
        · exact take_suf q4 hL3.1
        · cases q4
          exact hL3
      refine ends_map (f := fun r => (t, p.1) :: r) (ends_mono (ih p.2 L4 (acc ++ [(t, p.1)]) fu hp.1 hp.2 (by omega) (by simp; omega)) fun es L' _ => by simp)
theorem q_edges {L : List Tk} {f : Nat} (hn : m[n]? = some (pc T st (T.length - L.length))) (hm : okM m.length m = true) (hk : ∀ t ∈ T, kOk t.k t.w) (hL : L <:+ T) (hf : f ≤ 100) (nb : edgesP st f L ≠ .bad) : F_Parser_edges [.loc n] m = (edgesP st f L).res m n T st edgesD [] := by
  have ln := lt_of_at hn
  unfold F_Parser_edges mkFn m_Parser_edges
  change retE true m.length (sSeq (sSet 1 (eLstL aNil)) _ [some (.loc n), none, none] m) = _
  refine ends_res (g := fun es L' => some (.rt (.loc m.length), Mm m n T st L' [.lst ((es.map edgeD).map .p)])) hm nb ?_ fun es L' _ => ?_
  · rw [q_seq, q_set, r_lstL, r_anil]
    simp only [bind_ok, List.length_nil, Nat.zero_le, if_true, st_ok, List.set]
    rw [Mm_self (T := T) (st := st) (L := L) (e := [.lst []]) hn]
    refine ends_seq (f2 := fun t L1 => (sEd n m.length t, Mm m n T st L1 [.lst (([] : List PyData).map .p)])) (ends_set' (j := 2) fun nb => m_take ln hm (okX_lst []) rfl hL hk (by decide +kernel) (opt2 s_num s_fin) nb) fun t L1 q1 => ?_
    have ⟨hL1, ht⟩ := take_suf q1 hL
    exact ends_mono (edges_loop ln hm hk f t L1 [] 100 hL1 ht hf (by simp; omega)) fun es L' _ => by simp
  · show endFn true m.length _ _ = _
    have := end_RD (k := m.length) (m := m.set n (pc T st (T.length - L'.length))) (e := [.lst ((es.map edgeD).map .p)]) (w := .loc m.length) (ds := es.map edgeD) set_len (by have := okM_set (n := n) (c := pc T st (T.length - L'.length)) hm ok_pc; rw [set_len] at this; exact this) (.inr ⟨m.length, rfl, Nat.le_refl _, by rw [List.getElem?_append_right (by simp)]; simp⟩)
    unfold Mm
    rw [this]
    simp [edgesD]
end
end Mir.K68

namespace Mir.K68
open PySem PySem.Spec PyProof.Rows L2
section
variable {m : Hm} {n : Nat} {T : List Tk} {st : Bool} {α β : Type}
/-- a loop that appends what it parses -/
theorem it_loop {fA : α → PyData} {P : List Tk → PL α} {c : α → Bool} {b : EX Bool} {body R : SX} {s : Ev} {Q : List α → List Tk → PL β} {g : β → List Tk → SR} (good : α → Prop)
    (hb : ∀ L p acc, good p → b s (Mm m n T st L [.lst (((acc ++ [p]).map fA).map .p)]) = .ok (c p) (Mm m n T st L [.lst (((acc ++ [p]).map fA).map .p)]))
    (hbody : ∀ L acc, L <:+ T → acc.length < 10000 → Ends m n T st (body s (Mm m n T st L [.lst ((acc.map fA).map .p)])) (P L) fun q L1 => some (.nx s, Mm m n T st L1 [.lst (((acc ++ [q]).map fA).map .p)]))
    (hP : ∀ L q L1, L <:+ T → P L = .ok q L1 → L1 <:+ T ∧ good q)
    (hR : ∀ ss L', L' <:+ T → (∀ p ∈ ss, good p) → Ends m n T st (R s (Mm m n T st L' [.lst ((ss.map fA).map .p)])) (Q ss L') g) :
    ∀ (f : Nat) (p : α) (L : List Tk) (acc : List α) (fu : Nat), L <:+ T → good p → (∀ q ∈ acc, good q) → f ≤ fu → acc.length + f < 9000 → Ends m n T st (sSeq (whGo b (sTidy [] body) fu) R s (Mm m n T st L [.lst (((acc ++ [p]).map fA).map .p)])) ((itC P c f p L).bind fun ss L' => Q (acc ++ ss) L') g := by
  intro f
  induction f with
  | zero => intro p L acc fu _ _ _ _ _; trivial
  | succ f ih =>
    intro p L acc fu hL hp hacc hf ha
    obtain ⟨fu, rfl⟩ : ∃ k, fu = k + 1 := ⟨fu - 1, by omega⟩
    unfold itC
    split
    · rename_i hc
      rw [bind_assoc']
      refine ends_turn (f2 := fun q L1 => (s, Mm m n T st L1 [.lst ((((acc ++ [p]) ++ [q]).map fA).map .p)])) (by rw [hb L p acc hp, hc]) (ends_tidy (hbody L (acc ++ [p]) hL (by simp; omega)) fun a L' _ => by simp [Mm_len]) fun q L1 e1 => ?_
      obtain ⟨hL1, hq⟩ := hP L q L1 hL e1
      rw [bind_assoc']
      have := ih q L1 (acc ++ [p]) fu hL1 hq (by
        intro x hx
        rcases List.mem_append.mp hx with hx | hx
        · exact hacc x hx
        · simp at hx; subst hx; exact hp) (by omega) (by simp; omega)
      simpa [PL.bind] using this
    · rename_i hc
      have hc : c p = false := by simpa using hc
      rw [seq_end (by rw [hb L p acc hp, hc])]
      refine hR (acc ++ [p]) L hL fun x hx => ?_
      rcases List.mem_append.mp hx with hx | hx
      · exact hacc x hx
      · simp at hx; subst hx; exact hp
theorem nums_suf {cl : List Kd} : ∀ {L L' : List Tk} {p : List Tk × Tk}, numsP st cl L = .ok p L' → L <:+ T → L' <:+ T ∧ p.2 ∈ T ∧ (∀ t ∈ p.1, t ∈ T ∧ t.k = .num) ∧ p.2.k ∈ cl
  | [], L', p, h, _ => by cases h
  | t :: L, L', p, h, hL => by
    rw [numsP_cons] at h
    obtain ⟨t', L1, q1, h2⟩ := bind_inv h
    obtain ⟨e, hk, _⟩ := take_ok q1
    cases e
    unfold numsC at h2
    split at h2
    · rename_i ht
      obtain ⟨q, L2, q2, h3⟩ := bind_inv h2
      cases h3
      have := nums_suf q2 (suf_cons hL)
      refine ⟨this.1, this.2.1, fun x hx => ?_, this.2.2.2⟩
      rcases List.mem_cons.mp hx with rfl | hx
      · exact ⟨hL.subset List.mem_cons_self, ht⟩
      · exact this.2.2.1 x hx
    · rename_i ht
      cases h2
      refine ⟨suf_cons hL, hL.subset List.mem_cons_self, (fun x hx => by cases hx), ?_⟩
      rcases List.mem_cons.mp hk with h4 | h4
      · exact absurd h4 ht
      · exact h4
/-! ### graph -/
theorem m_numbers {cl : List Kd} {L : List Tk} {e : Hm} {s : Ev} {fa : EX (List W)} (hn : n < m.length) (hm : okM m.length m = true) (he : okX e) (hs : s[0]? = some (some (.loc n))) (hL : L <:+ T) (hk : ∀ t ∈ T, kOk t.k t.w) (hl : T.length < 90) (hj : jnB (ordOf (.num :: cl)) = true) (hc : cl.length ≤ 10)
    (hf : fa s (Mm m n T st L e) = .ok [.p (.tuple (cl.map shD))] (Mm m n T st L e)) (nb : numsP st cl L ≠ .bad) : eMeth "Parser" "numbers" 2 F_Parser_numbers (eVar 0) fa s (Mm m n T st L e) = (numsP st cl L).res m n T st numsD e :=
  m_any nm_numbers hn hs hf rfl (q_numbers (Mm_at hn) (Mm_ok hm he) hk hL hl hj hc nb)
theorem m_edges {L : List Tk} {e : Hm} {s : Ev} {f : Nat} (hn : n < m.length) (hm : okM m.length m = true) (he : okX e) (hs : s[0]? = some (some (.loc n))) (hL : L <:+ T) (hk : ∀ t ∈ T, kOk t.k t.w) (hf : f ≤ 100) (nb : edgesP st f L ≠ .bad) :
    eMeth "Parser" "edges" 1 F_Parser_edges (eVar 0) aNil s (Mm m n T st L e) = (edgesP st f L).res m n T st edgesD e :=
  m_any (ws := []) nm_edges hn hs rfl rfl (q_edges (Mm_at hn) (Mm_ok hm he) hk hL hf nb)
def sGr (n k : Nat) (v : Tk) : Ev := [some (.loc n), some (.p (tokD v)), some (.loc k)]
theorem end_tw3 {k : Nat} {m e : Hm} {j : Nat} {ds : List PyData} {d d2 : PyData} (hk : m.length = k) (hm : okM k m = true) (hj : k ≤ j) (h : (m ++ e)[j]? = some (.lst (ds.map .p))) : endFn true k (.tw [.p d, .loc j, .p d2]) (m ++ e) = .ok (.p (.tuple [d, .list ds, d2])) m := by
  have o2 := frz_loc (k := k) (n := 2) (j := j) (m := m ++ e) (h := fun d : PyData => d) (xs := ds) hj h
  have o3 : okW k (.tw [.p d, .loc j, .p d2]) = false := by
    show (true && (decide (j < k) && _)) = false
    rw [decide_eq_false (by omega)]; rfl
  have o4 : frz k (m ++ e) 4 (.tw [.p d, .loc j, .p d2]) = some (.tuple [d, .list ds, d2]) := by
    show (frzL (frz k (m ++ e) 3) [.p d, .loc j, .p d2]).map PyData.tuple = _
    have : frz k (m ++ e) 3 (.loc j) = some (.list ds) := by simpa using o2
    simp [frzL, this, frz_p]
  unfold endFn
  rw [okM_app hk, if_pos hm, o3, if_neg Bool.false_ne_true, if_pos rfl, o4, take_app hk]
def last1 (j : Nat) : EX W := (eOp2 idxM (eOp2 idxM (eOp2 idxM (eVar j) (eOp1 negM (eC (.int 1)))) (eC (.int 1))) (eC (.int 1)))
theorem last1_is {s : Ev} {j k : Nat} {m1 : Hm} {xs : List W} {a d : PyData} {t : Tk} (hs : s[j]? = some (some (.loc k))) (hm : m1[k]? = some (.lst (xs ++ [.p (.tuple [a, tokD t])]))) : last1 j s m1 = .ok (.p (.str (S t.w))) m1 := by
  have i1 : idxM (.loc k) (.p (.int (-1))) m1 = .ok (.p (.tuple [a, tokD t])) m1 := by
    simp only [idxM, hm, atI_last]
  unfold last1
  simp only [r_op2, r_op1, r_var, hs, r_c, bind_ok, o_neg1, i1, o_ixT, atI_1]
  simp only [List.getElem?_cons_succ, List.getElem?_cons_zero]
  rfl
theorem q_graphM {L : List Tk} {f : Nat} (hn : m[n]? = some (pc T st (T.length - L.length))) (hm : okM m.length m = true) (hk : ∀ t ∈ T, kOk t.k t.w) (hL : L <:+ T) (hl : T.length < 90) (hf : f ≤ 100) (nb : graphP st f L ≠ .bad) : F_Parser_graph [.loc n] m = (graphP st f L).res m n T st graphD [] := by
  have ln := lt_of_at hn
  unfold F_Parser_graph mkFn m_Parser_graph
  change retE true m.length (sSeq _ _ [some (.loc n), none, none] m) = _
  refine ends_res (g := fun (r : Tk × List (List Tk × Tk) × List (Tk × Tk)) L' => some (.rt (.tw [.p (tokD r.1), .loc m.length, .p (edgesD r.2.2)]), Mm m n T st L' [.lst ((r.2.1.map numsD).map .p)])) hm nb ?_ fun r L' _ => ?_
  · have e0 : m = Mm m n T st L [] := by have := Mm_self (T := T) (st := st) (L := L) (e := []) hn; simpa using this
    conv => arg 5; rw [e0]
    unfold graphP
    refine ends_seq (f2 := fun v L1 => ([some (.loc n), some (.p (tokD v)), none], Mm m n T st L1 [])) (ends_set' (j := 1) fun nb => m_take ln hm okX_nil rfl hL hk (by decide +kernel) (opt1 s_num) nb) fun v L1 q1 => ?_
    have hL1 := (take_suf q1 hL).1
    refine ends_seq (f2 := fun _ L2 => ([some (.loc n), some (.p (tokD v)), none], Mm m n T st L2 [])) (ends_expr' fun nb => m_take ln hm okX_nil rfl hL1 hk (by decide +kernel) (opt1 s_col) nb) fun u L2 q2 => ?_
    have hL2 := (take_suf q2 hL1).1
    refine ends_seq (f2 := fun p L3 => (sGr n m.length v, Mm m n T st L3 [.lst ((([] ++ [p]).map numsD).map .p)])) ?_ fun p L3 q3 => ?_
    · rw [q_set, r_lstL, r_acons]
      dsimp only
      by_cases hb : numsP st [.sg 44, .sg 59] L2 = .bad
      · rw [hb]; trivial
      · rw [m_numbers (e := []) ln hm okX_nil rfl hL2 hk hl (by decide +kernel) (by decide) (opt2 s_com s_sem) hb]
        cases numsP st [.sg 44, .sg 59] L2 with
        | bad => trivial
        | ok p L3 =>
          have ez : (0 + 1 ≤ sizeLine) = True := by simp [sizeLine_eq]
          show _ = _
          simp only [PL.res, bind_ok, r_anil, List.length_cons, List.length_nil, ez, if_true, st_ok, Mm_len]
          simp [sGr, Mm]
        | ahead os L3 => exact ⟨_, [], rfl⟩
        | err c os L3 => exact ⟨_, [], rfl⟩
    · obtain ⟨hL3, hp, _⟩ := nums_suf q3 hL2
      have key := it_loop (m := m) (n := n) (T := T) (st := st) (fA := numsD) (P := numsP st [.sg 44, .sg 59]) (c := fun p => decide (p.2.k = .sg 44)) (b := (bVal (eOp2 (eqM false) (last1 2) (eC (.str ","))))) (body := (sExpr (eLM appendM (eVar 2) (aCons (eMeth "Parser" "numbers" 2 F_Parser_numbers (eVar 0) (aCons (eTup (aCons (eC (.str "\",\"")) (aCons (eC (.str "\";\"")) aNil))) aNil)) aNil))))
        (R := (sRet (eTup (aCons (eVar 1) (aCons (eVar 2) (aCons (eMeth "Parser" "edges" 1 F_Parser_edges (eVar 0) aNil) aNil)))))) (s := sGr n m.length v) (Q := fun ss L4 => (edgesP st f L4).bind fun es L5 => .ok (v, ss, es) L5)
        (g := fun (r : Tk × List (List Tk × Tk) × List (Tk × Tk)) L' => some (.rt (.tw [.p (tokD r.1), .loc m.length, .p (edgesD r.2.2)]), Mm m n T st L' [.lst ((r.2.1.map numsD).map .p)])) (fun p => p.2 ∈ T)
        (fun L p acc hp => by
          have hx : (Mm m n T st L [.lst (((acc ++ [p]).map numsD).map .p)])[m.length]? = some (.lst ((acc.map numsD).map .p ++ [.p (.tuple [.list (p.1.map tokD), tokD p.2])])) := by
            unfold Mm
            rw [List.getElem?_append_right (by simp)]
            simp [numsD]
          rw [r_bval, r_op2, last1_is (d := .none) rfl hx]
          simp only [r_c, bind_ok]
          rw [w_com, o_eqS (kOk_str (hk _ hp)) (sok1 44 (by omega)), bind_ok, w_is (hk _ hp) (by decide)]
          rfl)
        (fun L acc hL ha => ends_mono (ends_app (m := m) (n := n) (T := T) (st := st) (e := []) (fD := numsD) (ws := (acc.map numsD).map .p) (L := L) ln rfl (by simp; omega) fun nb => m_numbers ln hm (okX_lst _) rfl hL hk hl (by decide +kernel) (by decide) (opt2 s_com s_sem) nb) fun a L' _ => by simp)
        (fun L q L1 hL e => let h := nums_suf e hL; ⟨h.1, h.2.1⟩)
        (fun ss L' hL' _ => by
          refine ends_map (f := fun es => (v, ss, es)) ?_
          by_cases hb : edgesP st f L' = .bad
          · rw [hb]; trivial
          · have me := m_edges (m := m) (n := n) (T := T) (st := st) (L := L') (e := [.lst ((ss.map numsD).map .p)]) (s := sGr n m.length v) ln hm (okX_lst _) rfl hL' hk hf hb
            have s1 : (sGr n m.length v)[1]? = some (some (.p (tokD v))) := rfl
            have s2 : (sGr n m.length v)[2]? = some (some (.loc m.length)) := rfl
            rw [q_ret]
            simp only [r_tup, r_acons, r_anil, r_var, s1, s2, bind_ok, me]
            cases edgesP st f L' with
            | bad => trivial
            | ok es L5 =>
              have ez : (0 + 1 + 1 + 1 ≤ sizeLine) = True := by simp [sizeLine_eq]
              show _ = _
              simp only [PL.res, bind_ok, List.length_cons, List.length_nil, ez, if_true, st_ok]
              simp [mkTup, allP]
            | ahead os L5 => exact ⟨_, _, rfl⟩
            | err c os L5 => exact ⟨_, _, rfl⟩)
        f p L3 [] 100 hL3 hp (fun _ h => nomatch h) hf (by simp; omega)
      exact key
  · show endFn true m.length _ _ = _
    have := end_tw3 (k := m.length) (m := m.set n (pc T st (T.length - L'.length))) (e := [.lst ((r.2.1.map numsD).map .p)]) (j := m.length) (ds := r.2.1.map numsD) (d := tokD r.1) (d2 := edgesD r.2.2) set_len (by have := okM_set (n := n) (c := pc T st (T.length - L'.length)) hm ok_pc; rw [set_len] at this; exact this) (Nat.le_refl _) (by rw [List.getElem?_append_right (by simp)]; simp)
    unfold Mm
    rw [this]
    simp [graphD]
end
end Mir.K68

namespace Mir.K68
open PySem PySem.Spec PyProof.Rows L2
section
variable {m : Hm} {n : Nat} {T : List Tk} {st : Bool} {α β : Type}
/-- self.look(..) -/
theorem m_look {L : List Tk} {e : Hm} {s : Ev} {os : List Kd} {fa : EX (List W)} (hn : n < m.length) (hm : okM m.length m = true) (he : okX e) (hs : s[0]? = some (some (.loc n))) (hL : L <:+ T) (hk : ∀ t ∈ T, kOk t.k t.w) (hj : jnB (ordOf os) = true) (hf : fa s (Mm m n T st L e) = .ok [.p (.tuple (os.map shD))] (Mm m n T st L e)) (nb : lookL st os L ≠ .bad) :
    eMeth "Parser" "look" 2 F_Parser_look (eVar 0) fa s (Mm m n T st L e) = (lookL st os L).res m n T st tokD e := by
  cases L with
  | nil => exact absurd rfl nb
  | cons t L =>
    obtain ⟨pre, hT⟩ := hL
    have len : T.length - (t :: L).length = pre.length := by rw [← hT]; simp
    have ht : T[T.length - (t :: L).length]? = some t := by
      rw [len, ← hT, List.getElem?_append_right (Nat.le_refl _)]; simp
    have ha := Mm_at (T := T) (st := st) (L := t :: L) (e := e) hn
    have key := q_look ha ht (hk t (by rw [← hT]; simp)) (jn_of hj) (Mm_ok hm he)
    unfold eMeth
    rw [r_var, hs]
    simp only [bind_ok]
    rw [ins_pc ha]
    dsimp only
    rw [if_pos (nm_look _ _ _), hf, bind_ok, if_pos (by rfl), key]
    have sm := fun L' => Mm_set (m := m) (n := n) (T := T) (st := st) (L := t :: L) (L' := L') (e := e) hn
    rw [lookL_cons]
    unfold look
    by_cases h1 : t.k = .fin ∧ st = true
    · rw [if_pos h1, if_pos h1]
      simp only [PR.res, PL.res]
      rw [sm]
    · rw [if_neg h1, if_neg h1]
      by_cases h2 : t.k ∈ os
      · rw [if_pos h2, if_pos h2]
        simp only [PR.res, PL.res]
        rw [sm]
      · rw [if_neg h2, if_neg h2]
        simp only [PR.res, PL.res]
        rw [sm]
/-! ### row -/
theorem q_row {L : List Tk} (hn : m[n]? = some (pc T st (T.length - L.length))) (hm : okM m.length m = true) (hk : ∀ t ∈ T, kOk t.k t.w) (hL : L <:+ T) (hl : T.length < 90) (nb : rowP st L ≠ .bad) : F_Parser_row [.loc n] m = (rowP st L).res m n T st rowD [] := by
  have ln := lt_of_at hn
  unfold F_Parser_row mkFn m_Parser_row
  change retE true m.length (sSeq _ _ [some (.loc n), none, none] m) = _
  refine ends_res (g := fun (r : Rw) L' => some (.rt (.p (rowD r)), Mm m n T st L' [])) hm nb ?_ fun r L' _ => ?_
  · have e0 : m = Mm m n T st L [] := by have := Mm_self (T := T) (st := st) (L := L) (e := []) hn; simpa using this
    conv => arg 5; rw [e0]
    unfold rowP
    refine ends_seq (f2 := fun p L1 => ([some (.loc n), some (.p (.list (p.1.map tokD))), some (.p (tokD p.2))], Mm m n T st L1 [])) ?_ fun p L1 q1 => ?_
    · rw [q_put]
      by_cases hb : numsP st [.sg 61] L = .bad
      · rw [hb]; trivial
      · rw [m_numbers (e := []) ln hm okX_nil rfl hL hk hl (by decide +kernel) (by decide) (opt1 s_equ) hb]
        cases numsP st [.sg 61] L with
        | bad => trivial
        | ok p L1 => exact rfl
        | ahead os L1 => exact ⟨_, [], rfl⟩
        | err c os L1 => exact ⟨_, [], rfl⟩
    · obtain ⟨hL1, _⟩ := nums_suf q1 hL
      refine ends_map (f := fun c => (p.1, p.2, c)) ?_
      by_cases hb : takeL st [.num] L1 = .bad
      · rw [hb]; trivial
      · have mt := m_take (m := m) (n := n) (T := T) (st := st) (L := L1) (e := []) (s := [some (.loc n), some (.p (.list (p.1.map tokD))), some (.p (tokD p.2))]) ln hm okX_nil rfl hL1 hk (by decide +kernel) (opt1 s_num) hb
        rw [q_ret]
        simp only [r_tup, r_acons, r_anil, r_var, List.getElem?_cons_succ, List.getElem?_cons_zero, bind_ok, mt]
        cases takeL st [.num] L1 with
        | bad => trivial
        | ok c L2 =>
          have ez : (0 + 1 + 1 + 1 ≤ sizeLine) = True := by simp [sizeLine_eq]
          show _ = _
          simp only [PL.res, bind_ok, List.length_cons, List.length_nil, ez, if_true, st_ok]
          simp [mkTup, rowD]
        | ahead os L2 => exact ⟨_, _, rfl⟩
        | err c os L2 => exact ⟨_, _, rfl⟩
  · show endFn true m.length _ _ = _
    exact endFn_len (by simp [Mm_len])
theorem m_row {L : List Tk} {e : Hm} {s : Ev} (hn : n < m.length) (hm : okM m.length m = true) (he : okX e) (hs : s[0]? = some (some (.loc n))) (hL : L <:+ T) (hk : ∀ t ∈ T, kOk t.k t.w) (hl : T.length < 90) (nb : rowP st L ≠ .bad) :
    eMeth "Parser" "row" 1 F_Parser_row (eVar 0) aNil s (Mm m n T st L e) = (rowP st L).res m n T st rowD e :=
  m_any (ws := []) nm_row hn hs rfl rfl (q_row (Mm_at hn) (Mm_ok hm he) hk hL hl nb)
/-! ### what a parse takes -/
def goodR (T : List Tk) (r : Rw) : Prop := (∀ t ∈ r.1, t ∈ T ∧ t.k = .num) ∧ r.2.1 ∈ T ∧ r.2.2 ∈ T ∧ r.2.2.k = .num
def goodT (T : List Tk) (q : List Rw × Tk) : Prop := (∀ r ∈ q.1, goodR T r) ∧ q.2 ∈ T ∧ (q.2.k = .sg 59 ∨ q.2.k = .fin)
theorem row_suf {L L' : List Tk} {r : Rw} (h : rowP st L = .ok r L') (hL : L <:+ T) : L' <:+ T ∧ goodR T r := by
  obtain ⟨p, L1, q1, h2⟩ := bind_inv h
  obtain ⟨c, L2, q2, h3⟩ := bind_inv h2
  cases h3
  obtain ⟨hL1, hp, hn, _⟩ := nums_suf q1 hL
  obtain ⟨_, hc, _⟩ := take_ok q2
  have := take_suf q2 hL1
  exact ⟨this.1, hn, hp, this.2, by simpa using hc⟩
theorem rows_suf : ∀ {f : Nat} {t : Tk} {L L' : List Tk} {q : List Rw × Tk}, rowsC st f t L = .ok q L' → t.k ∈ [Kd.sg 44, .sg 59, .fin] → t ∈ T → L <:+ T → L' <:+ T ∧ goodT T q
  | 0, t, L, L', q, h, _, _, _ => by cases h
  | f + 1, t, L, L', q, h, hk, ht, hL => by
    unfold rowsC at h
    split at h
    · obtain ⟨r, L1, q1, h2⟩ := bind_inv h
      obtain ⟨u, L2, q2, h3⟩ := bind_inv h2
      obtain ⟨q', L3, q3, h4⟩ := bind_inv h3
      cases h4
      obtain ⟨hL1, hr⟩ := row_suf q1 hL
      obtain ⟨_, hu, _⟩ := take_ok q2
      have h5 := take_suf q2 hL1
      obtain ⟨hL3, hq⟩ := rows_suf q3 hu h5.2 h5.1
      refine ⟨hL3, fun x hx => ?_, hq.2⟩
      rcases List.mem_cons.mp hx with rfl | hx
      · exact hr
      · exact hq.1 x hx
    · rename_i hne
      cases h
      refine ⟨hL, (fun x hx => by cases hx), ht, ?_⟩
      simp only [List.mem_cons, List.not_mem_nil, or_false] at hk
      rcases hk with h | h | h
      · exact absurd h hne
      · exact .inl h
      · exact .inr h
theorem look_ok {os : List Kd} {L L' : List Tk} {t : Tk} (h : lookL st os L = .ok t L') : ∃ L0, L = t :: L0 ∧ L' = L ∧ t.k ∈ os := by
  cases L with
  | nil => cases h
  | cons t0 L =>
    rw [lookL_cons] at h
    split at h
    · cases h
    · split at h
      · rename_i h2
        cases h
        exact ⟨L, rfl, rfl, h2⟩
      · cases h
theorem table_suf {f : Nat} {L L' : List Tk} {q : List Rw × Tk} (h : tableP st f L = .ok q L') (hL : L <:+ T) : L' <:+ T ∧ goodT T q := by
  obtain ⟨t, L0, q1, h2⟩ := bind_inv h
  obtain ⟨L1, rfl, rfl, hk⟩ := look_ok q1
  split at h2
  · rename_i hc
    obtain ⟨u, L2, q2, h3⟩ := bind_inv h2
    cases h3
    obtain ⟨_, hu, _⟩ := take_ok q2
    have h5 := take_suf q2 hL
    exact ⟨h5.1, (fun x hx => by cases hx), h5.2, by simpa using hu⟩
  · obtain ⟨r, L2, q2, h3⟩ := bind_inv h2
    obtain ⟨u, L3, q3, h4⟩ := bind_inv h3
    obtain ⟨q', L4, q4, h5⟩ := bind_inv h4
    cases h5
    obtain ⟨hL2, hr⟩ := row_suf q2 hL
    obtain ⟨_, hu, _⟩ := take_ok q3
    have h6 := take_suf q3 hL2
    obtain ⟨hL4, hq⟩ := rows_suf q4 hu h6.2 h6.1
    refine ⟨hL4, fun x hx => ?_, hq.2⟩
    rcases List.mem_cons.mp hx with rfl | hx
    · exact hr
    · exact hq.1 x hx
/-! ### table -/
def sTb (n k : Nat) (t : Tk) : Ev := [some (.loc n), some (.loc k), some (.p (tokD t))]
theorem rows_loop (hn : n < m.length) (hm : okM m.length m = true) (hk : ∀ t ∈ T, kOk t.k t.w) (hl : T.length < 90) : ∀ (f : Nat) (t : Tk) (L : List Tk) (acc : List Rw) (fu : Nat), L <:+ T → t ∈ T → f ≤ fu → acc.length + f ≤ 10000 →
    Ends m n T st (sSeq (whGo (bVal (eOp2 (eqM false) (eOp2 idxM (eVar 2) (eC (.int 1))) (eC (.str ",")))) L1_Parser_table fu) (sRet (eTup (aCons (eVar 1) (aCons (eVar 2) aNil)))) (sTb n m.length t) (Mm m n T st L [.lst ((acc.map rowD).map .p)])) (rowsC st f t L) fun q L' => some (.rt (.tw [.loc m.length, .p (tokD q.2)]), Mm m n T st L' [.lst (((acc ++ q.1).map rowD).map .p)]) := by
  intro f
  induction f with
  | zero => intro t L acc fu _ _ _ _; trivial
  | succ f ih =>
    intro t L acc fu hL ht hf ha
    obtain ⟨fu, rfl⟩ : ∃ k, fu = k + 1 := ⟨fu - 1, by omega⟩
    have cnd : ∀ m1, (bVal (eOp2 (eqM false) (eOp2 idxM (eVar 2) (eC (.int 1))) (eC (.str ",")))) (sTb n m.length t) m1 = .ok (decide (t.k = .sg 44)) m1 := fun m1 => by
      have sv : (sTb n m.length t)[2]? = some (some (.p (tokD t))) := rfl
      simp only [r_bval, r_op2, r_var, r_c, sv, bind_ok, o_tk1]
      rw [w_com, o_eqS (kOk_str (hk t ht)) (sok1 44 (by omega)), bind_ok, w_is (hk t ht) (by decide)]
      rfl
    unfold rowsC
    split
    case isFalse h =>
      refine ends_ok ?_
      rw [seq_end (by rw [cnd]; simp [h])]
      simp [sTb, sizeLine_eq, mkTup, allP]
    case isTrue h =>
    have e1 : (((rowP st L).bind fun r L1 => (takeL st [.sg 44, .sg 59, .fin] L1).bind fun u L2 => (rowsC st f u L2).bind fun q L3 => .ok (r :: q.1, q.2) L3) : PL (List Rw × Tk)) =
        (((rowP st L).bind fun r L1 => (takeL st [.sg 44, .sg 59, .fin] L1).bind fun u L2 => .ok (r, u) L2).bind fun p L2 => (rowsC st f p.2 L2).bind fun q L3 => .ok (p.1 :: q.1, q.2) L3) := by
      simp only [bind_assoc']; rfl
    rw [e1]
    refine ends_turn (f2 := fun p L2 => (sTb n m.length p.2, Mm m n T st L2 [.lst (((acc ++ [p.1]).map rowD).map .p)])) (by rw [cnd]; simp [h]) (ends_tidy ?_ fun a L' _ => by simp [Mm_len]) fun p L2 e4 => ?_
    · refine ends_seq (f2 := fun r L1 => (sTb n m.length t, Mm m n T st L1 [.lst (((acc ++ [r]).map rowD).map .p)])) ?_ fun r L1 q1 => ?_
      · exact ends_mono (ends_app (m := m) (n := n) (T := T) (st := st) (e := []) (fD := rowD) (ws := (acc.map rowD).map .p) (L := L) hn rfl (by simp; omega) fun nb => m_row hn hm (okX_lst _) rfl hL hk hl nb) fun a L' _ => by simp
      · have hL1 := (row_suf q1 hL).1
        refine ends_map (f := fun u => (r, u)) ?_
        exact ends_mono (ends_set' (j := 2) (s := sTb n m.length t) fun nb => m_take hn hm (okX_lst _) rfl hL1 hk (by decide +kernel) (opt3 s_com s_sem s_fin) nb) fun a L' _ => rfl
    · obtain ⟨r, L1, q1, e5⟩ := bind_inv e4
      obtain ⟨u, L3, q2, e6⟩ := bind_inv e5
      cases e6
      have h5 := take_suf q2 (row_suf q1 hL).1
      exact ends_map (f := fun q : List Rw × Tk => (r :: q.1, q.2)) (ends_mono (ih u L2 (acc ++ [r]) fu h5.1 h5.2 (by omega) (by simp; omega)) fun es L' _ => by simp)
theorem q_table {L : List Tk} {f : Nat} (hn : m[n]? = some (pc T st (T.length - L.length))) (hm : okM m.length m = true) (hk : ∀ t ∈ T, kOk t.k t.w) (hL : L <:+ T) (hl : T.length < 90) (hf : f ≤ 100) (nb : tableP st f L ≠ .bad) : F_Parser_table [.loc n] m = (tableP st f L).res m n T st tableD [] := by
  have ln := lt_of_at hn
  have e0 : m = Mm m n T st L [] := by have := Mm_self (T := T) (st := st) (L := L) (e := []) hn; simpa using this
  unfold F_Parser_table mkFn m_Parser_table
  change retE true m.length (sSeq (sIf _ _ _) _ [some (.loc n), none, none] m) = _
  have lb : lookL st [.num, .sg 59, .sg 61, .fin] L ≠ .bad := fun q => nb (by unfold tableP; rw [q]; rfl)
  have ml := m_look (m := m) (n := n) (T := T) (st := st) (L := L) (e := []) (s := [some (.loc n), none, none]) ln hm okX_nil rfl hL hk (by decide +kernel) (opt4 s_num s_sem s_equ s_fin) lb
  rw [← e0] at ml
  have ez : (0 + 1 + 1 ≤ sizeLine) = True := by simp [sizeLine_eq]
  have hx : tableP st f L = (lookL st [.num, .sg 59, .sg 61, .fin] L).bind fun t L0 => if t.k = .sg 59 ∨ t.k = .fin then (takeL st [.sg 59, .fin] L0).bind fun u L1 => .ok ([], u) L1 else
    (rowP st L0).bind fun r L1 => (takeL st [.sg 44, .sg 59, .fin] L1).bind fun u L2 => (rowsC st f u L2).bind fun q L3 => .ok (r :: q.1, q.2) L3 := rfl
  rw [hx] at nb ⊢
  cases q : lookL st [.num, .sg 59, .sg 61, .fin] L with
  | bad => exact absurd q lb
  | ahead os L' =>
    rw [q] at ml
    refine ends_res (g := fun _ _ => none) hm (by intro h; cases h) ⟨[some (.loc n), none, none], [], ?_⟩ fun a L h => by cases h
    rw [q_seq, q_if, r_bval, r_op2, r_op2, ml]
    rfl
  | err c os L' =>
    rw [q] at ml
    refine ends_res (g := fun _ _ => none) hm (by intro h; cases h) ⟨[some (.loc n), none, none], [], ?_⟩ fun a L h => by cases h
    rw [q_seq, q_if, r_bval, r_op2, r_op2, ml]
    rfl
  | ok t L0 =>
    obtain ⟨L1, rfl, rfl, hos⟩ := look_ok q
    rw [q] at ml nb
    have ht : t ∈ T := hL.subset List.mem_cons_self
    simp only [PL.bind] at nb ⊢
    have c1 : (bVal (eOp2 inX (eOp2 idxM (eMeth "Parser" "look" 2 F_Parser_look (eVar 0) (aCons (eTup (aCons (eC (.str "a number")) (aCons (eC (.str "\";\"")) (aCons (eC (.str "\"=\"")) (aCons (eC (.str "the end")) aNil))))) aNil)) (eC (.int 1))) (eTup (aCons (eC (.str ";")) (aCons (eC (.str "")) aNil))))) [some (.loc n), none, none] m = .ok (decide (t.k = .sg 59 ∨ t.k = .fin)) (Mm m n T st (t :: L1) []) := by
      rw [r_bval, r_op2, r_op2, ml]
      simp only [PL.res, r_tup, r_acons, r_anil, r_c, bind_ok, o_tk1, List.length_cons, List.length_nil, ez, if_true]
      have k1 : inX (.p (.str (S t.w))) (mkTup [.p (.str ";"), .p (.str "")]) (Mm m n T st (t :: L1) []) = .ok (.p (.bool (decide (t.k = .sg 59 ∨ t.k = .fin)))) (Mm m n T st (t :: L1) []) := by
        have : mkTup [.p (.str ";"), .p (.str "")] = .p (.tuple [.str ";", .str ""]) := by simp [mkTup]
        rw [this]
        show inM false (.p (.str (S t.w))) (.p (.tuple [.str ";", .str ""])) _ = _
        simp only [inM, rd_p]
        rw [if_pos (by rfl)]
        simp only [Bool.false_eq_true, if_false, List.any_cons, List.any_nil, Bool.or_false, eqv_str]
        congr 4
        rw [w_sem, w_emp, Bool.eq_iff_iff]
        have a1 := w_is (hk t ht) (c := 59) (by decide)
        have a2 := w_nil (hk t ht)
        rw [Bool.eq_iff_iff] at a1 a2
        simp only [decide_eq_true_eq] at a1 a2
        simp only [Bool.or_eq_true, decide_eq_true_eq]
        exact or_congr (eq_comm.trans a1) (eq_comm.trans a2)
      rw [k1]
      rfl
    split
    · rename_i hc
      rw [if_pos hc] at nb
      refine ends_res (g := fun (q : List Rw × Tk) L' => some (.rt (.p (tableD q)), Mm m n T st L' [])) hm nb ?_ fun r L' _ => ?_
      · rw [q_seq, q_if, c1]
        simp only [hc, decide_true, st_ok, if_true]
        refine ends_map (f := fun u => (([] : List Rw), u)) ?_
        by_cases hb : takeL st [.sg 59, .fin] (t :: L1) = .bad
        · rw [hb]; trivial
        · have mt := m_take (m := m) (n := n) (T := T) (st := st) (L := t :: L1) (e := []) (s := [some (.loc n), none, none]) ln hm okX_nil rfl hL hk (by decide +kernel) (opt2 s_sem s_fin) hb
          rw [q_ret]
          simp only [r_tup, r_acons, r_anil, r_lst, bind_ok, List.length_nil, Nat.zero_le, if_true, allP_nil, mt]
          cases takeL st [.sg 59, .fin] (t :: L1) with
          | bad => trivial
          | ok u L2 =>
            show _ = _
            simp only [PL.res, bind_ok, List.length_cons, List.length_nil, ez, if_true, st_ok]
            simp [mkTup, tableD]
          | ahead os L2 => exact ⟨_, _, rfl⟩
          | err c os L2 => exact ⟨_, _, rfl⟩
      · show endFn true m.length _ _ = _
        exact endFn_len (by simp [Mm_len])
    · rename_i hc
      rw [if_neg hc] at nb
      refine ends_res (g := fun (q : List Rw × Tk) L' => some (.rt (.tw [.loc m.length, .p (tokD q.2)]), Mm m n T st L' [.lst ((q.1.map rowD).map .p)])) hm nb ?_ fun r L' _ => ?_
      · rw [q_seq, q_if, c1]
        simp only [hc, decide_false, Bool.false_eq_true, if_false, st_ok, q_skip]
        refine ends_seq (f2 := fun r L2 => ([some (.loc n), some (.loc m.length), none], Mm m n T st L2 [.lst ((([] ++ [r]).map rowD).map .p)])) ?_ fun r L2 q2 => ?_
        · rw [q_set, r_lstL, r_acons]
          by_cases hb : rowP st (t :: L1) = .bad
          · rw [hb]; trivial
          · rw [m_row (e := []) ln hm okX_nil rfl hL hk hl hb]
            cases rowP st (t :: L1) with
            | bad => trivial
            | ok p L3 =>
              have ez : (0 + 1 ≤ sizeLine) = True := by simp [sizeLine_eq]
              show _ = _
              simp only [PL.res, bind_ok, r_anil, List.length_cons, List.length_nil, ez, if_true, st_ok, Mm_len]
              simp [Mm]
            | ahead os L3 => exact ⟨_, [], rfl⟩
            | err c os L3 => exact ⟨_, [], rfl⟩
        · have hL2 := (row_suf q2 hL).1
          refine ends_seq (f2 := fun u L3 => (sTb n m.length u, Mm m n T st L3 [.lst ((([] ++ [r]).map rowD).map .p)])) (ends_set' (j := 2) (s := [some (.loc n), some (.loc m.length), none]) fun nb => m_take ln hm (okX_lst _) rfl hL2 hk (by decide +kernel) (opt3 s_com s_sem s_fin) nb) fun u L3 q3 => ?_
          have h5 := take_suf q3 hL2
          exact ends_map (f := fun q : List Rw × Tk => (r :: q.1, q.2)) (ends_mono (rows_loop ln hm hk hl f u L3 [r] 100 h5.1 h5.2 hf (by simp; omega)) fun es L' _ => by simp)
      · show endFn true m.length _ _ = _
        have := end_tw (k := m.length) (m := m.set n (pc T st (T.length - L'.length))) (e := [.lst ((r.1.map rowD).map .p)]) (j := m.length) (ds := r.1.map rowD) (d := tokD r.2) set_len (by have := okM_set (n := n) (c := pc T st (T.length - L'.length)) hm ok_pc; rw [set_len] at this; exact this) (Nat.le_refl _) (by rw [List.getElem?_append_right (by simp)]; simp)
        unfold Mm
        rw [this]
        simp [tableD]
theorem m_table {L : List Tk} {e : Hm} {s : Ev} {f : Nat} (hn : n < m.length) (hm : okM m.length m = true) (he : okX e) (hs : s[0]? = some (some (.loc n))) (hL : L <:+ T) (hk : ∀ t ∈ T, kOk t.k t.w) (hl : T.length < 90) (hf : f ≤ 100) (nb : tableP st f L ≠ .bad) :
    eMeth "Parser" "table" 1 F_Parser_table (eVar 0) aNil s (Mm m n T st L e) = (tableP st f L).res m n T st tableD e :=
  m_any (ws := []) nm_table hn hs rfl rfl (q_table (Mm_at hn) (Mm_ok hm he) hk hL hl hf nb)
/-! ### tables -/
theorem q_tablesM {L : List Tk} {f : Nat} (hn : m[n]? = some (pc T st (T.length - L.length))) (hm : okM m.length m = true) (hk : ∀ t ∈ T, kOk t.k t.w) (hL : L <:+ T) (hl : T.length < 90) (hf : f ≤ 100) (nb : tablesP st f L ≠ .bad) : F_Parser_tables [.loc n] m = (tablesP st f L).res m n T st tablesD [] := by
  have ln := lt_of_at hn
  unfold F_Parser_tables mkFn m_Parser_tables
  change retE true m.length (sSeq _ _ [some (.loc n), none] m) = _
  refine ends_res (g := fun (r : List (List Rw × Tk)) L' => some (.rt (.loc m.length), Mm m n T st L' [.lst ((r.map tableD).map .p)])) hm nb ?_ fun r L' _ => ?_
  · have e0 : m = Mm m n T st L [] := by have := Mm_self (T := T) (st := st) (L := L) (e := []) hn; simpa using this
    conv => arg 5; rw [e0]
    unfold tablesP
    refine ends_seq (f2 := fun p L3 => ([some (.loc n), some (.loc m.length)], Mm m n T st L3 [.lst ((([] ++ [p]).map tableD).map .p)])) ?_ fun p L3 q3 => ?_
    · rw [q_set, r_lstL, r_acons]
      by_cases hb : tableP st f L = .bad
      · rw [hb]; trivial
      · rw [m_table (e := []) ln hm okX_nil rfl hL hk hl hf hb]
        cases tableP st f L with
        | bad => trivial
        | ok p L3 =>
          have ez : (0 + 1 ≤ sizeLine) = True := by simp [sizeLine_eq]
          show _ = _
          simp only [PL.res, bind_ok, r_anil, List.length_cons, List.length_nil, ez, if_true, st_ok, Mm_len]
          simp [Mm]
        | ahead os L3 => exact ⟨_, [], rfl⟩
        | err c os L3 => exact ⟨_, [], rfl⟩
    · obtain ⟨hL3, hp⟩ := table_suf q3 hL
      have key := it_loop (m := m) (n := n) (T := T) (st := st) (fA := tableD) (P := tableP st f) (c := fun p => decide (p.2.k = .sg 59)) (b := (bVal (eOp2 (eqM false) (last1 1) (eC (.str ";"))))) (body := (sExpr (eLM appendM (eVar 1) (aCons (eMeth "Parser" "table" 1 F_Parser_table (eVar 0) aNil) aNil))))
        (R := (sRet (eVar 1))) (s := [some (.loc n), some (.loc m.length)]) (Q := fun ss L4 => .ok ss L4)
        (g := fun (r : List (List Rw × Tk)) L' => some (.rt (.loc m.length), Mm m n T st L' [.lst ((r.map tableD).map .p)])) (goodT T)
        (fun L p acc hp => by
          have hx : (Mm m n T st L [.lst (((acc ++ [p]).map tableD).map .p)])[m.length]? = some (.lst ((acc.map tableD).map .p ++ [.p (.tuple [.list (p.1.map rowD), tokD p.2])])) := by
            unfold Mm
            rw [List.getElem?_append_right (by simp)]
            simp [tableD]
          rw [r_bval, r_op2, last1_is (d := .none) rfl hx]
          simp only [r_c, bind_ok]
          rw [w_sem, o_eqS (kOk_str (hk _ hp.2.1)) (sok1 59 (by omega)), bind_ok, w_is (hk _ hp.2.1) (by decide)]
          rfl)
        (fun L acc hL ha => ends_mono (ends_app (m := m) (n := n) (T := T) (st := st) (e := []) (fD := tableD) (ws := (acc.map tableD).map .p) (L := L) ln rfl (by simp; omega) fun nb => m_table ln hm (okX_lst _) rfl hL hk hl hf nb) fun a L' _ => by simp)
        (fun L q L1 hL e => table_suf e hL)
        (fun ss L' hL' _ => ends_ok (by rfl))
        f p L3 [] 100 hL3 hp (fun _ h => nomatch h) hf (by simp; omega)
      unfold tabsC
      have : ((itC (tableP st f) (fun p => decide (p.2.k = .sg 59)) f p L3).bind fun ss L4 => PL.ok ([] ++ ss) L4) = itC (tableP st f) (fun p => decide (p.2.k = .sg 59)) f p L3 := by
        cases itC (tableP st f) (fun p => decide (p.2.k = .sg 59)) f p L3 <;> rfl
      rw [this] at key
      exact key
  · show endFn true m.length _ _ = _
    have := end_RD (k := m.length) (m := m.set n (pc T st (T.length - L'.length))) (e := [.lst ((r.map tableD).map .p)]) (w := .loc m.length) (ds := r.map tableD) set_len (by have := okM_set (n := n) (c := pc T st (T.length - L'.length)) hm ok_pc; rw [set_len] at this; exact this) (.inr ⟨m.length, rfl, Nat.le_refl _, by rw [List.getElem?_append_right (by simp)]; simp⟩)
    unfold Mm
    rw [this]
    simp [tablesD]
end
end Mir.K68

namespace Mir.K68
open PySem PySem.Spec PyProof.Rows L2
/-! ### the grammar as a table -/
inductive Q where
  | g0 | gv | gs | ge | gf | gt | gb | gn | t0 | tr | tc | td
  deriving DecidableEq
def step : Q → Kd → Option Q
  | .g0, .num => some .gv
  | .gv, .sg 58 => some .gs
  | .gs, .num => some .gs
  | .gs, .sg 44 => some .gs
  | .gs, .sg 59 => some .ge
  | .ge, .num => some .gf
  | .gf, .sg 45 => some .gt
  | .gt, .num => some .gb
  | .gb, .sg 44 => some .gn
  | .gn, .num => some .gf
  | .t0, .num => some .tr
  | .t0, .sg 61 => some .tc
  | .t0, .sg 59 => some .t0
  | .tr, .num => some .tr
  | .tr, .sg 61 => some .tc
  | .tc, .num => some .td
  | .td, .sg 44 => some .tr
  | .td, .sg 59 => some .t0
  | _, _ => none
def fine : Q → Bool
  | .ge => true
  | .gb => true
  | .t0 => true
  | .td => true
  | _ => false
/-- what can come -/
def can (q : Q) (k : Kd) : Bool := if k = .fin then fine q else (step q k).isSome
def dueK (q : Q) : List Kd := ordK.filter (can q)
inductive Oc where
  | bad
  | fin
  | ahead (os : List Kd)
  | err (c : Int) (os : List Kd)
def run (st : Bool) : Q → List Tk → Oc
  | _, [] => .bad
  | q, t :: L => if t.k = .fin then (if st = true then .ahead (dueK q) else if fine q = true then .fin else .err t.c (dueK q)) else match step q t.k with
    | some q' => run st q' L
    | none => .err t.c (dueK q)
def PL.oc {α : Type} : PL α → Oc
  | .bad => .bad
  | .ok _ _ => .fin
  | .ahead os _ => .ahead (ordOf os)
  | .err c os _ => .err c (ordOf os)
section
variable {st : Bool} {α β : Type}
theorem step_fin (q : Q) : step q .fin = none := by cases q <;> rfl
/-- a take at a place of the grammar -/
theorem take_run {q : Q} {os : List Kd} {L : List Tk} {P : Tk → List Tk → PL β} (ho : ordOf os = dueK q) (hm : ∀ k, k ∈ os ↔ can q k = true) (hP : ∀ t L', L = t :: L' → ∀ q', step q t.k = some q' → (P t L').oc = run st q' L') (hF : fine q = true → ∀ t L', L = t :: L' → t.k = .fin → (P t L').oc = .fin) : ((takeL st os L).bind P).oc = run st q L := by
  cases L with
  | nil => rfl
  | cons t L =>
    rw [takeL_cons]
    unfold run
    by_cases hf : t.k = .fin
    · rw [if_pos hf]
      by_cases hs : st = true
      · rw [if_pos ⟨hf, hs⟩, if_pos hs]
        show Oc.ahead _ = _
        rw [ho]
      · rw [if_neg (fun h => hs h.2), if_neg hs]
        have : t.k ∈ os ↔ fine q = true := by rw [hm, hf]; simp [can]
        by_cases hq : fine q = true
        · rw [if_pos (this.mpr hq), if_pos hq]
          exact hF hq t L rfl hf
        · rw [if_neg (fun h => hq (this.mp h)), if_neg hq]
          show Oc.err _ _ = _
          rw [ho]
    · rw [if_neg hf, if_neg (fun h => hf h.1)]
      have : t.k ∈ os ↔ (step q t.k).isSome = true := by rw [hm]; simp [can, hf]
      cases e : step q t.k with
      | none =>
        rw [if_neg (fun h => by have := this.mp h; rw [e] at this; cases this)]
        show Oc.err _ _ = _
        rw [ho]
      | some q' =>
        rw [if_pos (this.mpr (by rw [e]; rfl))]
        exact hP t L rfl q' e
/-- numbers at a place where numbers come again and again -/
theorem nums_run {q : Q} {cl : List Kd} {P : List Tk × Tk → List Tk → PL β} (hq : step q .num = some q) (hf : fine q = false) (ho : ordOf (.num :: cl) = dueK q) (hm : ∀ k, k ∈ (.num :: cl : List Kd) ↔ can q k = true) : ∀ (L : List Tk), (∀ ts t L', t :: L' <:+ L → t.k ≠ .num → ∀ q', step q t.k = some q' → (P (ts, t) L').oc = run st q' L') → ((numsP st cl L).bind P).oc = run st q L := by
  intro L
  induction L generalizing P with
  | nil => intro _; rfl
  | cons t L ih =>
    intro hP
    rw [numsP_cons, bind_assoc']
    refine take_run ho hm (fun t' L' e q' hs => ?_) (fun h => by rw [hf] at h; cases h)
    cases e
    unfold numsC
    split
    · rename_i ht
      rw [ht, hq] at hs
      cases hs
      rw [bind_assoc']
      exact ih fun ts u L' hu hn q' hs' => hP (t :: ts) u L' (hu.trans (List.suffix_cons t L)) hn q' hs'
    · rename_i ht
      exact hP [] t L List.suffix_rfl ht q' hs
theorem nums_len {cl : List Kd} : ∀ {L L' : List Tk} {p : List Tk × Tk}, numsP st cl L = .ok p L' → L'.length < L.length
  | [], L', p, h => by cases h
  | t :: L, L', p, h => by
    rw [numsP_cons] at h
    obtain ⟨t', L1, q1, h2⟩ := bind_inv h
    unfold numsC at h2
    split at h2
    · obtain ⟨q, L2, q2, h3⟩ := bind_inv h2
      cases h3
      have := nums_len q2
      simp; omega
    · cases h2; simp
theorem oc_congr {P : PL α} {A B : α → List Tk → PL β} (h : ∀ a L, P = .ok a L → A a L = B a L) : P.bind A = P.bind B := by
  cases P with
  | ok a L => exact h a L rfl
  | _ => rfl
/-- which options are asked where -/
def asks (q : Q) (os : List Kd) : Prop := ∀ k, k ∈ os ↔ can q k = true
theorem ak_g0 : asks .g0 [.num] := fun k => by cases k <;> simp [can, step, fine]
theorem ak_gv : asks .gv [.sg 58] := fun k => by
  cases k with
  | sg c => by_cases h : c = 58 <;> simp [can, step, h]
  | _ => simp [can, step, fine]
theorem ak_gs : asks .gs [.num, .sg 44, .sg 59] := fun k => by
  cases k with
  | sg c =>
    by_cases h : c = 44
    · simp [can, step, h]
    · by_cases h2 : c = 59 <;> simp [can, step, h, h2]
  | _ => simp [can, step, fine]
theorem ak_ge : asks .ge [.num, .fin] := fun k => by cases k <;> simp [can, step, fine]
theorem ak_gf : asks .gf [.sg 45] := fun k => by
  cases k with
  | sg c => by_cases h : c = 45 <;> simp [can, step, h]
  | _ => simp [can, step, fine]
theorem ak_gt : asks .gt [.num] := fun k => by cases k <;> simp [can, step, fine]
theorem ak_gb : asks .gb [.sg 44, .fin] := fun k => by
  cases k with
  | sg c => by_cases h : c = 44 <;> simp [can, step, h]
  | _ => simp [can, step, fine]
theorem ak_gn : asks .gn [.num] := fun k => by cases k <;> simp [can, step, fine]
theorem ak_t0 : asks .t0 [.num, .sg 59, .sg 61, .fin] := fun k => by
  cases k with
  | sg c =>
    by_cases h : c = 59
    · simp [can, step, h]
    · by_cases h2 : c = 61 <;> simp [can, step, h, h2]
  | _ => simp [can, step, fine]
theorem ak_tr : asks .tr [.num, .sg 61] := fun k => by
  cases k with
  | sg c => by_cases h : c = 61 <;> simp [can, step, h]
  | _ => simp [can, step, fine]
theorem ak_tc : asks .tc [.num] := fun k => by cases k <;> simp [can, step, fine]
theorem ak_td : asks .td [.sg 44, .sg 59, .fin] := fun k => by
  cases k with
  | sg c =>
    by_cases h : c = 44
    · simp [can, step, h]
    · by_cases h2 : c = 59 <;> simp [can, step, h, h2]
  | _ => simp [can, step, fine]
theorem st_num {q q' : Q} {k : Kd} (h : step q k = some q') (hq : ∀ c, step q (.sg c) = none) : k = .num := by
  cases k with
  | num => rfl
  | sg c => rw [hq] at h; cases h
  | fin => rw [step_fin] at h; cases h
theorem st_can {q q' : Q} {k : Kd} {os : List Kd} (h : step q k = some q') (ha : asks q os) : k ∈ os ∧ k ≠ .fin := by
  have hk : k ≠ .fin := fun e => by rw [e, step_fin] at h; cases h
  exact ⟨(ha k).mpr (by unfold can; rw [if_neg hk, h]; rfl), hk⟩
/-! ### graphs -/
theorem edges_run {P : List (Tk × Tk) → List Tk → PL β} : ∀ (f : Nat) (t : Tk) (L : List Tk), L.length < f → (∀ es L', (P es L').oc = .fin) → ((t.k = .num → ((edgesC st f t L).bind P).oc = run st .gf L) ∧ (t.k = .fin → ((edgesC st f t L).bind P).oc = .fin)) := by
  intro f
  induction f generalizing P with
  | zero => intro t L h; omega
  | succ f ih =>
    intro t L hl hP
    refine ⟨fun ht => ?_, fun ht => ?_⟩
    · unfold edgesC
      rw [if_pos ht, bind_assoc']
      refine take_run (by decide +kernel) ak_gf (fun t1 L1 e1 q1 h1 => ?_) (fun h => by cases h)
      obtain ⟨k1, _⟩ := st_can h1 ak_gf
      simp at k1
      rw [k1] at h1
      cases h1
      rw [bind_assoc']
      refine take_run (by decide +kernel) ak_gt (fun t2 L2 e2 q2 h2 => ?_) (fun h => by cases h)
      obtain ⟨k2, _⟩ := st_can h2 ak_gt
      simp at k2
      rw [k2] at h2
      cases h2
      rw [bind_assoc']
      have tail : ∀ w L4, L4.length < f → ((w.k = .num → (((edgesC st f w L4).bind fun r L5 => PL.ok ((t, t2) :: r) L5).bind P).oc = run st .gf L4) ∧ (w.k = .fin → (((edgesC st f w L4).bind fun r L5 => PL.ok ((t, t2) :: r) L5).bind P).oc = .fin)) := fun w L4 h4 => by
        rw [bind_assoc']
        exact ih w L4 h4 fun es L' => hP _ _
      refine take_run (by decide +kernel) ak_gb (fun t3 L3 e3 q3 h3 => ?_) (fun _ t3 L3 e3 hk3 => ?_)
      · obtain ⟨k3, k3'⟩ := st_can h3 ak_gb
        simp [k3'] at k3
        rw [k3] at h3
        cases h3
        rw [if_pos k3, bind_assoc']
        refine take_run (by decide +kernel) ak_gn (fun t4 L4 e4 q4 h4 => ?_) (fun h => by cases h)
        obtain ⟨k4, _⟩ := st_can h4 ak_gn
        simp at k4
        rw [k4] at h4
        cases h4
        exact (tail t4 L4 (by rw [e1, e2, e3, e4] at hl; simp at hl; omega)).1 k4
      · rw [if_neg (by rw [hk3]; intro h; cases h)]
        exact (tail t3 L3 (by rw [e1, e2, e3] at hl; simp at hl; omega)).2 hk3
    · unfold edgesC
      rw [if_neg (by rw [ht]; intro h; cases h)]
      exact hP _ _
theorem edgesP_run {P : List (Tk × Tk) → List Tk → PL β} {f : Nat} {L : List Tk} (hl : L.length < f) (hP : ∀ es L', (P es L').oc = .fin) : ((edgesP st f L).bind P).oc = run st .ge L := by
  unfold edgesP
  rw [bind_assoc']
  refine take_run (by decide +kernel) ak_ge (fun t1 L1 e1 q1 h1 => ?_) (fun _ t1 L1 e1 h1 => ?_)
  · obtain ⟨k1, k1'⟩ := st_can h1 ak_ge
    simp [k1'] at k1
    rw [k1] at h1
    cases h1
    exact (edges_run f t1 L1 (by rw [e1] at hl; simp at hl; omega) hP).1 k1
  · exact (edges_run f t1 L1 (by rw [e1] at hl; simp at hl; omega) hP).2 h1
theorem gs_next {t : Tk} {q' : Q} (hn : t.k ≠ .num) (h : step .gs t.k = some q') : (t.k = .sg 44 ∧ q' = .gs) ∨ (t.k = .sg 59 ∧ q' = .ge) := by
  obtain ⟨k, k'⟩ := st_can h ak_gs
  simp [hn] at k
  rcases k with k | k
  · rw [k] at h; cases h; exact .inl ⟨k, rfl⟩
  · rw [k] at h; cases h; exact .inr ⟨k, rfl⟩
theorem sc_run {P : List (List Tk × Tk) → List Tk → PL β} : ∀ (f : Nat) (p : List Tk × Tk) (L : List Tk), L.length < f → (∀ ss L', L'.length ≤ L.length → (P ss L').oc = run st .ge L') → ((p.2.k = .sg 44 → ((scC st f p L).bind P).oc = run st .gs L) ∧ (p.2.k = .sg 59 → ((scC st f p L).bind P).oc = run st .ge L)) := by
  intro f
  induction f generalizing P with
  | zero => intro p L h; omega
  | succ f ih =>
    intro p L hl hP
    refine ⟨fun hp => ?_, fun hp => ?_⟩
    · unfold scC itC
      simp only [hp, decide_true, if_true]
      rw [bind_assoc']
      refine nums_run rfl rfl (by decide +kernel) ak_gs L fun ts t L' hs hn q' h1 => ?_
      have hlen : L'.length < L.length := by have := hs.length_le; simp at this; omega
      have ih2 := ih (P := fun r L2 => P (p :: r) L2) (ts, t) L' (by omega) fun ss L2 h2 => hP _ _ (by omega)
      rw [bind_assoc']
      rcases gs_next hn h1 with ⟨k, rfl⟩ | ⟨k, rfl⟩
      · exact ih2.1 k
      · exact ih2.2 k
    · unfold scC itC
      simp only [hp]
      rw [if_neg (by decide)]
      exact hP _ _ (Nat.le_refl _)
theorem graph_run {f : Nat} {L : List Tk} (hl : L.length < f) : (graphP st f L).oc = run st .g0 L := by
  unfold graphP
  refine take_run (by decide +kernel) ak_g0 (fun t1 L1 e1 q1 h1 => ?_) (fun h => by cases h)
  obtain ⟨k1, _⟩ := st_can h1 ak_g0
  simp at k1
  rw [k1] at h1
  cases h1
  refine take_run (by decide +kernel) ak_gv (fun t2 L2 e2 q2 h2 => ?_) (fun h => by cases h)
  obtain ⟨k2, _⟩ := st_can h2 ak_gv
  simp at k2
  rw [k2] at h2
  cases h2
  have l2 : L2.length < f := by rw [e1, e2] at hl; simp at hl; omega
  refine nums_run rfl rfl (by decide +kernel) ak_gs L2 fun ts t L' hs hn q' h3 => ?_
  have hlen : L'.length < L2.length := by have := hs.length_le; simp at this; omega
  have key := sc_run (st := st) (P := fun ss L4 => (edgesP st f L4).bind fun es L5 => PL.ok (t1, ss, es) L5) f (ts, t) L' (by omega) fun ss L4 h4 => edgesP_run (by omega) fun es L5 => rfl
  rcases gs_next hn h3 with ⟨k, rfl⟩ | ⟨k, rfl⟩
  · exact key.1 k
  · exact key.2 k
/-! ### tables -/
theorem tr_next {t : Tk} {q' : Q} (hn : t.k ≠ .num) (h : step .tr t.k = some q') : t.k = .sg 61 ∧ q' = .tc := by
  obtain ⟨k, k'⟩ := st_can h ak_tr
  simp [hn] at k
  rw [k] at h; cases h; exact ⟨k, rfl⟩
theorem row_run {P : Rw → List Tk → PL β} {L : List Tk} (hP : ∀ r L', L'.length < L.length → (P r L').oc = run st .td L') : ((rowP st L).bind P).oc = run st .tr L := by
  unfold rowP
  rw [bind_assoc']
  refine nums_run rfl rfl (by decide +kernel) ak_tr L fun ts t L' hs hn q' h1 => ?_
  have hlen : L'.length < L.length := by have := hs.length_le; simp at this; omega
  obtain ⟨k, rfl⟩ := tr_next hn h1
  rw [bind_assoc']
  refine take_run (by decide +kernel) ak_tc (fun t2 L2 e2 q2 h2 => ?_) (fun h => by cases h)
  obtain ⟨k2, _⟩ := st_can h2 ak_tc
  simp at k2
  rw [k2] at h2
  cases h2
  exact hP _ _ (by rw [e2] at hlen; simp at hlen; omega)
theorem td_next {t : Tk} {q' : Q} (h : step .td t.k = some q') : (t.k = .sg 44 ∧ q' = .tr) ∨ (t.k = .sg 59 ∧ q' = .t0) := by
  obtain ⟨k, k'⟩ := st_can h ak_td
  simp [k'] at k
  rcases k with k | k
  · rw [k] at h; cases h; exact .inl ⟨k, rfl⟩
  · rw [k] at h; cases h; exact .inr ⟨k, rfl⟩
theorem rows_run {P : List Rw × Tk → List Tk → PL β} : ∀ (f : Nat) (t : Tk) (L : List Tk), L.length < f → (∀ q L', L'.length ≤ L.length → (q.2.k = .sg 59 → (P q L').oc = run st .t0 L') ∧ (q.2.k = .fin → (P q L').oc = .fin)) →
    ((t.k = .sg 44 → ((rowsC st f t L).bind P).oc = run st .tr L) ∧ (t.k = .sg 59 → ((rowsC st f t L).bind P).oc = run st .t0 L) ∧ (t.k = .fin → ((rowsC st f t L).bind P).oc = .fin)) := by
  intro f
  induction f generalizing P with
  | zero => intro t L h; omega
  | succ f ih =>
    intro t L hl hP
    refine ⟨fun ht => ?_, fun ht => ?_, fun ht => ?_⟩
    · unfold rowsC
      rw [if_pos ht, bind_assoc']
      refine row_run fun r L1 h1 => ?_
      rw [bind_assoc']
      have tail := fun (u : Tk) (L2 : List Tk) (h2 : L2.length < L1.length) => ih (P := fun q L3 => P (r :: q.1, q.2) L3) u L2 (by omega) fun q L' h3 => hP (r :: q.1, q.2) L' (by omega)
      refine take_run (by decide +kernel) ak_td (fun t3 L3 e3 q3 h3 => ?_) (fun _ t3 L3 e3 hk3 => ?_)
      · rw [bind_assoc']
        rcases td_next h3 with ⟨k, rfl⟩ | ⟨k, rfl⟩
        · exact (tail t3 L3 (by rw [e3]; simp)).1 k
        · exact (tail t3 L3 (by rw [e3]; simp)).2.1 k
      · rw [bind_assoc']
        exact (tail t3 L3 (by rw [e3]; simp)).2.2 hk3
    · unfold rowsC
      rw [if_neg (by rw [ht]; intro h; cases h)]
      exact (hP ([], t) L (Nat.le_refl _)).1 ht
    · unfold rowsC
      rw [if_neg (by rw [ht]; intro h; cases h)]
      exact (hP ([], t) L (Nat.le_refl _)).2 ht
theorem t0_tr {t : Tk} {L : List Tk} (h : t.k = .num ∨ t.k = .sg 61) : run st .t0 (t :: L) = run st .tr (t :: L) := by
  unfold run
  rcases h with h | h <;> rw [h] <;> rfl
theorem table_run {P : List Rw × Tk → List Tk → PL β} {f : Nat} {L : List Tk} (hl : L.length < f) (hP : ∀ q L', L'.length < L.length → (q.2.k = .sg 59 → (P q L').oc = run st .t0 L') ∧ (q.2.k = .fin → (P q L').oc = .fin)) : ((tableP st f L).bind P).oc = run st .t0 L := by
  unfold tableP
  rw [bind_assoc']
  cases L with
  | nil => rfl
  | cons t L =>
    have ho : ordOf [.num, .sg 59, .sg 61, .fin] = dueK .t0 := by decide +kernel
    have hm := ak_t0 t.k
    rw [lookL_cons]
    by_cases hf : t.k = .fin
    · by_cases hs : st = true
      · rw [if_pos ⟨hf, hs⟩]
        unfold run
        rw [if_pos hf, if_pos hs]
        show Oc.ahead _ = _
        rw [ho]
      · rw [if_neg (fun h => hs h.2), if_pos (hm.mpr (by rw [hf]; rfl))]
        show (((if t.k = .sg 59 ∨ t.k = .fin then _ else _ : PL (List Rw × Tk))).bind P).oc = _
        rw [if_pos (.inr hf), bind_assoc', takeL_cons, if_neg (fun h => hs h.2), if_pos (by rw [hf]; simp)]
        unfold run
        rw [if_pos hf, if_neg hs]
        exact (hP ([], t) L (by simp)).2 hf
    · rw [if_neg (fun h => hf h.1)]
      by_cases hc : can .t0 t.k = true
      · rw [if_pos (hm.mpr hc)]
        show (((if t.k = .sg 59 ∨ t.k = .fin then _ else _ : PL (List Rw × Tk))).bind P).oc = _
        by_cases h59 : t.k = .sg 59
        · rw [if_pos (.inl h59), bind_assoc', takeL_cons, if_neg (fun h => hf h.1), if_pos (by rw [h59]; simp)]
          unfold run
          rw [if_neg hf, h59]
          exact (hP ([], t) L (by simp)).1 h59
        · rw [if_neg (by intro h; rcases h with h | h; exact h59 h; exact hf h), bind_assoc']
          have hk : t.k = .num ∨ t.k = .sg 61 := by
            have := hm.mpr hc
            simp [hf, h59] at this
            exact this
          rw [t0_tr hk]
          refine row_run fun r L1 h1 => ?_
          rw [bind_assoc']
          have tail := fun (u : Tk) (L2 : List Tk) (h2 : L2.length < L1.length) => rows_run (st := st) (P := fun q L3 => P (r :: q.1, q.2) L3) f u L2 (by simp at hl h1; omega) fun q L' h3 => hP (r :: q.1, q.2) L' (by simp at h1 ⊢; omega)
          refine take_run (by decide +kernel) ak_td (fun t3 L3 e3 q3 h3 => ?_) (fun _ t3 L3 e3 hk3 => ?_)
          · rw [bind_assoc']
            rcases td_next h3 with ⟨k, rfl⟩ | ⟨k, rfl⟩
            · exact (tail t3 L3 (by rw [e3]; simp)).1 k
            · exact (tail t3 L3 (by rw [e3]; simp)).2.1 k
          · rw [bind_assoc']
            exact (tail t3 L3 (by rw [e3]; simp)).2.2 hk3
      · rw [if_neg (fun h => hc (hm.mp h))]
        unfold run
        rw [if_neg hf]
        have : step .t0 t.k = none := by
          unfold can at hc
          rw [if_neg hf] at hc
          cases e : step .t0 t.k with
          | none => rfl
          | some q => rw [e] at hc; exact absurd rfl hc
        rw [this]
        show Oc.err _ _ = _
        rw [ho]
theorem tabs_run {P : List (List Rw × Tk) → List Tk → PL β} {F : Nat} : ∀ (f : Nat) (p : List Rw × Tk) (L : List Tk), L.length < f → L.length < F → (∀ ss L', (P ss L').oc = .fin) → ((p.2.k = .sg 59 → ((tabsC st F f p L).bind P).oc = run st .t0 L) ∧ (p.2.k = .fin → ((tabsC st F f p L).bind P).oc = .fin)) := by
  intro f
  induction f generalizing P with
  | zero => intro p L h; omega
  | succ f ih =>
    intro p L hl hF hP
    refine ⟨fun hp => ?_, fun hp => ?_⟩
    · unfold tabsC itC
      simp only [hp, decide_true, if_true]
      rw [bind_assoc']
      refine table_run hF fun q L1 h1 => ?_
      have := ih (P := fun r L2 => P (p :: r) L2) q L1 (by omega) (by omega) fun ss L' => hP _ _
      rw [bind_assoc']
      exact this
    · unfold tabsC itC
      simp only [hp]
      rw [if_neg (by decide)]
      exact hP _ _
theorem tables_run {f : Nat} {L : List Tk} (hl : L.length < f) : (tablesP st f L).oc = run st .t0 L := by
  unfold tablesP
  refine table_run hl fun q L1 h1 => ?_
  have := tabs_run (st := st) (P := fun ss L' => PL.ok ss L') (F := f) f q L1 (by omega) (by omega) fun _ _ => rfl
  have e : ((tabsC st f f q L1).bind fun ss L' => PL.ok ss L') = tabsC st f f q L1 := by cases tabsC st f f q L1 <;> rfl
  rw [e] at this
  exact this
end
end Mir.K68

namespace Mir.K68
open PySem PySem.Spec PyProof.Rows L2
/-! ### readers: what they may answer -/
theorem o_lenC {m : Hm} {n : Nat} {ws : List W} (h : m[n]? = some (.lst ws)) : lenM [.loc n] m = .ok (.p (.int ws.length)) m := by
  simp [lenM, seqW, h]
theorem o_tupC {m : Hm} {n : Nat} {ds : List PyData} (h : m[n]? = some (.lst (ds.map .p))) : tupleM [.loc n] m = .ok (.p (.tuple ds)) m := by
  simp [tupleM, seqW, h, isL]
def rdw : List Str := ["there are 2 or 3 values", "a scope has at most 3 variables", "a variable is from 0 to 5", "variables ascend", "there are at most 5 nodes", "there is no such node", "an edge ascends", "edges ascend", "there is no such variable", "there is no such value", "a value is missing", "rows ascend", "a cost is from 0 to 100", "a table is missing"]
/-- what comes: data of a kind, or a TextError of a reader -/
def Rd (p : PyData → Prop) (r : Res W) (m : Hm) : Prop := (∃ d, r = .ok (.p d) m ∧ p d) ∨ ∃ c w, w ∈ rdw ∧ r = .exc (tx c w) m
def numW : List (List Nat) := [[48], [49], [51], [57], [48, 48, 48, 48, 48, 50]]
def NumT (T : List Tk) : Prop := ∀ t ∈ T, t.k = .num → t.w ∈ numW
theorem num_int {w : List Nat} (h : w ∈ numW) : ∃ v, PySem.intText? (S w) = some v := by
  simp only [numW, List.mem_cons, List.not_mem_nil, or_false] at h
  rcases h with rfl | rfl | rfl | rfl | rfl
  · exact ⟨0, by decide +kernel⟩
  · exact ⟨1, by decide +kernel⟩
  · exact ⟨3, by decide +kernel⟩
  · exact ⟨9, by decide +kernel⟩
  · exact ⟨2, by decide +kernel⟩
theorem numW_len {w : List Nat} (h : w ∈ numW) : w.length ≤ 640 := by
  simp only [numW, List.mem_cons, List.not_mem_nil, or_false] at h
  rcases h with rfl | rfl | rfl | rfl | rfl <;> decide
theorem o_intS {w : List Nat} {m : Hm} (h : w ∈ numW) : ∃ v, ∀ m, intX [.p (.str (S w))] m = .ok (.p (.int v)) m := by
  obtain ⟨v, hv⟩ := num_int h
  have hl : (S w).length ≤ 640 := by rw [S_len]; exact numW_len h
  refine ⟨v, fun m => ?_⟩
  show (match PySem.intText? (S w) with
    | some n => if decide ((S w).length ≤ 640) = true then (.ok (.p (.int n)) m : Res W) else .stuck
    | none => .stuck) = _
  rw [hv]
  simp only [decide_eq_true hl, if_true]
theorem q_number {t : Tk} {lo hi : Int} {w : Str} {m : Hm} (ht : t.w ∈ numW) : (∃ v, F_number_of [.p (tokD t), .p (.int lo), .p (.int hi), .p (.str w)] m = .ok (.p (.int v)) m) ∨ F_number_of [.p (tokD t), .p (.int lo), .p (.int hi), .p (.str w)] m = .exc (tx t.c w) m := by
  obtain ⟨v, hv⟩ := o_intS (m := m) ht
  have c : ∀ s : Ev, s[0]? = some (some (.p (tokD t))) → s[1]? = some (some (.p (.int lo))) → s[2]? = some (some (.p (.int hi))) → (bNot (bVal (eChain leX leX (eVar 1) (eCB intX (aCons (eOp2 idxM (eVar 0) (eC (.int 1))) aNil)) (eVar 2)))) s m = .ok (!(decide (lo ≤ v) && decide (v ≤ hi))) m := fun s h0 h1 h2 => by
    simp only [r_bnot, r_bval, r_chain, r_cb, r_acons, r_anil, r_op2, r_c, r_var, h0, h1, h2, bind_ok, o_tk1, hv, o_leX]
    by_cases a : lo ≤ v <;> simp [a]
  unfold F_number_of mkFn m_number_of
  change (∃ v, retE true m.length (sSeq _ _ [some (.p (tokD t)), some (.p (.int lo)), some (.p (.int hi)), some (.p (.str w))] m) = _) ∨ retE true m.length (sSeq _ _ [some (.p (tokD t)), some (.p (.int lo)), some (.p (.int hi)), some (.p (.str w))] m) = _
  rw [q_seq, q_if, c _ rfl rfl rfl]
  cases q : (decide (lo ≤ v) && decide (v ≤ hi)) with
  | true =>
    left
    refine ⟨v, ?_⟩
    simp only [Bool.not_true, st_ok, Bool.false_eq_true, if_false, q_skip, q_ret, r_cb, r_acons, r_anil, r_op2, r_c, r_var, List.getElem?_cons_zero, bind_ok, o_tk1, hv, ret_rt, endFn_p]
  | false =>
    right
    simp only [Bool.not_false, st_ok, if_true, sRaise, r_acons, r_anil, r_op2, r_c, r_var, List.getElem?_cons_succ, List.getElem?_cons_zero, bind_ok, o_tk2]
    simp [tx, endX_same]
/-- a loop that goes through or raises -/
theorem for_any {α : Type} {gs : List (Nat × List W)} {t : Tg} {body : SX} {e : α → W} {xs : List α} {s : Ev} {m : Hm} (Iv : List α → Ev → Hm → Prop) (Ex : Exn → Hm → Prop) (hg : ∀ pre s m, Iv pre s m → gOk m gs = true)
    (hb : ∀ pre x post s m, xs = pre ++ x :: post → Iv pre s m → ∃ s1, t.put (e x) s = some s1 ∧ ((∃ s' m', body s1 m = some (.nx s', m') ∧ Iv (pre ++ [x]) s' m') ∨ ∃ x' s' m', body s1 m = some (.ex x' s', m') ∧ Ex x' m')) (h0 : Iv [] s m) :
    (∃ s' m', forGo gs t body (xs.map e) s m = some (.nx s', m') ∧ Iv xs s' m') ∨ ∃ x' s' m', forGo gs t body (xs.map e) s m = some (.ex x' s', m') ∧ Ex x' m' := by
  have go : ∀ suf pre s m, xs = pre ++ suf → Iv pre s m → (∃ s' m', forGo gs t body (suf.map e) s m = some (.nx s', m') ∧ Iv xs s' m') ∨ ∃ x' s' m', forGo gs t body (suf.map e) s m = some (.ex x' s', m') ∧ Ex x' m' := by
    intro suf
    induction suf with
    | nil =>
      intro pre s m hx h0
      exact .inl ⟨s, m, by simp [forGo, hg pre s m h0], by rw [hx, List.append_nil]; exact h0⟩
    | cons x suf ih =>
      intro pre s m hx h0
      obtain ⟨s1, h1, h2⟩ := hb pre x suf s m hx h0
      rcases h2 with ⟨s2, m2, h2, h3⟩ | ⟨x', s2, m2, h2, h3⟩
      · rcases ih (pre ++ [x]) s2 m2 (by rw [hx]; simp) h3 with ⟨s3, m3, h4, h5⟩ | ⟨x', s3, m3, h4, h5⟩
        · exact .inl ⟨s3, m3, by simp only [List.map_cons, forGo, hg pre s m h0, if_true, h1, h2]; exact h4, h5⟩
        · exact .inr ⟨x', s3, m3, by simp only [List.map_cons, forGo, hg pre s m h0, if_true, h1, h2]; exact h4, h5⟩
      · exact .inr ⟨x', s2, m2, by simp only [List.map_cons, forGo, hg pre s m h0, if_true, h1, h2], h3⟩
  exact go xs [] s m rfl h0
/-- an exception of a reader over a heap -/
def ExR (m : Hm) (x : Exn) (m' : Hm) : Prop := ∃ c w e, w ∈ rdw ∧ x = tx c w ∧ m' = m ++ e
theorem end_ExR {m : Hm} {x : Exn} {m' : Hm} {s : Ev} {p : PyData → Prop} (hm : okM m.length m = true) (h : ExR m x m') : Rd p (retE true m.length (some (.ex x s, m'))) m := by
  obtain ⟨c, w, e, hw, rfl, rfl⟩ := h
  exact .inr ⟨c, w, hw, by rw [ret_ex]; exact endX_app hm rfl⟩
theorem gOk_nil {m : Hm} : gOk m [] = true := rfl
theorem it_list {ds : List PyData} {s : Ev} {m : Hm} {j : Nat} (hs : s[j]? = some (some (.p (.list ds)))) : iSeq (eVar j) s m = .ok ⟨ds.map .p, []⟩ m := by
  simp only [r_iseq, r_var, hs, bind_ok]; rfl
theorem cellAt {m : Hm} {c : Cell} : (m ++ [c])[m.length]? = some c := by simp
theorem setAt {m : Hm} {c d : Cell} : (m ++ [c]).set m.length d = m ++ [d] := by
  rw [List.set_append_right _ _ (by simp)]; simp
/-- raise TextError(token[2], words) -/
theorem raise_is {j : Nat} {t : Tk} {w : Str} {s : Ev} {m : Hm} (hs : s[j]? = some (some (.p (tokD t)))) : sRaise "TextError" ["column", "words"] (aCons (eOp2 idxM (eVar j) (eC (.int 2))) (aCons (eC (.str w)) aNil)) s m = some (.ex (tx t.c w) s, m) := by
  simp only [sRaise, r_acons, r_anil, r_op2, r_c, r_var, hs, bind_ok, o_tk2, st_ok]
  rfl
/-! ### scope_from -/
def isTI (d : PyData) : Prop := ∃ ns : List Int, d = .tuple (ns.map .int)
def intW (ns : List Int) : List W := (ns.map PyData.int).map .p
theorem lt_sz {n : Nat} (h : n ≤ 200) : n < 16777216 := by omega
theorem q_scope_from {ts : List Tk} {m : Hm} (hn : ∀ t ∈ ts, t.w ∈ numW) (hl : ts.length ≤ 100) (hm : okM m.length m = true) : Rd isTI (F_scope_from [.p (.list (ts.map tokD))] m) m := by
  unfold F_scope_from mkFn m_scope_from
  change Rd isTI (retE true m.length (sSeq (sSet 1 (eLstL aNil)) _ [some (.p (.list (ts.map tokD))), none, none, none] m)) m
  rw [q_seq, q_set, r_lstL, r_anil]
  simp only [bind_ok, List.length_nil, Nat.zero_le, if_true, st_ok, List.set]
  rw [q_seq, q_for, it_list rfl]
  simp only [st_ok]
  have key := for_any (gs := []) (t := .n 2) (body := L1_scope_from) (e := fun t => W.p (tokD t)) (xs := ts) (s := [some (.p (.list (ts.map tokD))), some (.loc m.length), none, none]) (m := m ++ [.lst []])
    (fun pre s m' => ∃ ns : List Int, s = [some (.p (.list (ts.map tokD))), some (.loc m.length), none, none] ∧ m' = m ++ [.lst (intW ns)] ∧ ns.length = pre.length) (ExR m) (fun _ _ _ _ => rfl)
    (by
      rintro pre t post s m' hx ⟨ns, rfl, rfl, hlen⟩
      have hlen2 : ns.length ≤ 100 := by rw [hlen]; rw [hx] at hl; simp at hl; omega
      refine ⟨_, rfl, ?_⟩
      have ht : t.w ∈ numW := hn t (by rw [hx]; simp)
      let s1 : Ev := [some (.p (.list (ts.map tokD))), some (.loc m.length), some (.p (tokD t)), none]
      have s1e : ([some (.p (.list (ts.map tokD))), some (.loc m.length), none, none] : Ev).set 2 (some (W.p (tokD t))) = s1 := rfl
      show (∃ s' m', L1_scope_from (([some (.p (.list (ts.map tokD))), some (.loc m.length), none, none] : Ev).set 2 (some (W.p (tokD t)))) _ = _ ∧ _) ∨ ∃ x' s' m', L1_scope_from (([some (.p (.list (ts.map tokD))), some (.loc m.length), none, none] : Ev).set 2 (some (W.p (tokD t)))) _ = _ ∧ _
      rw [s1e]
      have c1 : (bVal (eOp2 (eqM false) (eCB lenM (aCons (eVar 1) aNil)) (eC (.int 3)))) s1 (m ++ [.lst (intW ns)]) = .ok (((intW ns).length : Int) == 3) (m ++ [.lst (intW ns)]) := by
        simp only [s1, r_bval, r_op2, r_cb, r_acons, r_anil, r_c, r_var, List.getElem?_cons_succ, List.getElem?_cons_zero, bind_ok, o_lenC cellAt, o_eqI, r_boolOf]
      unfold L1_scope_from
      rw [q_tidy, q_seq, q_if, c1]
      cases h3 : (((intW ns).length : Int) == 3) with
      | true =>
        right
        simp only [st_ok, if_true]
        rw [raise_is (t := t) rfl]
        exact ⟨_, _, _, rfl, _, _, _, by decide +kernel, rfl, rfl⟩
      | false =>
        simp only [st_ok, Bool.false_eq_true, if_false, q_skip]
        have hnum := q_number (t := t) (lo := 0) (hi := 5) (w := "a variable is from 0 to 5") (m := m ++ [.lst (intW ns)]) ht
        have call : (eCall 4 F_number_of (aCons (eVar 2) (aCons (eC (.int 0)) (aCons (eC (.int 5)) (aCons (eC (.str "a variable is from 0 to 5")) aNil))))) s1 (m ++ [.lst (intW ns)]) = F_number_of [.p (tokD t), .p (.int 0), .p (.int 5), .p (.str "a variable is from 0 to 5")] (m ++ [.lst (intW ns)]) := by
          simp only [s1, r_call, r_acons, r_anil, r_c, r_var, List.getElem?_cons_succ, List.getElem?_cons_zero, bind_ok]
          rfl
        rw [q_seq, q_set, call]
        rcases hnum with ⟨v, hv⟩ | hv
        · rw [hv]
          simp only [st_ok]
          let s2 : Ev := [some (.p (.list (ts.map tokD))), some (.loc m.length), some (.p (tokD t)), some (.p (.int v))]
          have s2e : s1.set 3 (some (W.p (.int v))) = s2 := rfl
          rw [s2e, q_seq, q_if]
          have c2 : ∃ b, (bAnd (bVal (eOp2 gtM (eCB lenM (aCons (eVar 1) aNil)) (eC (.int 0)))) (bVal (eOp2 leX (eVar 3) (eOp2 idxM (eVar 1) (eOp1 negM (eC (.int 1))))))) s2 (m ++ [.lst (intW ns)]) = .ok b (m ++ [.lst (intW ns)]) := by
            simp only [s2, r_band, r_bval, r_op2, r_op1, r_cb, r_acons, r_anil, r_c, r_var, List.getElem?_cons_succ, List.getElem?_cons_zero, bind_ok, o_lenC cellAt, o_gt, r_boolOf, o_neg1]
            rcases List.eq_nil_or_concat ns with rfl | ⟨ns, n, rfl⟩
            · exact ⟨false, by simp [intW]⟩
            · rw [List.concat_eq_append]
              have i1 : idxM (.loc m.length) (.p (.int (-1))) (m ++ [.lst (intW (ns ++ [n]))]) = .ok (.p (.int n)) (m ++ [.lst (intW (ns ++ [n]))]) := by
                have : intW (ns ++ [n]) = intW ns ++ [.p (.int n)] := by simp [intW]
                simp only [idxM, cellAt, this, atI_last]
              rw [i1]
              simp only [bind_ok, o_leX, r_boolOf]
              split
              · exact ⟨_, rfl⟩
              · exact ⟨_, rfl⟩
          obtain ⟨b, hb⟩ := c2
          rw [hb]
          cases b with
          | true =>
            right
            simp only [st_ok, if_true]
            rw [raise_is (t := t) rfl]
            exact ⟨_, _, _, rfl, _, _, _, by decide +kernel, rfl, rfl⟩
          | false =>
            left
            simp only [st_ok, Bool.false_eq_true, if_false, q_skip, q_expr, r_lm, r_acons, r_anil, r_var, s2, List.getElem?_cons_succ, List.getElem?_cons_zero, bind_ok, lstAt_loc cellAt, if_true]
            rw [o_append cellAt (by simp [intW]; omega), setAt]
            simp only [st_ok]
            refine ⟨_, _, rfl, ns ++ [v], ?_, ?_, by simp [hlen]⟩
            · rw [tidy_len (by simp)]; rfl
            · rw [tidy_len (by simp)]; simp [intW]
        · rw [hv]
          right
          exact ⟨_, _, _, rfl, _, _, _, by decide +kernel, rfl, rfl⟩)
    ⟨[], rfl, rfl, rfl⟩
  have e0 : (ts.map tokD).map W.p = ts.map fun t => W.p (tokD t) := by simp
  rw [e0]
  rcases key with ⟨s', m', q, ns, rfl, rfl, _⟩ | ⟨x, s', m', q, hx⟩
  · rw [q]
    simp only [q_ret, r_cb, r_acons, r_anil, r_var, List.getElem?_cons_succ, List.getElem?_cons_zero, bind_ok, o_tupC (ds := ns.map PyData.int) cellAt, st_ok, ret_rt, intW]
    exact .inl ⟨_, end_p rfl hm, ns, rfl⟩
  · rw [q]
    exact end_ExR hm hx
end Mir.K68

namespace Mir.K68
open PySem PySem.Spec PyProof.Rows L2
theorem last_or {α : Type} (xs : List α) : xs = [] ∨ ∃ ys y, xs = ys ++ [y] := by
  rcases List.eq_nil_or_concat xs with h | ⟨ys, y, h⟩
  · exact .inl h
  · exact .inr ⟨ys, y, by rw [h, List.concat_eq_append]⟩
/-! ### edges_from -/
def prD (p : Int × Int) : PyData := .tuple [.int p.1, .int p.2]
def prW (ps : List (Int × Int)) : List W := (ps.map prD).map .p
theorem q_edges_from {es : List (Tk × Tk)} {many : Int} {m : Hm} (hn : ∀ p ∈ es, p.1.w ∈ numW ∧ p.2.w ∈ numW) (hl : es.length ≤ 100) (hm : okM m.length m = true) : Rd (fun _ => True) (F_edges_from [.p (edgesD es), .p (.int many)] m) m := by
  unfold F_edges_from mkFn m_edges_from
  let b0 : W := .p (edgesD es)
  change Rd _ (retE true m.length (sSeq (sSet 2 (eLstL aNil)) _ [some b0, some (.p (.int many)), none, none, none, none, none] m)) m
  rw [q_seq, q_set, r_lstL, r_anil]
  simp only [bind_ok, List.length_nil, Nat.zero_le, if_true, st_ok, List.set]
  rw [q_seq, q_for, it_list (ds := es.map edgeD) rfl]
  simp only [st_ok]
  have key := for_any (gs := []) (t := .t [.n 3, .n 4]) (body := L1_edges_from) (e := fun p => W.p (edgeD p)) (xs := es) (s := [some b0, some (.p (.int many)), some (.loc m.length), none, none, none, none]) (m := m ++ [.lst []])
    (fun pre s m' => ∃ ps : List (Int × Int), s = [some b0, some (.p (.int many)), some (.loc m.length), none, none, none, none] ∧ m' = m ++ [.lst (prW ps)] ∧ ps.length = pre.length) (ExR m) (fun _ _ _ _ => rfl)
    (by
      rintro pre ⟨t, u⟩ post s m' hx ⟨ns, rfl, rfl, hlen⟩
      have hlen2 : ns.length ≤ 100 := by rw [hlen]; rw [hx] at hl; simp at hl; omega
      have ht := hn (t, u) (by rw [hx]; simp)
      let s1 : Ev := [some b0, some (.p (.int many)), some (.loc m.length), some (.p (tokD t)), some (.p (tokD u)), none, none]
      refine ⟨s1, rfl, ?_⟩
      have call1 : (eCall 4 F_number_of (aCons (eVar 3) (aCons (eC (.int 0)) (aCons (eOp2 subM (eVar 1) (eC (.int 1))) (aCons (eC (.str "there is no such node")) aNil))))) s1 (m ++ [.lst (prW ns)]) = F_number_of [.p (tokD t), .p (.int 0), .p (.int (many - 1)), .p (.str "there is no such node")] (m ++ [.lst (prW ns)]) := by
        simp only [s1, r_call, r_acons, r_anil, r_op2, r_c, r_var, List.getElem?_cons_succ, List.getElem?_cons_zero, bind_ok, o_sub]
        rfl
      unfold L1_edges_from
      rw [q_tidy, q_seq, q_set, call1]
      rcases q_number (t := t) (lo := 0) (hi := many - 1) (w := "there is no such node") (m := m ++ [.lst (prW ns)]) ht.1 with ⟨v, hv⟩ | hv
      case inr => rw [hv]; right; exact ⟨_, _, _, rfl, _, _, _, by decide +kernel, rfl, rfl⟩
      rw [hv]
      simp only [st_ok]
      let s2 : Ev := [some b0, some (.p (.int many)), some (.loc m.length), some (.p (tokD t)), some (.p (tokD u)), some (.p (.int v)), none]
      have s2e : s1.set 5 (some (W.p (.int v))) = s2 := rfl
      rw [s2e]
      have call2 : (eCall 4 F_number_of (aCons (eVar 4) (aCons (eC (.int 0)) (aCons (eOp2 subM (eVar 1) (eC (.int 1))) (aCons (eC (.str "there is no such node")) aNil))))) s2 (m ++ [.lst (prW ns)]) = F_number_of [.p (tokD u), .p (.int 0), .p (.int (many - 1)), .p (.str "there is no such node")] (m ++ [.lst (prW ns)]) := by
        simp only [s2, r_call, r_acons, r_anil, r_op2, r_c, r_var, List.getElem?_cons_succ, List.getElem?_cons_zero, bind_ok, o_sub]
        rfl
      rw [q_seq, q_set, call2]
      rcases q_number (t := u) (lo := 0) (hi := many - 1) (w := "there is no such node") (m := m ++ [.lst (prW ns)]) ht.2 with ⟨v2, hv2⟩ | hv2
      case inr => rw [hv2]; right; exact ⟨_, _, _, rfl, _, _, _, by decide +kernel, rfl, rfl⟩
      rw [hv2]
      simp only [st_ok]
      let s3 : Ev := [some b0, some (.p (.int many)), some (.loc m.length), some (.p (tokD t)), some (.p (tokD u)), some (.p (.int v)), some (.p (.int v2))]
      have s3e : s2.set 6 (some (W.p (.int v2))) = s3 := rfl
      rw [s3e, q_seq, q_if]
      have c1 : (bVal (eOp2 geM (eVar 5) (eVar 6))) s3 (m ++ [.lst (prW ns)]) = .ok (decide (v2 ≤ v)) (m ++ [.lst (prW ns)]) := by
        simp only [s3, r_bval, r_op2, r_var, List.getElem?_cons_succ, List.getElem?_cons_zero, bind_ok, o_ge, r_boolOf]
      rw [c1]
      cases decide (v2 ≤ v) with
      | true =>
        right
        simp only [st_ok, if_true]
        rw [raise_is (t := u) rfl]
        exact ⟨_, _, _, rfl, _, _, _, by decide +kernel, rfl, rfl⟩
      | false =>
        simp only [st_ok, Bool.false_eq_true, if_false, q_skip]
        rw [q_seq, q_if]
        have tp : mkTup [.p (.int v), .p (.int v2)] = .p (prD (v, v2)) := by simp [mkTup, prD]
        have ez : (0 + 1 + 1 ≤ sizeLine) = True := by simp [sizeLine_eq]
        have c2 : ∃ b, (bAnd (bVal (eOp2 gtM (eCB lenM (aCons (eVar 2) aNil)) (eC (.int 0)))) (bVal (eOp2 leX (eTup (aCons (eVar 5) (aCons (eVar 6) aNil))) (eOp2 idxM (eVar 2) (eOp1 negM (eC (.int 1))))))) s3 (m ++ [.lst (prW ns)]) = .ok b (m ++ [.lst (prW ns)]) := by
          simp only [s3, r_band, r_bval, r_op2, r_op1, r_cb, r_acons, r_anil, r_c, r_var, r_tup, List.getElem?_cons_succ, List.getElem?_cons_zero, bind_ok, o_lenC cellAt, o_gt, r_boolOf, o_neg1, List.length_cons, List.length_nil, ez, if_true, tp]
          rcases last_or ns with rfl | ⟨ns, n, rfl⟩
          · exact ⟨false, by simp [prW]⟩
          · have i1 : idxM (.loc m.length) (.p (.int (-1))) (m ++ [.lst (prW (ns ++ [n]))]) = .ok (.p (prD n)) (m ++ [.lst (prW (ns ++ [n]))]) := by
              have : prW (ns ++ [n]) = prW ns ++ [.p (prD n)] := by simp [prW]
              simp only [idxM, cellAt, this, atI_last]
            rw [i1]
            simp only [bind_ok]
            have l1 : leX (.p (prD (v, v2))) (.p (prD n)) (m ++ [.lst (prW (ns ++ [n]))]) = .ok (.p (.bool (lexLe [v, v2] [n.1, n.2]))) (m ++ [.lst (prW (ns ++ [n]))]) := rfl
            rw [l1]
            simp only [bind_ok, r_boolOf]
            split
            · exact ⟨_, rfl⟩
            · exact ⟨_, rfl⟩
        obtain ⟨b, hb⟩ := c2
        rw [hb]
        cases b with
        | true =>
          right
          simp only [st_ok, if_true]
          rw [raise_is (t := u) rfl]
          exact ⟨_, _, _, rfl, _, _, _, by decide +kernel, rfl, rfl⟩
        | false =>
          left
          simp only [st_ok, Bool.false_eq_true, if_false, q_skip, q_expr, r_lm, r_acons, r_anil, r_var, r_tup, s3, List.getElem?_cons_succ, List.getElem?_cons_zero, bind_ok, lstAt_loc cellAt, if_true, List.length_cons, List.length_nil, ez, tp]
          rw [o_append cellAt (by simp [prW]; omega), setAt]
          simp only [st_ok]
          refine ⟨_, _, rfl, ns ++ [(v, v2)], ?_, ?_, by simp [hlen]⟩
          · rw [tidy_len (by simp)]; rfl
          · rw [tidy_len (by simp)]; simp [prW])
    ⟨[], rfl, rfl, rfl⟩
  have e0 : (es.map edgeD).map W.p = es.map fun t => W.p (edgeD t) := by simp
  rw [e0]
  rcases key with ⟨s', m', q, ns, rfl, rfl, _⟩ | ⟨x, s', m', q, hx⟩
  · rw [q]
    simp only [q_ret, r_cb, r_acons, r_anil, r_var, List.getElem?_cons_succ, List.getElem?_cons_zero, bind_ok, o_tupC (ds := ns.map prD) cellAt, st_ok, ret_rt, prW]
    exact .inl ⟨_, end_p rfl hm, trivial⟩
  · rw [q]
    exact end_ExR hm hx
/-! ### row_from, table_from -/
theorem q_row_from {ts : List Tk} {sign : Tk} {vals : Int} {sc : List PyData} {m : Hm} (hn : ∀ t ∈ ts, t.w ∈ numW) (hl : ts.length ≤ 100) (hm : okM m.length m = true) : Rd isTI (F_row_from [.p (.int vals), .p (.tuple sc), .p (.list (ts.map tokD)), .p (tokD sign)] m) m := by
  unfold F_row_from mkFn m_row_from
  let s0 : Ev := [some (.p (.int vals)), some (.p (.tuple sc)), some (.p (.list (ts.map tokD))), some (.p (tokD sign)), some (.loc m.length), none]
  change Rd _ (retE true m.length (sSeq (sSet 4 (eLstL aNil)) _ [some (.p (.int vals)), some (.p (.tuple sc)), some (.p (.list (ts.map tokD))), some (.p (tokD sign)), none, none] m)) m
  rw [q_seq, q_set, r_lstL, r_anil]
  simp only [bind_ok, List.length_nil, Nat.zero_le, if_true, st_ok, List.set]
  rw [q_seq, q_for, it_list rfl]
  simp only [st_ok]
  have key := for_any (gs := []) (t := .n 5) (body := L1_row_from) (e := fun t => W.p (tokD t)) (xs := ts) (s := s0) (m := m ++ [.lst []])
    (fun pre s m' => ∃ ns : List Int, s = s0 ∧ m' = m ++ [.lst (intW ns)] ∧ ns.length = pre.length) (ExR m) (fun _ _ _ _ => rfl)
    (by
      rintro pre t post s m' hx ⟨ns, rfl, rfl, hlen⟩
      have hlen2 : ns.length ≤ 100 := by rw [hlen]; rw [hx] at hl; simp at hl; omega
      have ht := hn t (by rw [hx]; simp)
      let s1 : Ev := [some (.p (.int vals)), some (.p (.tuple sc)), some (.p (.list (ts.map tokD))), some (.p (tokD sign)), some (.loc m.length), some (.p (tokD t))]
      refine ⟨s1, rfl, ?_⟩
      have c1 : ∃ b, (bVal (eOp2 (eqM false) (eCB lenM (aCons (eVar 4) aNil)) (eCB lenM (aCons (eVar 1) aNil)))) s1 (m ++ [.lst (intW ns)]) = .ok b (m ++ [.lst (intW ns)]) := by
        simp only [s1, r_bval, r_op2, r_cb, r_acons, r_anil, r_c, r_var, List.getElem?_cons_succ, List.getElem?_cons_zero, bind_ok, o_lenC cellAt, o_lenT, o_eqI, r_boolOf]
        exact ⟨_, rfl⟩
      obtain ⟨b, hb⟩ := c1
      unfold L1_row_from
      rw [q_tidy, q_seq, q_if, hb]
      cases b with
      | true =>
        right
        simp only [st_ok, if_true]
        rw [raise_is (t := t) rfl]
        exact ⟨_, _, _, rfl, _, _, _, by decide +kernel, rfl, rfl⟩
      | false =>
        simp only [st_ok, Bool.false_eq_true, if_false, q_skip]
        have call1 : (eCall 4 F_number_of (aCons (eVar 5) (aCons (eC (.int 0)) (aCons (eOp2 subM (eVar 0) (eC (.int 1))) (aCons (eC (.str "there is no such value")) aNil))))) s1 (m ++ [.lst (intW ns)]) = F_number_of [.p (tokD t), .p (.int 0), .p (.int (vals - 1)), .p (.str "there is no such value")] (m ++ [.lst (intW ns)]) := by
          simp only [s1, r_call, r_acons, r_anil, r_op2, r_c, r_var, List.getElem?_cons_succ, List.getElem?_cons_zero, bind_ok, o_sub]
          rfl
        have sv : s1[4]? = some (some (.loc m.length)) := rfl
        rw [q_expr, r_lm, r_var, sv]
        simp only [bind_ok, lstAt_loc cellAt, if_true, r_acons, r_anil, call1]
        rcases q_number (t := t) (lo := 0) (hi := vals - 1) (w := "there is no such value") (m := m ++ [.lst (intW ns)]) ht with ⟨v, hv⟩ | hv
        · rw [hv]
          left
          simp only [bind_ok]
          rw [o_append cellAt (by simp [intW]; omega), setAt]
          simp only [st_ok]
          refine ⟨_, _, rfl, ns ++ [v], ?_, ?_, by simp [hlen]⟩
          · rw [tidy_len (by simp)]; rfl
          · rw [tidy_len (by simp)]; simp [intW]
        · rw [hv]; right; exact ⟨_, _, _, rfl, _, _, _, by decide +kernel, rfl, rfl⟩)
    ⟨[], rfl, rfl, rfl⟩
  have e0 : (ts.map tokD).map W.p = ts.map fun t => W.p (tokD t) := by simp
  rw [e0]
  rcases key with ⟨s', m', q, ns, rfl, rfl, _⟩ | ⟨x, s', m', q, hx⟩
  · rw [q]
    dsimp only
    rw [q_seq, q_if]
    have c1 : ∃ b, (bVal (eOp2 ltM (eCB lenM (aCons (eVar 4) aNil)) (eCB lenM (aCons (eVar 1) aNil)))) s0 (m ++ [.lst (intW ns)]) = .ok b (m ++ [.lst (intW ns)]) := by
      simp only [s0, r_bval, r_op2, r_cb, r_acons, r_anil, r_c, r_var, List.getElem?_cons_succ, List.getElem?_cons_zero, bind_ok, o_lenC cellAt, o_lenT, o_lt, r_boolOf]
      exact ⟨_, rfl⟩
    obtain ⟨b, hb⟩ := c1
    rw [hb]
    cases b with
    | true =>
      simp only [st_ok, if_true]
      rw [raise_is (t := sign) rfl]
      exact end_ExR hm ⟨_, _, _, by decide +kernel, rfl, rfl⟩
    | false =>
      simp only [st_ok, Bool.false_eq_true, if_false, q_skip, q_ret, r_cb, r_acons, r_anil, r_var, s0, List.getElem?_cons_succ, List.getElem?_cons_zero, bind_ok, o_tupC (ds := ns.map PyData.int) cellAt, ret_rt, intW]
      exact .inl ⟨_, end_p rfl hm, ns, rfl⟩
  · rw [q]
    exact end_ExR hm hx
theorem okM_lst {m : Hm} {ds : List PyData} (hm : okM m.length m = true) : okM (m ++ [Cell.lst (ds.map .p)]).length (m ++ [Cell.lst (ds.map .p)]) = true := okM_snoc hm (okWs_p _ ds)
def rcD (p : List Int × Int) : PyData := .tuple [.tuple (p.1.map .int), .int p.2]
def rcW (ps : List (List Int × Int)) : List W := (ps.map rcD).map .p
theorem ExR.up {m e : Hm} {x : Exn} {m' : Hm} (h : ExR (m ++ e) x m') : ExR m x m' := by
  obtain ⟨c, w, e', hw, rfl, rfl⟩ := h
  exact ⟨c, w, e ++ e', hw, rfl, by simp⟩
theorem q_table_from {rs : List Rw} {vals : Int} {sc : List PyData} {m : Hm} (hn : ∀ r ∈ rs, (∀ t ∈ r.1, t.w ∈ numW) ∧ r.1.length ≤ 100 ∧ r.2.2.w ∈ numW) (hl : rs.length ≤ 200) (hm : okM m.length m = true) : Rd (fun _ => True) (F_table_from [.p (.int vals), .p (.tuple sc), .p (.list (rs.map rowD))] m) m := by
  unfold F_table_from mkFn m_table_from
  let s0 : Ev := [some (.p (.int vals)), some (.p (.tuple sc)), some (.p (.list (rs.map rowD))), some (.loc m.length), none, none, none, none]
  change Rd _ (retE true m.length (sSeq (sSet 3 (eLstL aNil)) _ [some (.p (.int vals)), some (.p (.tuple sc)), some (.p (.list (rs.map rowD))), none, none, none, none, none] m)) m
  rw [q_seq, q_set, r_lstL, r_anil]
  simp only [bind_ok, List.length_nil, Nat.zero_le, if_true, st_ok, List.set]
  rw [q_seq, q_for, it_list rfl]
  simp only [st_ok]
  have key := for_any (gs := []) (t := .t [.n 4, .n 5, .n 6]) (body := L1_table_from) (e := fun t => W.p (rowD t)) (xs := rs) (s := s0) (m := m ++ [.lst []])
    (fun pre s m' => ∃ ns : List (List Int × Int), s = s0 ∧ m' = m ++ [.lst (rcW ns)] ∧ ns.length = pre.length) (ExR m) (fun _ _ _ _ => rfl)
    (by
      rintro pre ⟨ts, sign, co⟩ post s m' hx ⟨ns, rfl, rfl, hlen⟩
      have hlen2 : ns.length ≤ 200 := by rw [hlen]; rw [hx] at hl; simp at hl; omega
      have ht := hn (ts, sign, co) (by rw [hx]; simp)
      let s1 : Ev := [some (.p (.int vals)), some (.p (.tuple sc)), some (.p (.list (rs.map rowD))), some (.loc m.length), some (.p (.list (ts.map tokD))), some (.p (tokD sign)), some (.p (tokD co)), none]
      refine ⟨s1, rfl, ?_⟩
      have okm : okM (m ++ [Cell.lst (rcW ns)]).length (m ++ [Cell.lst (rcW ns)]) = true := okM_lst hm
      have call1 : (eCall 4 F_row_from (aCons (eVar 0) (aCons (eVar 1) (aCons (eVar 4) (aCons (eVar 5) aNil))))) s1 (m ++ [.lst (rcW ns)]) = F_row_from [.p (.int vals), .p (.tuple sc), .p (.list (ts.map tokD)), .p (tokD sign)] (m ++ [.lst (rcW ns)]) := by
        simp only [s1, r_call, r_acons, r_anil, r_op2, r_c, r_var, List.getElem?_cons_succ, List.getElem?_cons_zero, bind_ok]
        rfl
      unfold L1_table_from
      rw [q_tidy, q_seq, q_set, call1]
      rcases q_row_from (sign := sign) (vals := vals) (sc := sc) ht.1 ht.2.1 okm with ⟨d, hv, row, rfl⟩ | ⟨c, w, hw, hv⟩
      case inr => rw [hv]; right; exact ⟨_, _, _, rfl, c, w, _, hw, rfl, rfl⟩
      rw [hv]
      simp only [st_ok]
      let s2 : Ev := [some (.p (.int vals)), some (.p (.tuple sc)), some (.p (.list (rs.map rowD))), some (.loc m.length), some (.p (.list (ts.map tokD))), some (.p (tokD sign)), some (.p (tokD co)), some (.p (.tuple (row.map .int)))]
      have s2e : s1.set 7 (some (W.p (.tuple (row.map .int)))) = s2 := rfl
      rw [s2e, q_seq, q_if]
      have c2 : ∃ b, (bAnd (bVal (eOp2 gtM (eCB lenM (aCons (eVar 3) aNil)) (eC (.int 0)))) (bVal (eOp2 leX (eVar 7) (eOp2 idxM (eOp2 idxM (eVar 3) (eOp1 negM (eC (.int 1)))) (eC (.int 0)))))) s2 (m ++ [.lst (rcW ns)]) = .ok b (m ++ [.lst (rcW ns)]) := by
        simp only [s2, r_band, r_bval, r_op2, r_op1, r_cb, r_acons, r_anil, r_c, r_var, r_tup, List.getElem?_cons_succ, List.getElem?_cons_zero, bind_ok, o_lenC cellAt, o_gt, r_boolOf, o_neg1]
        rcases last_or ns with rfl | ⟨ns, n, rfl⟩
        · exact ⟨false, by simp [rcW]⟩
        · have i1 : idxM (.loc m.length) (.p (.int (-1))) (m ++ [.lst (rcW (ns ++ [n]))]) = .ok (.p (rcD n)) (m ++ [.lst (rcW (ns ++ [n]))]) := by
            have : rcW (ns ++ [n]) = rcW ns ++ [.p (rcD n)] := by simp [rcW]
            simp only [idxM, cellAt, this, atI_last]
          rw [i1]
          simp only [bind_ok]
          have i2 : idxM (.p (rcD n)) (.p (.int 0)) (m ++ [.lst (rcW (ns ++ [n]))]) = .ok (.p (.tuple (n.1.map .int))) (m ++ [.lst (rcW (ns ++ [n]))]) := rfl
          rw [i2]
          simp only [bind_ok]
          have l1 : leX (.p (.tuple (row.map .int))) (.p (.tuple (n.1.map .int))) (m ++ [.lst (rcW (ns ++ [n]))]) = .ok (.p (.bool (lexLe row n.1))) (m ++ [.lst (rcW (ns ++ [n]))]) := by
            simp [leX]
          rw [l1]
          simp only [bind_ok, r_boolOf]
          split
          · exact ⟨_, rfl⟩
          · exact ⟨_, rfl⟩
      obtain ⟨b, hb⟩ := c2
      rw [hb]
      cases b with
      | true =>
        right
        simp only [st_ok, if_true]
        rw [raise_is (t := sign) rfl]
        exact ⟨_, _, _, rfl, _, _, _, by decide +kernel, rfl, rfl⟩
      | false =>
        simp only [st_ok, Bool.false_eq_true, if_false, q_skip]
        have call2 : (eCall 4 F_number_of (aCons (eVar 6) (aCons (eC (.int 0)) (aCons (eC (.int 100)) (aCons (eC (.str "a cost is from 0 to 100")) aNil))))) s2 (m ++ [.lst (rcW ns)]) = F_number_of [.p (tokD co), .p (.int 0), .p (.int 100), .p (.str "a cost is from 0 to 100")] (m ++ [.lst (rcW ns)]) := by
          simp only [s2, r_call, r_acons, r_anil, r_op2, r_c, r_var, List.getElem?_cons_succ, List.getElem?_cons_zero, bind_ok]
          rfl
        have sv : s2[3]? = some (some (.loc m.length)) := rfl
        have sv7 : s2[7]? = some (some (.p (.tuple (row.map .int)))) := rfl
        have ez : (0 + 1 + 1 ≤ sizeLine) = True := by simp [sizeLine_eq]
        rw [q_expr, r_lm, r_var, sv]
        simp only [bind_ok, lstAt_loc cellAt, if_true, r_acons, r_anil, r_tup, r_var, sv7, call2]
        rcases q_number (t := co) (lo := 0) (hi := 100) (w := "a cost is from 0 to 100") (m := m ++ [.lst (rcW ns)]) ht.2.2 with ⟨v, hv⟩ | hv
        · rw [hv]
          left
          have tp : mkTup [.p (.tuple (row.map .int)), .p (.int v)] = .p (rcD (row, v)) := by simp [mkTup, rcD]
          simp only [bind_ok, List.length_cons, List.length_nil, ez, if_true, tp]
          rw [o_append cellAt (by simp [rcW]; omega), setAt]
          simp only [st_ok]
          refine ⟨_, _, rfl, ns ++ [(row, v)], ?_, ?_, by simp [hlen]⟩
          · rw [tidy_len (by simp)]; rfl
          · rw [tidy_len (by simp)]; simp [rcW]
        · rw [hv]; right; exact ⟨_, _, _, rfl, _, _, _, by decide +kernel, rfl, rfl⟩)
    ⟨[], rfl, rfl, rfl⟩
  have e0 : (rs.map rowD).map W.p = rs.map fun t => W.p (rowD t) := by simp
  rw [e0]
  rcases key with ⟨s', m', q, ns, rfl, rfl, _⟩ | ⟨x, s', m', q, hx⟩
  · rw [q]
    simp only [q_ret, r_cb, r_acons, r_anil, r_var, s0, List.getElem?_cons_succ, List.getElem?_cons_zero, bind_ok, o_tupC (ds := ns.map rcD) cellAt, st_ok, ret_rt, rcW]
    exact .inl ⟨_, end_p rfl hm, trivial⟩
  · rw [q]
    exact end_ExR hm hx
end Mir.K68

namespace Mir.K68
open PySem PySem.Spec PyProof.Rows L2
/-! ### a text, its tokens -/
/-- the tokens of a laid text -/
def tkL (its : List It) (t : Nat) : List Tk := toks 0 its ++ [Tk.mk .fin [] (((chs its).length + t + 1 : Nat) : Int)]
def numOk (its : List It) : Prop := ∀ i ∈ its, i.2.1 = .num → i.2.2 ∈ numW
theorem toks_kOk : ∀ (its : List It) (p : Nat), (∀ i ∈ its, itOk i) → ∀ t ∈ toks p its, kOk t.k t.w
  | [], p, _, t, h => by cases h
  | (b, k, w) :: r, p, hi, t, h => by
    rcases List.mem_cons.mp h with rfl | h
    · have i0 := hi _ List.mem_cons_self
      cases k with
      | num => exact ⟨i0.1, i0.2.1⟩
      | sg c => exact i0
      | fin => exact i0.elim
    · exact toks_kOk r _ (fun i hi2 => hi i (List.mem_cons_of_mem _ hi2)) t h
theorem tkL_kOk {its : List It} {t : Nat} (hi : ∀ i ∈ its, itOk i) : ∀ x ∈ tkL its t, kOk x.k x.w := fun x hx => by
  rcases List.mem_append.mp hx with hx | hx
  · exact toks_kOk its 0 hi x hx
  · simp at hx; subst hx; exact rfl
theorem toks_num : ∀ (its : List It) (p : Nat), numOk its → ∀ t ∈ toks p its, t.k = .num → t.w ∈ numW
  | [], p, _, t, h, _ => by cases h
  | (b, k, w) :: r, p, hi, t, h, hk => by
    rcases List.mem_cons.mp h with rfl | h
    · exact hi _ List.mem_cons_self hk
    · exact toks_num r _ (fun i hi2 => hi i (List.mem_cons_of_mem _ hi2)) t h hk
theorem tkL_num {its : List It} {t : Nat} (hi : numOk its) : NumT (tkL its t) := fun x hx hk => by
  rcases List.mem_append.mp hx with hx | hx
  · exact toks_num its 0 hi x hx hk
  · simp at hx; subst hx; cases hk
theorem tkL_len {its : List It} {t : Nat} : (tkL its t).length = its.length + 1 := by simp [tkL, toks_len]
/-- a parser over tokens -/
theorem q_make {T : List Tk} {st : Bool} {m : Hm} {fa : EX (List W)} {s : Ev} (hf : fa s m = .ok [.p (.list (T.map tokD)), .p (.bool st)] m) : eMake "Parser" 3 F_Parser___init__ fa s m = .ok (.loc m.length) (m ++ [pc T st 0]) := by
  unfold eMake
  rw [hf, bind_ok, if_pos (by rfl), q_init (fs := [])]
  rw [endFn_len (by simp)]
  rfl
theorem pc_at {T : List Tk} {st : Bool} {m : Hm} : (m ++ [pc T st 0])[m.length]? = some (pc T st (T.length - T.length)) := by simp
theorem okM_pc {T : List Tk} {st : Bool} {i : Nat} {m : Hm} (hm : okM m.length m = true) : okM (m ++ [pc T st i]).length (m ++ [pc T st i]) = true := okM_snoc hm ok_pc
theorem Mm_pc {T : List Tk} {st : Bool} {L : List Tk} {m : Hm} : Mm (m ++ [pc T st 0]) m.length T st L [] = m ++ [pc T st (T.length - L.length)] := by
  unfold Mm
  rw [setAt]; simp
/-- the place where a text of that kind begins -/
def q0 (g : Bool) : Q := if g = true then .g0 else .t0
def kW (g : Bool) : Str := if g = true then "graph" else "tables"
theorem run_bad {st : Bool} : ∀ {q : Q} {L : List Tk} {t : Tk}, t.k = .fin → t ∈ L → run st q L ≠ .bad
  | q, [], t, hk, h => by cases h
  | q, x :: L, t, hk, h => by
    unfold run
    split
    · split
      · intro e; cases e
      · split
        · intro e; cases e
        · intro e; cases e
    · rename_i hx
      split
      · rcases List.mem_cons.mp h with rfl | h
        · exact absurd hk hx
        · exact run_bad hk h
      · intro e; cases e
theorem run_true : ∀ {q : Q} {L : List Tk}, run true q L ≠ .fin
  | q, [] => by intro e; cases e
  | q, x :: L => by
    unfold run
    split
    · rw [if_pos rfl]; intro e; cases e
    · split
      · exact run_true
      · intro e; cases e
theorem run_false : ∀ {q : Q} {L : List Tk} {os : List Kd}, run false q L ≠ .ahead os
  | q, [], os => by intro e; cases e
  | q, x :: L, os => by
    unfold run
    split
    · rw [if_neg (by decide)]
      split
      · intro e; cases e
      · intro e; cases e
    · split
      · exact run_false
      · intro e; cases e
theorem oc_bad {α : Type} {P : PL α} (h : P.oc ≠ .bad) : P ≠ .bad := fun e => by rw [e] at h; exact h rfl
/-! ### next_tokens -/
theorem lk1 : ([(("Ahead" : Str), true), (("TextError" : Str), false)] : List (Str × Bool)).lookup ("Ahead" : Str) = some true := by kernel_rfl
theorem lk2 : ([(("Ahead" : Str), true), (("TextError" : Str), false)] : List (Str × Bool)).lookup ("TextError" : Str) = some false := by kernel_rfl
theorem lk3 : ([(("TextError" : Str), true)] : List (Str × Bool)).lookup ("TextError" : Str) = some true := by kernel_rfl
theorem g_opt {w : W} : getFW "options" [(("options" : Str), w)] = some w := by kernel_rfl
theorem g_col {a b : W} : getFW "column" [(("words" : Str), a), (("column" : Str), b)] = some b := by kernel_rfl
theorem g_words {a b : W} : getFW "words" [(("words" : Str), a), (("column" : Str), b)] = some a := by kernel_rfl
theorem kW_ok (g : Bool) : PySem.PyData.strOk (kW g) = true := by cases g <;> decide +kernel
/-- what next_tokens answers -/
def nxt (m : Hm) : Oc → Res W
  | .ahead ks => .ok (.p (.list (ks.map shD))) m
  | .err c ks => .exc (tx c (ew ks)) m
  | _ => .stuck
def nxtS (m : Hm) (T : List Tk) (st : Bool) (s : Ev) : Oc → Nat → SR
  | .ahead ks, i => some (.ex (ah ks) s, m ++ [pc T st i])
  | .err c ks, i => some (.ex (tx c (ew ks)) s, m ++ [pc T st i])
  | _, _ => none
theorem res_nxt {α : Type} {P : PL α} {f : α → PyData} {m : Hm} {T : List Tk} {st : Bool} {s : Ev} {k : W → Hm → SR} (hb : P.oc ≠ .bad) (hf : P.oc ≠ .fin) : ∃ i, (P.res (m ++ [pc T st 0]) m.length T st f []).st s k = nxtS m T st s P.oc i := by
  cases P with
  | bad => exact absurd rfl hb
  | ok a L => exact absurd rfl hf
  | ahead os L => exact ⟨T.length - L.length, by simp only [PL.res, st_exc, PL.oc, nxtS, Mm_pc]⟩
  | err c os L => exact ⟨T.length - L.length, by simp only [PL.res, st_exc, PL.oc, nxtS, Mm_pc]⟩
theorem m_graph {T : List Tk} {st : Bool} {m : Hm} {s : Ev} {fo : EX W} {m0 : Hm} (ho : fo s m0 = .ok (.loc m.length) (m ++ [pc T st 0])) (hk : ∀ t ∈ T, kOk t.k t.w) (hl : T.length < 90) (hm : okM m.length m = true) (nb : graphP st 100 T ≠ .bad) :
    eMeth "Parser" "graph" 1 F_Parser_graph fo aNil s m0 = (graphP st 100 T).res (m ++ [pc T st 0]) m.length T st graphD [] := by
  unfold eMeth
  rw [ho]
  simp only [bind_ok]
  rw [ins_pc (T := T) (st := st) (i := 0) cellAt]
  dsimp only
  rw [if_pos (nm_graph _ _ _), r_anil, bind_ok, if_pos (by rfl), q_graphM (st := st) pc_at (okM_pc hm) hk List.suffix_rfl hl (Nat.le_refl 100) nb]
theorem m_tables {T : List Tk} {st : Bool} {m : Hm} {s : Ev} {fo : EX W} {m0 : Hm} (ho : fo s m0 = .ok (.loc m.length) (m ++ [pc T st 0])) (hk : ∀ t ∈ T, kOk t.k t.w) (hl : T.length < 90) (hm : okM m.length m = true) (nb : tablesP st 100 T ≠ .bad) :
    eMeth "Parser" "tables" 1 F_Parser_tables fo aNil s m0 = (tablesP st 100 T).res (m ++ [pc T st 0]) m.length T st tablesD [] := by
  unfold eMeth
  rw [ho]
  simp only [bind_ok]
  rw [ins_pc (T := T) (st := st) (i := 0) cellAt]
  dsimp only
  rw [if_pos (nm_tables _ _ _), r_anil, bind_ok, if_pos (by rfl), q_tablesM (st := st) pc_at (okM_pc hm) hk List.suffix_rfl hl (Nat.le_refl 100) nb]
theorem parse_next {g : Bool} {T : List Tk} {m : Hm} {s : Ev} (hk : ∀ t ∈ T, kOk t.k t.w) (hl : T.length < 90) (hf : ∃ t ∈ T, t.k = .fin) (hm : okM m.length m = true) (h1 : s[1]? = some (some (.p (.str (kW g))))) (h2 : s[2]? = some (some (.loc m.length))) :
    ∃ i, L1_next_tokens s (m ++ [pc T true 0]) = nxtS m T true s (run true (q0 g) T) i := by
  obtain ⟨t, ht, htk⟩ := hf
  have ln : T.length < 100 := by omega
  have c1 : (bVal (eOp2 (eqM false) (eVar 1) (eC (.str "graph")))) s (m ++ [pc T true 0]) = .ok g (m ++ [pc T true 0]) := by
    simp only [r_bval, r_op2, r_var, r_c, h1, bind_ok]
    rw [o_eqS (kW_ok g) (by decide +kernel)]
    cases g
    · have : decide (kW false = ("graph" : Str)) = false := by decide +kernel
      rw [this]; rfl
    · have : decide (kW true = ("graph" : Str)) = true := by decide +kernel
      rw [this]; rfl
  unfold L1_next_tokens
  rw [q_if, c1]
  have nb := run_bad (st := true) (q := q0 g) htk ht
  have nf := run_true (q := q0 g) (L := T)
  have ho : eVar 2 s (m ++ [pc T true 0]) = .ok (.loc m.length) (m ++ [pc T true 0]) := by rw [r_var, h2]
  cases g with
  | true =>
    have hr : (graphP true 100 T).oc = run true (q0 true) T := graph_run ln
    rw [← hr] at nb nf ⊢
    simp only [st_ok, if_true]
    rw [q_expr, m_graph ho hk hl hm (oc_bad nb)]
    exact res_nxt nb nf
  | false =>
    have hr : (tablesP true 100 T).oc = run true (q0 false) T := tables_run ln
    rw [← hr] at nb nf ⊢
    simp only [st_ok, Bool.false_eq_true, if_false]
    rw [q_expr, m_tables ho hk hl hm (oc_bad nb)]
    exact res_nxt nb nf
theorem kind_ok (g : Bool) (m : Hm) (text : Str) : (bOr (bNot (bTru (eOp1 (isiM "str") (eVar 1)))) (bVal (eOp2 (inM true) (eVar 1) (eC (.tuple (List.map PyData.str ["graph", "tables"])))))) [some (.p (.str text)), some (.p (.str (kW g))), none, none] m = .ok false m := by
  have i1 : inM true (.p (.str (kW g))) (.p (.tuple (List.map PyData.str ["graph", "tables"]))) m = .ok (.p (.bool false)) m := by
    simp only [inM, rd_p]
    rw [if_pos (by rfl)]
    simp only [if_true, List.map_cons, List.map_nil, List.any_cons, List.any_nil, eqv_str]
    cases g
    · have : decide (("graph" : Str) = kW false) = false := by decide +kernel
      have h2 : decide (("tables" : Str) = kW false) = true := by decide +kernel
      rw [this, h2]; rfl
    · have : decide (("graph" : Str) = kW true) = true := by decide +kernel
      rw [this]; rfl
  have i2 : isiM "str" (.p (.str (kW g))) m = .ok (.p (.bool true)) m := by simp [isiM, tyN, isiA]
  simp only [r_bor, r_bnot, r_btru, r_op1, r_var, List.getElem?_cons_succ, List.getElem?_cons_zero, bind_ok, r_bval, r_op2, r_c, i1, i2, r_boolOf, r_tru, Bool.not_true, Bool.false_eq_true, if_false]
theorem try_ah {i : Nat} {f : SX} {s s1 : Ev} {m m1 : Hm} {ks : List Kd} (h : f s m = some (.ex (ah ks) s1, m1)) (hi : i < s1.length) : sTry i [("Ahead", true), ("TextError", false)] (.one (.f "options")) f s m = some (.rt (.p (.list (ks.map shD))), m1) := by
  unfold sTry
  rw [h]
  simp only [ah, lk1, XRet.val, XPart.val, g_opt, decide_eq_true hi, if_true]
theorem try_tx {i : Nat} {f : SX} {s s1 : Ev} {m m1 : Hm} {c : Int} {w : Str} (h : f s m = some (.ex (tx c w) s1, m1)) : sTry i [("Ahead", true), ("TextError", false)] (.one (.f "options")) f s m = some (.ex (tx c w) s1, m1) := by
  unfold sTry
  rw [h]
  simp only [tx, lk2]
theorem q_next_of {text : Str} {g : Bool} {T : List Tk} {m : Hm} (hc : F_check_text [.p (.str text)] m = .ok (.p .none) m) (hs : F_scan [.p (.str text)] m = .ok (.p (.list (T.map tokD))) m) (hk : ∀ t ∈ T, kOk t.k t.w) (hl : T.length < 90) (hf : ∃ t ∈ T, t.k = .fin) (hm : okM m.length m = true) :
    F_next_tokens [.p (.str text), .p (.str (kW g))] m = nxt m (run true (q0 g) T) := by
  unfold F_next_tokens mkFn m_next_tokens
  change retE true m.length (sSeq _ _ [some (.p (.str text)), some (.p (.str (kW g))), none, none] m) = _
  rw [q_seq, q_expr]
  have e1 : eCall 1 F_check_text (aCons (eVar 0) aNil) [some (.p (.str text)), some (.p (.str (kW g))), none, none] m = .ok (.p .none) m := by
    simp only [r_call, r_acons, r_anil, r_var, List.getElem?_cons_zero, bind_ok, List.length_cons, List.length_nil, decide_true, if_true, hc]
  rw [e1]
  simp only [st_ok]
  rw [q_seq, q_if, kind_ok]
  simp only [st_ok, Bool.false_eq_true, if_false, q_skip]
  rw [q_seq, q_set, q_make (T := T) (st := true) (by simp only [r_acons, r_anil, r_call, r_var, r_c, List.getElem?_cons_zero, bind_ok, List.length_cons, List.length_nil, decide_true, if_true, hs])]
  simp only [st_ok, List.set]
  obtain ⟨i, hp⟩ := parse_next (g := g) (T := T) (m := m) (s := [some (.p (.str text)), some (.p (.str (kW g))), some (.loc m.length), none]) hk hl hf hm rfl rfl
  have nb : run true (q0 g) T ≠ .bad := let ⟨t, ht, htk⟩ := hf; run_bad htk ht
  have nf := run_true (q := q0 g) (L := T)
  rw [q_seq]
  cases q : run true (q0 g) T with
  | bad => exact absurd q nb
  | fin => exact absurd q nf
  | ahead ks =>
    rw [q] at hp
    rw [try_ah hp (by simp)]
    exact end_p rfl hm
  | err c ks =>
    rw [q] at hp
    rw [try_tx hp]
    exact endX_app hm rfl
/-- the scan fails -/
theorem q_next_x {text : Str} {g : Bool} {c : Int} {w : Str} {m : Hm} (hc : F_check_text [.p (.str text)] m = .ok (.p .none) m) (hs : F_scan [.p (.str text)] m = .exc (tx c w) m) : F_next_tokens [.p (.str text), .p (.str (kW g))] m = .exc (tx c w) m := by
  unfold F_next_tokens mkFn m_next_tokens
  change retE true m.length (sSeq _ _ [some (.p (.str text)), some (.p (.str (kW g))), none, none] m) = _
  rw [q_seq, q_expr]
  have e1 : eCall 1 F_check_text (aCons (eVar 0) aNil) [some (.p (.str text)), some (.p (.str (kW g))), none, none] m = .ok (.p .none) m := by
    simp only [r_call, r_acons, r_anil, r_var, List.getElem?_cons_zero, bind_ok, List.length_cons, List.length_nil, decide_true, if_true, hc]
  rw [e1]
  simp only [st_ok]
  rw [q_seq, q_if, kind_ok]
  simp only [st_ok, Bool.false_eq_true, if_false, q_skip]
  have e2 : eMake "Parser" 3 F_Parser___init__ (aCons (eCall 1 F_scan (aCons (eVar 0) aNil)) (aCons (eC (.bool true)) aNil)) [some (.p (.str text)), some (.p (.str (kW g))), none, none] m = .exc (tx c w) m := by
    unfold eMake
    simp only [r_acons, r_anil, r_call, r_var, r_c, List.getElem?_cons_zero, bind_ok, List.length_cons, List.length_nil, decide_true, if_true, hs, bind_exc]
  rw [q_seq, q_set, e2]
  exact endX_same
/-! ### readers of whole texts -/
/-- what a reader answers -/
def RdT (m : Hm) (r : Res W) : Oc → Prop
  | .err c ks => r = .exc (tx c (ew ks)) m
  | .fin => Rd (fun _ => True) r m
  | _ => True
theorem sc_good {f : Nat} {T L L' : List Tk} {st : Bool} {p : List Tk × Tk} {ss : List (List Tk × Tk)} (h : scC st f p L = .ok ss L') (hL : L <:+ T) (hp : (∀ t ∈ p.1, t ∈ T ∧ t.k = .num) ∧ p.2 ∈ T) : L' <:+ T ∧ ∀ q ∈ ss, (∀ t ∈ q.1, t ∈ T ∧ t.k = .num) ∧ q.2 ∈ T := by
  unfold scC at h
  induction f generalizing p L ss with
  | zero => cases h
  | succ f ih =>
    unfold itC at h
    split at h
    · obtain ⟨q, L1, q1, h2⟩ := bind_inv h
      obtain ⟨r, L2, q2, h3⟩ := bind_inv h2
      cases h3
      obtain ⟨hL1, hq, hn, _⟩ := nums_suf q1 hL
      have := ih q2 hL1 ⟨hn, hq⟩
      refine ⟨this.1, fun x hx => ?_⟩
      rcases List.mem_cons.mp hx with rfl | hx
      · exact hp
      · exact this.2 x hx
    · cases h
      exact ⟨hL, fun x hx => by simp at hx; subst hx; exact hp⟩
theorem ed_good {T : List Tk} {st : Bool} : ∀ {f : Nat} {t : Tk} {L L' : List Tk} {es : List (Tk × Tk)}, edgesC st f t L = .ok es L' → L <:+ T → t ∈ T → ∀ p ∈ es, (p.1 ∈ T ∧ p.1.k = .num) ∧ p.2 ∈ T ∧ p.2.k = .num
  | 0, t, L, L', es, h, _, _ => by cases h
  | f + 1, t, L, L', es, h, hL, ht => by
    unfold edgesC at h
    split at h
    · rename_i hk
      obtain ⟨x1, L1, q1, e1⟩ := bind_inv h
      obtain ⟨u, L2, q2, e2⟩ := bind_inv e1
      obtain ⟨v, L3, q3, e3⟩ := bind_inv e2
      obtain ⟨w, L4, q4, e4⟩ := bind_inv e3
      obtain ⟨r, L5, q5, e5⟩ := bind_inv e4
      cases e5
      have h1 := take_suf q1 hL
      have h2 := take_suf q2 h1.1
      have h3 := take_suf q3 h2.1
      have h4 : L4 <:+ T ∧ w ∈ T := by
        split at q4
        · exact take_suf q4 h3.1
        · cases q4; exact h3
      have hu : u.k = .num := by have := (take_ok q2).2.1; simpa using this
      intro p hp
      rcases List.mem_cons.mp hp with rfl | hp
      · exact ⟨⟨ht, hk⟩, h2.2, hu⟩
      · exact ed_good q5 h4.1 h4.2 p hp
    · cases h
      intro p hp; cases hp
end Mir.K68

namespace Mir.K68
open PySem PySem.Spec PyProof.Rows L2
/-! ### lengths of what is parsed -/
theorem nums_len2 {st : Bool} {cl : List Kd} : ∀ {L L' : List Tk} {p : List Tk × Tk}, numsP st cl L = .ok p L' → p.1.length ≤ L.length
  | [], L', p, h => by cases h
  | t :: L, L', p, h => by
    rw [numsP_cons] at h
    obtain ⟨t', L1, q1, h2⟩ := bind_inv h
    unfold numsC at h2
    split at h2
    · obtain ⟨q, L2, q2, h3⟩ := bind_inv h2
      cases h3
      have := nums_len2 q2
      simp; omega
    · cases h2; simp
theorem it_len {α : Type} {P : List Tk → PL α} {c : α → Bool} : ∀ {f : Nat} {p : α} {L L' : List Tk} {ss : List α}, itC P c f p L = .ok ss L' → ss.length ≤ f
  | 0, p, L, L', ss, h => by cases h
  | f + 1, p, L, L', ss, h => by
    unfold itC at h
    split at h
    · obtain ⟨q, L1, q1, h2⟩ := bind_inv h
      obtain ⟨r, L2, q2, h3⟩ := bind_inv h2
      cases h3
      have := it_len q2
      simp; omega
    · cases h; simp
theorem it_last {α : Type} {P : List Tk → PL α} {c : α → Bool} : ∀ {f : Nat} {p : α} {L L' : List Tk} {ss : List α}, itC P c f p L = .ok ss L' → (∀ pre x post, ss = pre ++ x :: post → (c x = true ↔ post ≠ [])) ∧ ss ≠ []
  | 0, p, L, L', ss, h => by cases h
  | f + 1, p, L, L', ss, h => by
    unfold itC at h
    split at h
    · rename_i hc
      obtain ⟨q, L1, q1, h2⟩ := bind_inv h
      obtain ⟨r, L2, q2, h3⟩ := bind_inv h2
      cases h3
      have := it_last q2
      refine ⟨fun pre x post e => ?_, by simp⟩
      cases pre with
      | nil =>
        simp at e
        rw [← e.1, ← e.2]
        simp [hc, this.2]
      | cons y pre =>
        simp at e
        exact this.1 pre x post e.2
    · rename_i hc
      cases h
      refine ⟨fun pre x post e => ?_, by simp⟩
      cases pre with
      | nil => simp at e; rw [← e.1, ← e.2]; simp [hc]
      | cons y pre => simp at e
theorem ed_len {st : Bool} : ∀ {f : Nat} {t : Tk} {L L' : List Tk} {es : List (Tk × Tk)}, edgesC st f t L = .ok es L' → es.length ≤ f
  | 0, t, L, L', es, h => by cases h
  | f + 1, t, L, L', es, h => by
    unfold edgesC at h
    split at h
    · obtain ⟨x1, L1, q1, e1⟩ := bind_inv h
      obtain ⟨u, L2, q2, e2⟩ := bind_inv e1
      obtain ⟨v, L3, q3, e3⟩ := bind_inv e2
      obtain ⟨w, L4, q4, e4⟩ := bind_inv e3
      obtain ⟨r, L5, q5, e5⟩ := bind_inv e4
      cases e5
      have := ed_len q5
      simp; omega
    · cases h; simp
theorem rows_len {st : Bool} : ∀ {f : Nat} {t : Tk} {L L' : List Tk} {q : List Rw × Tk}, rowsC st f t L = .ok q L' → q.1.length ≤ f
  | 0, t, L, L', q, h => by cases h
  | f + 1, t, L, L', q, h => by
    unfold rowsC at h
    split at h
    · obtain ⟨r, L1, q1, h2⟩ := bind_inv h
      obtain ⟨u, L2, q2, h3⟩ := bind_inv h2
      obtain ⟨q', L3, q3, h4⟩ := bind_inv h3
      cases h4
      have := rows_len q3
      simp; omega
    · cases h; simp
theorem row_len {st : Bool} {L L' : List Tk} {r : Rw} (h : rowP st L = .ok r L') : r.1.length ≤ L.length := by
  obtain ⟨p, L1, q1, h2⟩ := bind_inv h
  obtain ⟨c, L2, q2, h3⟩ := bind_inv h2
  cases h3
  exact nums_len2 q1
/-- the numbers of the rows are not many -/
def smallT (n : Nat) (q : List Rw × Tk) : Prop := q.1.length ≤ 101 ∧ ∀ r ∈ q.1, r.1.length ≤ n
theorem rows_small {T : List Tk} {st : Bool} : ∀ {f : Nat} {t : Tk} {L L' : List Tk} {q : List Rw × Tk}, rowsC st f t L = .ok q L' → L <:+ T → ∀ r ∈ q.1, r.1.length ≤ T.length
  | 0, t, L, L', q, h, _ => by cases h
  | f + 1, t, L, L', q, h, hL => by
    unfold rowsC at h
    split at h
    · obtain ⟨r, L1, q1, h2⟩ := bind_inv h
      obtain ⟨u, L2, q2, h3⟩ := bind_inv h2
      obtain ⟨q', L3, q3, h4⟩ := bind_inv h3
      cases h4
      have hL1 := (row_suf q1 hL).1
      intro x hx
      rcases List.mem_cons.mp hx with rfl | hx
      · exact Nat.le_trans (row_len q1) hL.length_le
      · exact rows_small q3 (take_suf q2 hL1).1 x hx
    · cases h
      intro x hx; cases hx
theorem table_small {T : List Tk} {st : Bool} {L L' : List Tk} {q : List Rw × Tk} (h : tableP st 100 L = .ok q L') (hL : L <:+ T) : smallT T.length q := by
  obtain ⟨t, L0, q1, h2⟩ := bind_inv h
  obtain ⟨L1, rfl, rfl, hk⟩ := look_ok q1
  split at h2
  · obtain ⟨u, L2, q2, h3⟩ := bind_inv h2
    cases h3
    exact ⟨by simp, fun x hx => by cases hx⟩
  · obtain ⟨r, L2, q2, h3⟩ := bind_inv h2
    obtain ⟨u, L3, q3, h4⟩ := bind_inv h3
    obtain ⟨q', L4, q4, h5⟩ := bind_inv h4
    cases h5
    have hL2 := (row_suf q2 hL).1
    refine ⟨by have := rows_len q4; simp; omega, fun x hx => ?_⟩
    rcases List.mem_cons.mp hx with rfl | hx
    · exact Nat.le_trans (row_len q2) hL.length_le
    · exact rows_small q4 (take_suf q3 hL2).1 x hx
theorem tabs_good {T : List Tk} {st : Bool} {F : Nat} (hF : F = 100) : ∀ {f : Nat} {p : List Rw × Tk} {L L' : List Tk} {ss : List (List Rw × Tk)}, itC (tableP st F) (fun p => decide (p.2.k = .sg 59)) f p L = .ok ss L' → L <:+ T → goodT T p → smallT T.length p → ∀ q ∈ ss, goodT T q ∧ smallT T.length q
  | 0, p, L, L', ss, h, _, _, _ => by cases h
  | f + 1, p, L, L', ss, h, hL, hp, hp2 => by
    unfold itC at h
    split at h
    · obtain ⟨q, L1, q1, h2⟩ := bind_inv h
      obtain ⟨r, L2, q2, h3⟩ := bind_inv h2
      cases h3
      have := table_suf q1 hL
      subst hF
      have h4 := tabs_good rfl q2 this.1 this.2 (table_small q1 hL)
      intro x hx
      rcases List.mem_cons.mp hx with rfl | hx
      · exact ⟨hp, hp2⟩
      · exact h4 x hx
    · cases h
      intro x hx
      simp at hx; subst hx; exact ⟨hp, hp2⟩
/-! ### read_graph -/
def scsW (ds : List PyData) : List W := ds.map .p
theorem q_read_graph {text : Str} {T : List Tk} {m : Hm} (hs : F_scan [.p (.str text)] m = .ok (.p (.list (T.map tokD))) m) (hk : ∀ t ∈ T, kOk t.k t.w) (hn : NumT T) (hl : T.length < 90) (hf : ∃ t ∈ T, t.k = .fin) (hm : okM m.length m = true) :
    RdT m (F_read_graph [.p (.str text)] m) (run false .g0 T) := by
  have hr : (graphP false 100 T).oc = run false .g0 T := graph_run (by omega)
  have nb : run false .g0 T ≠ .bad := let ⟨t, ht, htk⟩ := hf; run_bad htk ht
  have na : ∀ os, run false .g0 T ≠ .ahead os := fun os => run_false
  rw [← hr] at nb na ⊢
  have e2 : eMake "Parser" 3 F_Parser___init__ (aCons (eCall 1 F_scan (aCons (eVar 0) aNil)) (aCons (eC (.bool false)) aNil)) [some (.p (.str text)), none, none, none, none, none, none, none] m = .ok (.loc m.length) (m ++ [pc T false 0]) := q_make (by simp only [r_acons, r_anil, r_call, r_var, r_c, List.getElem?_cons_zero, bind_ok, List.length_cons, List.length_nil, decide_true, if_true, hs])
  have e3 := m_graph (s := [some (.p (.str text)), none, none, none, none, none, none, none]) (m0 := m) e2 hk hl hm (oc_bad nb)
  unfold F_read_graph mkFn m_read_graph
  change RdT m (retE true m.length (sSeq _ _ [some (.p (.str text)), none, none, none, none, none, none, none] m)) _
  rw [q_seq, q_put, e3]
  cases q : graphP false 100 T with
  | bad => trivial
  | ahead os L => rw [q] at na; exact absurd rfl (na _)
  | err c os L =>
    simp only [PL.res, st_exc, PL.oc, Mm_pc]
    exact endX_app hm rfl
  | ok a L =>
    obtain ⟨v, ss, es⟩ := a
    -- what is known
    obtain ⟨v', L1, q1, h2⟩ := bind_inv q
    obtain ⟨_, L2, q2, h3⟩ := bind_inv h2
    obtain ⟨p, L3, q3, h4⟩ := bind_inv h3
    obtain ⟨ss', L4, q4, h5⟩ := bind_inv h4
    obtain ⟨es', L5, q5, h6⟩ := bind_inv h5
    cases h6
    have hL1 := take_suf q1 List.suffix_rfl
    have hL2 := take_suf q2 hL1.1
    obtain ⟨hL3, hp, hpn, _⟩ := nums_suf q3 hL2.1
    have hss := sc_good q4 hL3 ⟨hpn, hp⟩
    obtain ⟨t5, L6, q6, h7⟩ := bind_inv q5
    have hL6 := take_suf q6 hss.1
    have hes := ed_good h7 hL6.1 hL6.2
    have hel := ed_len h7
    have hsl := it_len q4
    have hv : v.w ∈ numW := hn v hL1.2 (by have := (take_ok q1).2.1; simpa using this)
    have hsm : ∀ x ∈ ss, x.1.length ≤ 100 := by
      have h8 : ∀ {f : Nat} {p : List Tk × Tk} {L L' : List Tk} {ss : List (List Tk × Tk)}, itC (numsP false [.sg 44, .sg 59]) (fun p => decide (p.2.k = .sg 44)) f p L = .ok ss L' → L <:+ T → p.1.length ≤ 90 → ∀ x ∈ ss, x.1.length ≤ 90 := by
        intro f
        induction f with
        | zero => intro p L L' ss h; cases h
        | succ f ih =>
          intro p L L' ss h hL hp
          unfold itC at h
          split at h
          · obtain ⟨q, L1, q1, h2⟩ := bind_inv h
            obtain ⟨r, L2, q2, h3⟩ := bind_inv h2
            cases h3
            have hq := nums_len2 q1
            have hLl := hL.length_le
            have := ih q2 (nums_suf q1 hL).1 (by omega)
            intro x hx
            rcases List.mem_cons.mp hx with rfl | hx
            · exact hp
            · exact this x hx
          · cases h
            intro x hx; simp at hx; subst hx; exact hp
      intro x hx
      have := h8 q4 hL3 (by have := nums_len2 q3; have := hL2.1.length_le; omega) x hx
      omega
    show Rd _ _ m
    simp only [PL.res, st_ok, Mm_pc, graphD]
    let m2 : Hm := m ++ [pc T false (T.length - L.length)]
    have ok2 : okM m2.length m2 = true := okM_pc hm
    let s1 : Ev := [some (.p (.str text)), some (.p (tokD v)), some (.p (.list (ss.map numsD))), some (.p (edgesD es)), none, none, none, none]
    have put1 : (Tg.t [.n 1, .n 2, .n 3]).put (.p (.tuple [tokD v, .list (ss.map numsD), edgesD es])) [some (.p (.str text)), none, none, none, none, none, none, none] = some s1 := rfl
    rw [put1]
    simp only
    have call1 : (eCall 4 F_number_of (aCons (eVar 1) (aCons (eC (.int 2)) (aCons (eC (.int 3)) (aCons (eC (.str "there are 2 or 3 values")) aNil))))) s1 m2 = F_number_of [.p (tokD v), .p (.int 2), .p (.int 3), .p (.str "there are 2 or 3 values")] m2 := by
      simp only [s1, r_call, r_acons, r_anil, r_op2, r_c, r_var, List.getElem?_cons_succ, List.getElem?_cons_zero, bind_ok]
      rfl
    rw [q_seq, q_set]
    change Rd _ (retE true m.length (match ((eCall 4 F_number_of (aCons (eVar 1) (aCons (eC (.int 2)) (aCons (eC (.int 3)) (aCons (eC (.str "there are 2 or 3 values")) aNil))))) s1 m2).st s1 _ with | some (.nx s1, m1) => _ | r => r)) m
    rw [call1]
    rcases q_number (t := v) (lo := 2) (hi := 3) (w := "there are 2 or 3 values") (m := m2) hv with ⟨vv, hvv⟩ | hvv
    case inr =>
      rw [hvv]
      exact end_ExR hm ⟨_, _, [pc T false (T.length - L.length)], by decide +kernel, rfl, rfl⟩
    rw [hvv]
    simp only [st_ok]
    let s2 : Ev := [some (.p (.str text)), some (.p (tokD v)), some (.p (.list (ss.map numsD))), some (.p (edgesD es)), some (.p (.int vv)), some (.loc m2.length), none, none]
    change Rd _ (retE true m.length (sSeq (sSet 5 (eLstL aNil)) _ [some (.p (.str text)), some (.p (tokD v)), some (.p (.list (ss.map numsD))), some (.p (edgesD es)), some (.p (.int vv)), none, none, none] m2)) m
    rw [q_seq, q_set, r_lstL, r_anil]
    simp only [bind_ok, List.length_nil, Nat.zero_le, if_true, st_ok, List.set]
    change Rd _ (retE true m.length (sSeq _ _ s2 (m2 ++ [.lst []]))) m
    rw [q_seq, q_for, it_list (j := 2) (ds := ss.map numsD) rfl]
    simp only [st_ok]
    have key := for_any (gs := []) (t := .t [.n 6, .n 7]) (body := L1_read_graph) (e := fun t => W.p (numsD t)) (xs := ss) (s := s2) (m := m2 ++ [.lst []])
      (fun pre s m' => ∃ ds : List PyData, s = s2 ∧ m' = m2 ++ [.lst (ds.map .p)] ∧ ds.length = pre.length) (ExR m2) (fun _ _ _ _ => rfl)
      (by
        rintro pre ⟨ts, bh⟩ post s m' hx ⟨ds, rfl, rfl, hlen⟩
        have hlen2 : ds.length ≤ 100 := by rw [hlen]; rw [hx] at hsl; simp at hsl; omega
        have hxm : (ts, bh) ∈ ss := by rw [hx]; simp
        have hg := hss.2 _ hxm
        have htn : ∀ t ∈ ts, t.w ∈ numW := fun t ht => hn t (hg.1 t ht).1 (hg.1 t ht).2
        let s3 : Ev := [some (.p (.str text)), some (.p (tokD v)), some (.p (.list (ss.map numsD))), some (.p (edgesD es)), some (.p (.int vv)), some (.loc m2.length), some (.p (.list (ts.map tokD))), some (.p (tokD bh))]
        refine ⟨s3, rfl, ?_⟩
        have call2 : (eCall 1 F_scope_from (aCons (eVar 6) aNil)) s3 (m2 ++ [.lst (ds.map .p)]) = F_scope_from [.p (.list (ts.map tokD))] (m2 ++ [.lst (ds.map .p)]) := by
          simp only [s3, r_call, r_acons, r_anil, r_c, r_var, List.getElem?_cons_succ, List.getElem?_cons_zero, bind_ok]
          rfl
        have sv : s3[5]? = some (some (.loc m2.length)) := rfl
        have sv7 : s3[7]? = some (some (.p (tokD bh))) := rfl
        unfold L1_read_graph
        rw [q_tidy, q_seq, q_expr, r_lm, r_var, sv]
        simp only [bind_ok, lstAt_loc cellAt, if_true, r_acons, r_anil, call2]
        rcases q_scope_from (m := m2 ++ [.lst (ds.map .p)]) htn (hsm _ hxm) (okM_lst ok2) with ⟨d, hv, _⟩ | ⟨c, w, hw, hv⟩
        case inr => rw [hv]; right; exact ⟨_, _, _, rfl, c, w, _, hw, rfl, rfl⟩
        rw [hv]
        simp only [bind_ok]
        rw [o_append cellAt (by simp; omega), setAt]
        simp only [st_ok]
        have c1 : ∃ b, (bAnd (bVal (eOp2 (eqM false) (eCB lenM (aCons (eVar 5) aNil)) (eC (.int 5)))) (bVal (eOp2 (eqM false) (eOp2 idxM (eVar 7) (eC (.int 1))) (eC (.str ","))))) s3 (m2 ++ [.lst (ds.map .p ++ [.p d])]) = .ok b (m2 ++ [.lst (ds.map .p ++ [.p d])]) := by
          simp only [r_band, r_bval, r_op2, r_cb, r_acons, r_anil, r_c, r_var, sv, sv7, bind_ok, o_lenC cellAt, o_eqI, r_boolOf, o_tk1]
          rw [w_com, o_eqS (kOk_str (hk _ hg.2)) (sok1 44 (by omega))]
          simp only [bind_ok, r_boolOf]
          split
          · exact ⟨_, rfl⟩
          · exact ⟨_, rfl⟩
        obtain ⟨b, hb⟩ := c1
        rw [q_if, hb]
        cases b with
        | true =>
          right
          simp only [st_ok, if_true]
          rw [raise_is (t := bh) rfl]
          exact ⟨_, _, _, rfl, _, _, _, by decide +kernel, rfl, rfl⟩
        | false =>
          left
          simp only [st_ok, Bool.false_eq_true, if_false, q_skip]
          refine ⟨_, _, rfl, ds ++ [d], ?_, ?_, by simp [hlen]⟩
          · rw [tidy_len (by simp)]; rfl
          · rw [tidy_len (by simp)]; simp)
      ⟨[], rfl, rfl, rfl⟩
    have e0 : (ss.map numsD).map W.p = ss.map fun t => W.p (numsD t) := by simp
    rw [e0]
    rcases key with ⟨s', m', qq, ds, rfl, rfl, hdl⟩ | ⟨x, s', m', qq, hx⟩
    · rw [qq]
      dsimp only
      have hE := q_edges_from (es := es) (many := (ds.length : Nat)) (m := m2 ++ [.lst (ds.map .p)]) (fun p hp => ⟨hn _ (hes p hp).1.1 (hes p hp).1.2, hn _ (hes p hp).2.1 (hes p hp).2.2⟩) (by omega) (okM_lst ok2)
      have s3v : s2[3]? = some (some (.p (edgesD es))) := rfl
      have s4v : s2[4]? = some (some (.p (.int vv))) := rfl
      have s5v : s2[5]? = some (some (.loc m2.length)) := rfl
      have ez : (0 + 1 + 1 + 1 ≤ sizeLine) = True := by simp [sizeLine_eq]
      rw [q_ret, r_tup]
      simp only [r_acons, r_anil, r_cb, r_call, r_var, s3v, s4v, s5v, bind_ok, o_tupC (ds := ds) cellAt, o_lenC cellAt, List.length_map, List.length_cons, List.length_nil, decide_true, if_true]
      rcases hE with ⟨d, hd, _⟩ | ⟨c, w, hw, hd⟩
      · rw [hd]
        simp only [bind_ok, List.length_cons, List.length_nil, ez, if_true, st_ok, ret_rt]
        have tp : mkTup [.p (.int vv), .p (.tuple ds), .p d] = .p (.tuple [.int vv, .tuple ds, d]) := by simp [mkTup]
        rw [tp]
        refine .inl ⟨.tuple [.int vv, .tuple ds, d], ?_, trivial⟩
        show endFn true m.length _ ((m ++ [pc T false (T.length - L.length)]) ++ [.lst (ds.map .p)]) = _
        rw [List.append_assoc]
        exact end_p rfl hm
      · rw [hd]
        exact end_ExR hm ⟨c, w, [pc T false (T.length - L.length)] ++ [.lst (ds.map .p)], hw, rfl, by show (m ++ _) ++ _ = _; rw [List.append_assoc]⟩
    · rw [qq]
      exact end_ExR hm hx.up
theorem q_read_graph_x {text : Str} {c : Int} {w : Str} {m : Hm} (hs : F_scan [.p (.str text)] m = .exc (tx c w) m) : F_read_graph [.p (.str text)] m = .exc (tx c w) m := by
  unfold F_read_graph mkFn m_read_graph
  change retE true m.length (sSeq _ _ [some (.p (.str text)), none, none, none, none, none, none, none] m) = _
  have e2 : eMeth "Parser" "graph" 1 F_Parser_graph (eMake "Parser" 3 F_Parser___init__ (aCons (eCall 1 F_scan (aCons (eVar 0) aNil)) (aCons (eC (.bool false)) aNil))) aNil [some (.p (.str text)), none, none, none, none, none, none, none] m = .exc (tx c w) m := by
    unfold eMeth eMake
    simp only [r_acons, r_anil, r_call, r_var, r_c, List.getElem?_cons_zero, bind_ok, List.length_cons, List.length_nil, decide_true, if_true, hs, bind_exc]
  rw [q_seq, q_put, e2]
  exact endX_same
/-! ### read_tables -/
theorem w_last {n : Nat} {m e : Hm} {c : Cell} (h : n = m.length) : (m ++ c :: e)[n]? = some c := by subst h; simp
theorem q_read_tables {text : Str} {T : List Tk} {m : Hm} (hs : ∀ m', okM m'.length m' = true → F_scan [.p (.str text)] m' = .ok (.p (.list (T.map tokD))) m') (hk : ∀ t ∈ T, kOk t.k t.w) (hn : NumT T) (hl : T.length < 90) (hf : ∃ t ∈ T, t.k = .fin) (hm : okM m.length m = true) :
    RdT m (F_read_tables [.p gL, .p (.str text)] m) (run false .t0 T) := by
  have hr : (tablesP false 100 T).oc = run false .t0 T := tables_run (by omega)
  have nb : run false .t0 T ≠ .bad := let ⟨t, ht, htk⟩ := hf; run_bad htk ht
  have na : ∀ os, run false .t0 T ≠ .ahead os := fun os => run_false
  rw [← hr] at nb na ⊢
  let m1 : Hm := m ++ [.lst []]
  have ok1 : okM m1.length m1 = true := okM_lst (ds := []) hm
  let s0 : Ev := [some (.p gL), some (.p (.str text)), some (.loc m.length), none, none]
  have e2 : eMake "Parser" 3 F_Parser___init__ (aCons (eCall 1 F_scan (aCons (eVar 1) aNil)) (aCons (eC (.bool false)) aNil)) s0 m1 = .ok (.loc m1.length) (m1 ++ [pc T false 0]) := q_make (by simp only [s0, r_acons, r_anil, r_call, r_var, r_c, List.getElem?_cons_succ, List.getElem?_cons_zero, bind_ok, List.length_cons, List.length_nil, decide_true, if_true, hs m1 ok1])
  have e3 := m_tables (s := s0) (m0 := m1) e2 hk hl ok1 (oc_bad nb)
  have hc : eCall 1 F_check_graph (aCons (eVar 0) aNil) [some (.p gL), some (.p (.str text)), none, none, none] m = .ok (.p .none) m := by
    simp only [r_acons, r_anil, r_call, r_var, List.getElem?_cons_zero, bind_ok, List.length_cons, List.length_nil, decide_true, if_true, q_graph]
  unfold F_read_tables mkFn m_read_tables
  change RdT m (retE true m.length (sSeq _ _ [some (.p gL), some (.p (.str text)), none, none, none] m)) _
  rw [q_seq, q_expr, hc]
  simp only [st_ok]
  rw [q_seq, q_set, r_lstL, r_anil]
  simp only [bind_ok, List.length_nil, Nat.zero_le, if_true, st_ok, List.set]
  change RdT m (retE true m.length (sSeq _ _ s0 m1)) _
  rw [q_seq, q_for, r_iseq, e3]
  cases q : tablesP false 100 T with
  | bad => trivial
  | ahead os L => rw [q] at na; exact absurd rfl (na _)
  | err c os L =>
    simp only [PL.res, bind_exc, st_exc, PL.oc, Mm_pc]
    show retE true m.length (some (.ex _ _, (m ++ [.lst []]) ++ _)) = _
    rw [List.append_assoc]
    exact endX_app hm rfl
  | ok ss L =>
    obtain ⟨p, L1, q1, h2⟩ := bind_inv q
    have hp := table_suf q1 List.suffix_rfl
    have hp2 := table_small q1 List.suffix_rfl
    have hgood := tabs_good (T := T) rfl h2 hp.1 hp.2 hp2
    have hlast := it_last h2
    show Rd _ _ m
    simp only [PL.res, bind_ok, Mm_pc, tablesD]
    have src : srcOf (.p (.list (ss.map tableD))) (m1 ++ [pc T false (T.length - L.length)]) = .ok ⟨(ss.map tableD).map .p, []⟩ (m1 ++ [pc T false (T.length - L.length)]) := rfl
    rw [src]
    simp only [st_ok]
    -- the heap: m, the list found, the parser
    let pcc : Cell := pc T false (T.length - L.length)
    let hp_ : List PyData → Hm := fun ds => m ++ [.lst (ds.map .p), pcc]
    have okh : ∀ ds, okM (hp_ ds).length (hp_ ds) = true := fun ds => by
      have h := okM_snoc (c := pcc) (okM_lst (ds := ds) hm) ok_pc
      rw [List.append_assoc] at h
      exact h
    have at_ : ∀ ds, (hp_ ds)[m.length]? = some (.lst (ds.map .p)) := fun ds => w_last rfl
    have key := for_any (gs := []) (t := .t [.n 3, .n 4]) (body := L1_read_tables) (e := fun t => W.p (tableD t)) (xs := ss) (s := s0) (m := hp_ [])
      (fun pre s m' => ∃ ds : List PyData, s = s0 ∧ m' = hp_ ds ∧ ds.length = pre.length ∧ (2 ≤ pre.length → ∀ post, ss = pre ++ post → post = [])) (ExR m) (fun _ _ _ _ => rfl)
      (by
        rintro pre ⟨rs, bh⟩ post s m' hx ⟨ds, rfl, rfl, hlen, h2l⟩
        have hlt : pre.length < 2 := by
          apply Classical.byContradiction
          intro h
          have := h2l (by omega) _ hx
          cases this
        have hxm : (rs, bh) ∈ ss := by rw [hx]; simp
        have hg := hgood _ hxm
        have hb : kOk bh.k bh.w := hk _ hg.1.2.1
        let s1 : Ev := [some (.p gL), some (.p (.str text)), some (.loc m.length), some (.p (.list (rs.map rowD))), some (.p (tokD bh))]
        refine ⟨s1, rfl, ?_⟩
        obtain ⟨sc, hsc⟩ : ∃ sc, atI ([.tuple [.int 0], .tuple [.int 1]] : List PyData) ((ds.length : Nat) : Int) = some (.tuple sc) := by
          rw [atI_lit, hlen]
          rcases Nat.lt_or_ge pre.length 1 with h | h
          · have : pre.length = 0 := by omega
            rw [this]; exact ⟨_, rfl⟩
          · have : pre.length = 1 := by omega
            rw [this]; exact ⟨_, rfl⟩
        have sv : s1[2]? = some (some (.loc m.length)) := rfl
        have sv0 : s1[0]? = some (some (.p gL)) := rfl
        have sv3 : s1[3]? = some (some (.p (.list (rs.map rowD)))) := rfl
        have sv4 : s1[4]? = some (some (.p (tokD bh))) := rfl
        have g0 : idxM (.p gL) (.p (.int 0)) (hp_ ds) = .ok (.p (.int 2)) (hp_ ds) := rfl
        have g1 : ∀ m', idxM (.p gL) (.p (.int 1)) m' = .ok (.p (.tuple [.tuple [.int 0], .tuple [.int 1]])) m' := fun _ => rfl
        have call1 : (eCall 3 F_table_from (aCons (eOp2 idxM (eVar 0) (eC (.int 0))) (aCons (eOp2 idxM (eOp2 idxM (eVar 0) (eC (.int 1))) (eCB lenM (aCons (eVar 2) aNil))) (aCons (eVar 3) aNil)))) s1 (hp_ ds) = F_table_from [.p (.int 2), .p (.tuple sc), .p (.list (rs.map rowD))] (hp_ ds) := by
          simp only [r_call, r_acons, r_anil, r_op2, r_cb, r_c, r_var, sv, sv0, sv3, bind_ok, g0, g1, o_lenC (at_ ds), List.length_map, o_ixT, hsc, List.length_cons, List.length_nil]
          rfl
        unfold L1_read_tables
        rw [q_tidy, q_seq, q_expr, r_lm, r_var, sv]
        simp only [bind_ok, lstAt_loc (at_ ds), if_true, r_acons, r_anil, call1]
        rcases q_table_from (rs := rs) (vals := 2) (sc := sc) (m := hp_ ds) (fun r hr => ⟨fun t ht => hn t ((hg.1.1 r hr).1 t ht).1 ((hg.1.1 r hr).1 t ht).2, by have := hg.2.2 r hr; omega, hn _ (hg.1.1 r hr).2.2.1 (hg.1.1 r hr).2.2.2⟩) (by have h9 : rs.length ≤ 101 := hg.2.1; omega) (okh ds) with ⟨d, hv, _⟩ | ⟨c, w, hw, hv⟩
        case inr => rw [hv]; right; exact ⟨_, _, _, rfl, c, w, _, hw, rfl, rfl⟩
        rw [hv]
        simp only [bind_ok]
        have st2 : (hp_ ds).set m.length (.lst (ds.map .p ++ [.p d])) = hp_ (ds ++ [d]) := by
          show (m ++ _).set _ _ = _
          rw [List.set_append_right _ _ (Nat.le_refl _)]
          simp [hp_]
        rw [o_append (at_ ds) (by simp; omega), st2]
        simp only [st_ok]
        have ld : (ds ++ [d]).length = pre.length + 1 := by simp [hlen]
        have c1 : (bAnd (bVal (eOp2 (eqM false) (eCB lenM (aCons (eVar 2) aNil)) (eCB lenM (aCons (eOp2 idxM (eVar 0) (eC (.int 1))) aNil)))) (bVal (eOp2 (eqM false) (eOp2 idxM (eVar 4) (eC (.int 1))) (eC (.str ";"))))) s1 (hp_ (ds ++ [d])) = .ok (decide (pre.length + 1 = 2) && decide (bh.k = .sg 59)) (hp_ (ds ++ [d])) := by
          simp only [r_band, r_bval, r_op2, r_cb, r_acons, r_anil, r_c, r_var, sv, sv0, sv4, bind_ok, o_lenC (at_ (ds ++ [d])), g1, o_lenT, o_eqI, r_boolOf, o_tk1, List.length_map, ld]
          rw [w_sem, o_eqS (kOk_str hb) (sok1 59 (by omega)), w_is hb (by decide)]
          simp only [bind_ok, r_boolOf]
          have : ((((pre.length + 1 : Nat) : Int)) == (([PyData.tuple [.int 0], .tuple [.int 1]].length : Nat) : Int)) = decide (pre.length + 1 = 2) := by
            rw [Bool.eq_iff_iff]; simp; omega
          rw [this]
          cases decide (pre.length + 1 = 2) <;> rfl
        rw [q_seq, q_if, c1]
        cases hA : (decide (pre.length + 1 = 2) && decide (bh.k = .sg 59)) with
        | true =>
          right
          simp only [st_ok, if_true]
          rw [raise_is (t := bh) rfl]
          exact ⟨_, _, _, rfl, _, _, _, by decide +kernel, rfl, rfl⟩
        | false =>
          simp only [st_ok, Bool.false_eq_true, if_false, q_skip]
          have c2 : ∃ b, (bAnd (bVal (eOp2 ltM (eCB lenM (aCons (eVar 2) aNil)) (eCB lenM (aCons (eOp2 idxM (eVar 0) (eC (.int 1))) aNil)))) (bVal (eOp2 (eqM true) (eOp2 idxM (eVar 4) (eC (.int 1))) (eC (.str ";"))))) s1 (hp_ (ds ++ [d])) = .ok b (hp_ (ds ++ [d])) := by
            simp only [r_band, r_bval, r_op2, r_cb, r_acons, r_anil, r_c, r_var, sv, sv0, sv4, bind_ok, o_lenC (at_ (ds ++ [d])), g1, o_lenT, o_lt, r_boolOf, o_tk1]
            rw [w_sem, o_neS (kOk_str hb) (sok1 59 (by omega))]
            simp only [bind_ok, r_boolOf]
            split
            · exact ⟨_, rfl⟩
            · exact ⟨_, rfl⟩
          obtain ⟨b, hb2⟩ := c2
          rw [q_if, hb2]
          cases b with
          | true =>
            right
            simp only [st_ok, if_true]
            rw [raise_is (t := bh) rfl]
            exact ⟨_, _, _, rfl, _, _, _, by decide +kernel, rfl, rfl⟩
          | false =>
            left
            simp only [st_ok, Bool.false_eq_true, if_false, q_skip]
            have lh : ∀ ds, (hp_ ds).length = m.length + 2 := fun ds => by simp [hp_]
            refine ⟨_, _, rfl, ds ++ [d], ?_, ?_, by simp [hlen], fun hge post' e' => ?_⟩
            · rw [tidy_len (by rw [lh, lh])]; rfl
            · rw [tidy_len (by rw [lh, lh])]
            · have hp1 : pre.length + 1 = 2 := by simp at hge; omega
              rw [hx] at e'
              simp at e'
              subst e'
              apply Classical.byContradiction
              intro hne
              have h9 : decide (bh.k = .sg 59) = true := (hlast.1 pre (rs, bh) post hx).mpr hne
              rw [h9, decide_eq_true hp1] at hA
              cases hA)
      ⟨[], rfl, rfl, rfl, fun h => by simp at h⟩
    have e0 : (ss.map tableD).map W.p = ss.map fun t => W.p (tableD t) := by simp
    have em : m1 ++ [pc T false (T.length - L.length)] = hp_ [] := by show (m ++ _) ++ _ = _; rw [List.append_assoc]; rfl
    rw [e0, em]
    rcases key with ⟨s', m', qq, ds, rfl, rfl, hdl, _⟩ | ⟨x, s', m', qq, hx⟩
    · rw [qq]
      have sv : s0[2]? = some (some (.loc m.length)) := rfl
      simp only [q_ret, r_cb, r_acons, r_anil, r_var, sv, bind_ok, o_tupC (at_ ds), st_ok, ret_rt]
      exact .inl ⟨.tuple ds, end_p rfl hm, trivial⟩
    · rw [qq]
      exact end_ExR hm hx
theorem q_read_tables_x {text : Str} {c : Int} {w : Str} {m : Hm} (hs : ∀ m', okM m'.length m' = true → F_scan [.p (.str text)] m' = .exc (tx c w) m') (hm : okM m.length m = true) : F_read_tables [.p gL, .p (.str text)] m = .exc (tx c w) m := by
  let m1 : Hm := m ++ [.lst []]
  have ok1 : okM m1.length m1 = true := okM_lst (ds := []) hm
  let s0 : Ev := [some (.p gL), some (.p (.str text)), some (.loc m.length), none, none]
  have e2 : eMeth "Parser" "tables" 1 F_Parser_tables (eMake "Parser" 3 F_Parser___init__ (aCons (eCall 1 F_scan (aCons (eVar 1) aNil)) (aCons (eC (.bool false)) aNil))) aNil s0 m1 = .exc (tx c w) m1 := by
    unfold eMeth eMake
    simp only [s0, r_acons, r_anil, r_call, r_var, r_c, List.getElem?_cons_succ, List.getElem?_cons_zero, bind_ok, List.length_cons, List.length_nil, decide_true, if_true, hs m1 ok1, bind_exc]
  have hc : eCall 1 F_check_graph (aCons (eVar 0) aNil) [some (.p gL), some (.p (.str text)), none, none, none] m = .ok (.p .none) m := by
    simp only [r_acons, r_anil, r_call, r_var, List.getElem?_cons_zero, bind_ok, List.length_cons, List.length_nil, decide_true, if_true, q_graph]
  unfold F_read_tables mkFn m_read_tables
  change retE true m.length (sSeq _ _ [some (.p gL), some (.p (.str text)), none, none, none] m) = _
  rw [q_seq, q_expr, hc]
  simp only [st_ok]
  rw [q_seq, q_set, r_lstL, r_anil]
  simp only [bind_ok, List.length_nil, Nat.zero_le, if_true, st_ok, List.set]
  change retE true m.length (sSeq _ _ s0 m1) = _
  rw [q_seq, q_for, r_iseq, e2]
  exact endX_app hm rfl
end Mir.K68

namespace Mir.K68
open PySem PySem.Spec PyProof.Rows L2
/-! ### told -/
def tpl (c : Int) (w : Str) : PyData := .tuple [.int c, .str w]
theorem try3 {f : SX} {s s1 : Ev} {m m1 : Hm} {c : Int} {w : Str} (h : f s m = some (.ex (tx c w) s1, m1)) (hi : 3 < s1.length) : sTry 3 [("TextError", true)] (.tup [.f "column", .f "words"]) f s m = some (.rt (.p (tpl c w)), m1) := by
  unfold sTry
  rw [h]
  simp only [tx, lk3, XRet.val, xVals, XPart.val, g_col, g_words, decide_eq_true hi, if_true]
  rfl
theorem try3_rt {f : SX} {s : Ev} {m m1 : Hm} {w : W} {i : Nat} {tb : List (Str × Bool)} {r : XRet} (h : f s m = some (.rt w, m1)) : sTry i tb r f s m = some (.rt w, m1) := by
  unfold sTry
  rw [h]
theorem try3_nx {f : SX} {s s1 : Ev} {m m1 : Hm} {i : Nat} {tb : List (Str × Bool)} {r : XRet} (h : f s m = some (.nx s1, m1)) : sTry i tb r f s m = some (.nx s1, m1) := by
  unfold sTry
  rw [h]
def tS (text : Str) (g : Bool) (i : Int) : Ev := [some (.p (.str text)), some (.p (.str (kW g))), some (.p (.int i)), none]
theorem L_0 {text : Str} {g : Bool} {m : Hm} : L1__law_told (tS text g 0) m = (F_next_tokens [.p (.str text), .p (.str (kW g))] m).st (tS text g 0) fun w m1 => some (.rt w, m1) := by
  unfold L1__law_told
  simp only [tS, q_seq, q_if, q_ret, r_bval, r_op2, r_c, r_var, r_call, r_acons, r_anil, List.getElem?_cons_succ, List.getElem?_cons_zero, bind_ok, o_eqI, beq_self_eq_true, r_boolOf, st_ok, if_true, List.length_cons, List.length_nil, decide_true]
  cases F_next_tokens [.p (.str text), .p (.str (kW g))] m <;> rfl
theorem L_c {text : Str} {g : Bool} {m : Hm} : (bVal (eOp2 (eqM false) (eVar 1) (eC (.str "graph")))) (tS text g 1) m = .ok g m := by
  simp only [tS, r_bval, r_op2, r_var, r_c, List.getElem?_cons_succ, List.getElem?_cons_zero, bind_ok]
  rw [o_eqS (kW_ok g) (by decide +kernel)]
  cases g
  · have : decide (kW false = ("graph" : Str)) = false := by decide +kernel
    rw [this]; rfl
  · have : decide (kW true = ("graph" : Str)) = true := by decide +kernel
    rw [this]; rfl
theorem L_g {s : Ev} {m : Hm} : (eTup (aCons (eC (.int 2)) (aCons (eTup (aCons (eTup (aCons (eC (.int 0)) aNil)) (aCons (eTup (aCons (eC (.int 1)) aNil)) aNil))) (aCons (eTup aNil) aNil)))) s m = .ok (.p gL) m := by
  have z0 : (0 ≤ sizeLine) = True := by simp
  have z1 : (0 + 1 ≤ sizeLine) = True := by simp [sizeLine_eq]
  have z2 : (0 + 1 + 1 ≤ sizeLine) = True := by simp [sizeLine_eq]
  have z3 : (0 + 1 + 1 + 1 ≤ sizeLine) = True := by simp [sizeLine_eq]
  simp only [r_tup, r_acons, r_anil, r_c, bind_ok, List.length_cons, List.length_nil, z0, z1, z2, z3, if_true]
  rfl
def rdF (g : Bool) (text : Str) (m : Hm) : Res W := if g = true then F_read_graph [.p (.str text)] m else F_read_tables [.p gL, .p (.str text)] m
theorem L_1 {text : Str} {g : Bool} {m : Hm} : L1__law_told (tS text g 1) m = (rdF g text m).st (tS text g 1) fun w m1 => some (.nx (tS text g 1), m1) := by
  unfold L1__law_told
  have e0 : (bVal (eOp2 (eqM false) (eVar 2) (eC (.int 0)))) (tS text g 1) m = .ok false m := by
    simp only [tS, r_bval, r_op2, r_var, r_c, List.getElem?_cons_succ, List.getElem?_cons_zero, bind_ok, o_eqI, r_boolOf]
    rfl
  rw [q_seq, q_if, e0]
  simp only [st_ok, Bool.false_eq_true, if_false, q_skip]
  rw [q_if, L_c]
  have s0 : (tS text g 1)[0]? = some (some (.p (.str text))) := rfl
  cases g with
  | true =>
    simp only [st_ok, if_true, q_expr, r_call, r_acons, r_anil, r_var, s0, bind_ok, List.length_cons, List.length_nil, decide_true, rdF]
  | false =>
    simp only [st_ok, Bool.false_eq_true, if_false, if_true, q_expr, r_call, r_acons, r_anil, r_var, s0, bind_ok, List.length_cons, List.length_nil, decide_true, rdF, L_g]
theorem told_eq {text : Str} {g : Bool} {i : Int} {m : Hm} : F__law_told [.p (.str text), .p (.str (kW g)), .p (.int i)] m = retE true m.length (match sTry 3 [("TextError", true)] (.tup [.f "column", .f "words"]) L1__law_told (tS text g i) m with | some (.nx s1, m1) => sRet (eLst aNil) s1 m1 | r => r) := rfl
theorem told_x {text : Str} {g : Bool} {i c : Int} {w : Str} {m : Hm} (h : L1__law_told (tS text g i) m = some (.ex (tx c w) (tS text g i), m)) : F__law_told [.p (.str text), .p (.str (kW g)), .p (.int i)] m = .ok (.p (tpl c w)) m := by
  rw [told_eq, try3 h (Nat.lt_succ_self 3)]
  exact endFn_p
/-- a text and its tokens -/
structure Txt (text : Str) (T : List Tk) : Prop where
  c : ∀ m, okM m.length m = true → F_check_text [.p (.str text)] m = .ok (.p .none) m
  s : ∀ m, okM m.length m = true → F_scan [.p (.str text)] m = .ok (.p (.list (T.map tokD))) m
  k : ∀ t ∈ T, kOk t.k t.w
  n : NumT T
  l : T.length < 90
  f : ∃ t ∈ T, t.k = .fin
/-- a text that no scan takes -/
structure TxtX (text : Str) (col : Int) (wd : Str) : Prop where
  c : ∀ m, okM m.length m = true → F_check_text [.p (.str text)] m = .ok (.p .none) m
  s : ∀ m, okM m.length m = true → F_scan [.p (.str text)] m = .exc (tx col wd) m
section
variable {text w : Str} {T : List Tk} {g : Bool} {m : Hm} {ks : List Kd} {c : Int}
theorem told0 (h : Txt text T) (hm : okM m.length m = true) (e : run true (q0 g) T = .ahead ks) : F__law_told [.p (.str text), .p (.str (kW g)), .p (.int 0)] m = .ok (.p (.list (ks.map shD))) m := by
  rw [told_eq, try3_rt (by rw [L_0, q_next_of (h.c m hm) (h.s m hm) h.k h.l h.f hm, e]; rfl)]
  exact endFn_p
theorem told0e (h : Txt text T) (hm : okM m.length m = true) (e : run true (q0 g) T = .err c ks) : F__law_told [.p (.str text), .p (.str (kW g)), .p (.int 0)] m = .ok (.p (tpl c (ew ks))) m := by
  exact told_x (by rw [L_0, q_next_of (h.c m hm) (h.s m hm) h.k h.l h.f hm, e]; rfl)
theorem told0x (h : TxtX text c w) (hm : okM m.length m = true) : F__law_told [.p (.str text), .p (.str (kW g)), .p (.int 0)] m = .ok (.p (tpl c w)) m := by
  exact told_x (by rw [L_0, q_next_x (h.c m hm) (h.s m hm)]; rfl)
theorem rd_of (h : Txt text T) (hm : okM m.length m = true) : RdT m (rdF g text m) (run false (q0 g) T) := by
  cases g with
  | true => exact q_read_graph (h.s m hm) h.k h.n h.l h.f hm
  | false => exact q_read_tables h.s h.k h.n h.l h.f hm
theorem told1e (h : Txt text T) (hm : okM m.length m = true) (e : run false (q0 g) T = .err c ks) : F__law_told [.p (.str text), .p (.str (kW g)), .p (.int 1)] m = .ok (.p (tpl c (ew ks))) m := by
  have hr := rd_of (g := g) h hm
  rw [e] at hr
  have hr : rdF g text m = .exc (tx c (ew ks)) m := hr
  exact told_x (by rw [L_1, hr]; rfl)
theorem told1f (h : Txt text T) (hm : okM m.length m = true) (e : run false (q0 g) T = .fin) : (F__law_told [.p (.str text), .p (.str (kW g)), .p (.int 1)] m = .ok (.p (.list [])) m) ∨ ∃ c w, w ∈ rdw ∧ F__law_told [.p (.str text), .p (.str (kW g)), .p (.int 1)] m = .ok (.p (tpl c w)) m := by
  have hr := rd_of (g := g) h hm
  rw [e] at hr
  have hr : Rd (fun _ => True) (rdF g text m) m := hr
  rcases hr with ⟨d, hd, _⟩ | ⟨c, w, hw, hd⟩
  · left
    rw [told_eq, try3_nx (by rw [L_1, hd]; rfl)]
    exact endFn_p
  · right
    refine ⟨c, w, hw, ?_⟩
    exact told_x (by rw [L_1, hd]; rfl)
theorem told1x (h : TxtX text c w) (hm : okM m.length m = true) : F__law_told [.p (.str text), .p (.str (kW g)), .p (.int 1)] m = .ok (.p (tpl c w)) m := by
  have hr : rdF g text m = .exc (tx c w) m := by
    cases g with
    | true => exact q_read_graph_x (h.s m hm)
    | false => exact q_read_tables_x h.s hm
  exact told_x (by rw [L_1, hr]; rfl)
end
end Mir.K68

namespace Mir.K68
open PySem PySem.Spec PyProof.Rows L2
/-! ### laid: words and drawn blanks -/
abbrev WI := Nat × List Nat
def chs0 : List WI → List Nat
  | [] => []
  | (b, w) :: r => bl b ++ w ++ chs0 r
def plc (p : Nat) : List WI → List Int
  | [] => []
  | (b, w) :: r => ((p + b + 1 : Nat) : Int) :: plc (p + b + w.length) r
theorem chs0_snoc (a : List WI) (b : Nat) (w : List Nat) : chs0 (a ++ [(b, w)]) = chs0 a ++ bl b ++ w := by
  induction a with
  | nil => simp [chs0]
  | cons x a ih => obtain ⟨c, v⟩ := x; simp [chs0, ih]
theorem plc_snoc (a : List WI) (b : Nat) (w : List Nat) : ∀ p, plc p (a ++ [(b, w)]) = plc p a ++ [((p + (chs0 a).length + b + 1 : Nat) : Int)] := by
  induction a with
  | nil => intro p; simp [plc, chs0]
  | cons x a ih =>
    intro p
    obtain ⟨c, v⟩ := x
    simp only [List.cons_append, plc, ih, chs0]
    simp [bl]
    omega
theorem plc_len (a : List WI) : ∀ p, (plc p a).length = a.length := by
  induction a with
  | nil => intro p; rfl
  | cons x a ih => intro p; obtain ⟨c, v⟩ := x; simp [plc, ih]
def ldg (w : List Nat) : Bool := match w.getLast? with
  | some c => isDg c
  | none => false
def hdg (w : List Nat) : Bool := match w.head? with
  | some c => isDg c
  | none => false
def nearOk (l : List WI) : Prop := ∀ a x y c, l = a ++ x :: y :: c → ldg x.2 = true → hdg y.2 = true → 1 ≤ y.1
theorem near_snoc {l : List WI} {y : WI} (h : nearOk l) (h2 : ∀ a x, l = a ++ [x] → ldg x.2 = true → hdg y.2 = true → 1 ≤ y.1) : nearOk (l ++ [y]) := by
  intro a x z c e h3 h4
  rcases List.eq_nil_or_concat c with rfl | ⟨c', u, rfl⟩
  · have e : l ++ [y] = (a ++ [x]) ++ [z] := by simpa using e
    obtain ⟨e1, e2⟩ := List.append_inj' e rfl
    simp at e2
    subst e2
    exact h2 a x e1 h3 h4
  · have e : l ++ [y] = (a ++ x :: z :: c') ++ [u] := by simpa using e
    obtain ⟨e1, e2⟩ := List.append_inj' e rfl
    exact h a x z c' e1 h3 h4
/-- the words, as they come -/
def wdW (x : List Nat) : W := .p (.str (S x))
def WL (w : W) (ws : List (List Nat)) (r : Hm) : Prop := w = .p (.list (ws.map fun x => .str (S x))) ∨ ∃ n, w = .loc (n + 1) ∧ r[n]? = some (.lst (ws.map wdW))
section
variable {w : W} {ws : List (List Nat)} {r : Hm} {ns : List Int} {c k : Int}
theorem WL.isL (h : WL w ws r) : isL w = true := by
  rcases h with rfl | ⟨n, rfl, _⟩ <;> rfl
theorem WL.src (h : WL w ws r) : ∃ gs, ∀ c k e, srcOf w (strm ns c k :: (r ++ e)) = .ok ⟨ws.map wdW, gs⟩ (strm ns c k :: (r ++ e)) ∧ gOk (strm ns c k :: (r ++ e)) gs = true := by
  rcases h with rfl | ⟨n, rfl, h⟩
  · refine ⟨[], fun c k e => ⟨?_, rfl⟩⟩
    rw [srcOf_l, List.map_map]
    rfl
  · have hn : n < r.length := (List.getElem?_eq_some_iff.mp h).1
    have h2 : ∀ c k e, (strm ns c k :: (r ++ e))[n + 1]? = some (.lst (ws.map wdW)) := fun c k e => by
      rw [List.getElem?_cons_succ, List.getElem?_append_left hn, h]
    refine ⟨[(n + 1, ws.map wdW)], fun c k e => ⟨?_, ?_⟩⟩
    · simp only [srcOf, h2]
    · simp only [gOk, h2, Bool.and_true]
      exact beqWs_refl _
theorem WL.ix (h : WL w ws r) {i : Nat} {x : List Nat} (e : List Cell) (hx : ws[i]? = some x) : idxM w (.p (.int (i : Nat))) (strm ns c k :: (r ++ e)) = .ok (wdW x) (strm ns c k :: (r ++ e)) := by
  rcases h with rfl | ⟨n, rfl, h⟩
  · rw [o_ixL, atI_lit, List.getElem?_map, hx]
    rfl
  · have hn : n < r.length := (List.getElem?_eq_some_iff.mp h).1
    have h2 : (strm ns c k :: (r ++ e))[n + 1]? = some (.lst (ws.map wdW)) := by
      rw [List.getElem?_cons_succ, List.getElem?_append_left hn, h]
    simp only [idxM, h2, atI_lit, List.getElem?_map, hx]
    rfl
end
theorem cutS_last {w : List Nat} {c : Nat} : cutS (S (w ++ [c])) (some (-1)) none = S [c] := by
  have h1 : HT.sIx (S (w ++ [c])).length 0 (some (-1)) = w.length := by
    rw [S_len]
    show (if (-1 : Int) < 0 then (-1 + (((w ++ [c]).length : Nat) : Int)).toNat else min (-1 : Int).toNat (w ++ [c]).length) = _
    rw [if_pos (by omega)]
    simp
    omega
  have h2 : HT.sIx (S (w ++ [c])).length (S (w ++ [c])).length none = w.length + 1 := by
    rw [HT.sIx_none, S_len]
    simp
  unfold cutS
  rw [h1, h2]
  simp
theorem cutS_head {w : List Nat} {c : Nat} : cutS (S (c :: w)) none (some 1) = S [c] := by
  have h1 : HT.sIx (S (c :: w)).length 0 none = 0 := HT.sIx_none _ _
  have h2 : HT.sIx (S (c :: w)).length (S (c :: w)).length (some 1) = 1 := by
    have := HT.sIx_nat (S (c :: w)).length (S (c :: w)).length 1
    rw [S_len] at this ⊢
    rw [show (some 1 : Option Int) = some ((1 : Nat) : Int) from rfl, this]
    simp
  unfold cutS
  rw [h1, h2]
  simp
theorem o_addXs {a b : Str} {m : Hm} (h : a.length + b.length ≤ 16777216) : addX (.p (.str a)) (.p (.str b)) m = .ok (.p (.str (a ++ b))) m := by
  show addM (.p (.str a)) (.p (.str b)) m = _
  exact o_addSt h
theorem o_addXi {i j : Int} {m : Hm} : addX (.p (.int i)) (.p (.int j)) m = .ok (.p (.int (i + j))) m := rfl
theorem bl4 {d : Int} (h0 : 0 ≤ d) (h1 : d < 4) : atI ([.str "", .str " ", .str "  ", .str "   "] : List PyData) d = some (.str (S (bl d.toNat))) := by
  have h : d = 0 ∨ d = 1 ∨ d = 2 ∨ d = 3 := by omega
  have e0 : ("" : Str) = S (bl 0) := by decide +kernel
  have e1 : (" " : Str) = S (bl 1) := by decide +kernel
  have e2 : ("  " : Str) = S (bl 2) := by decide +kernel
  have e3 : ("   " : Str) = S (bl 3) := by decide +kernel
  rw [e0, e1, e2, e3]
  rcases h with rfl | rfl | rfl | rfl <;> rfl
theorem bl3 {d : Int} (h0 : 0 ≤ d) (h1 : d < 3) : atI ([.str "", .str " ", .str "  "] : List PyData) d = some (.str (S (bl d.toNat))) := by
  have h : d = 0 ∨ d = 1 ∨ d = 2 := by omega
  have e0 : ("" : Str) = S (bl 0) := by decide +kernel
  have e1 : (" " : Str) = S (bl 1) := by decide +kernel
  have e2 : ("  " : Str) = S (bl 2) := by decide +kernel
  rw [e0, e1, e2]
  rcases h with rfl | rfl | rfl <;> rfl
theorem num_zip {α : Type} (f : α → W) : ∀ (ws : List α) (k : Nat), numbered k (ws.map f) = (ws.zipIdx k).map fun p => mkTup [.p (.int (p.2 : Nat)), f p.1]
  | [], k => rfl
  | w :: r, k => by simp [numbered, num_zip f r (k + 1)]
theorem zip_at {α : Type} {ws : List α} {pre post : List (α × Nat)} {x : α × Nat} (h : ws.zipIdx = pre ++ x :: post) : x.2 = pre.length ∧ ws = pre.map (·.1) ++ x.1 :: post.map (·.1) := by
  have e1 : ws.zipIdx[pre.length]? = some x := by rw [h]; simp
  rw [List.getElem?_zipIdx] at e1
  constructor
  · cases q : ws[pre.length]? with
    | none => rw [q] at e1; cases e1
    | some y => rw [q] at e1; cases e1; simp
  · have := congrArg (List.map (·.1)) h
    rw [List.zipIdx_map_fst] at this
    rw [this]
    simp
def okWd (w : List Nat) : Prop := w ≠ [] ∧ w.length ≤ 7
theorem chs0_len : ∀ (l : List WI), (∀ x ∈ l, x.1 ≤ 3 ∧ x.2.length ≤ 7) → (chs0 l).length ≤ 10 * l.length
  | [], _ => by simp [chs0]
  | (b, w) :: r, h => by
    have h0 := h _ List.mem_cons_self
    have ih := chs0_len r fun x hx => h x (List.mem_cons_of_mem _ hx)
    simp [chs0, bl] at h0 ⊢
    omega
/-- whether a blank is needed -/
def need (pre : List WI) (w : List Nat) : Bool := match pre.getLast? with
  | some x => ldg x.2 && hdg w
  | none => false
def nearE : EX W := (eCB intX (aCons (eAnd (eOp2 gtM (eVar 4) (eC (.int 0))) (eAnd (eOp2 inX (eCut (eOp2 idxM (eVar 1) (eOp2 subM (eVar 4) (eC (.int 1)))) (oSome (eOp1 negM (eC (.int 1)))) oNone) (eC (.str "0123456789"))) (eOp2 inX (eCut (eVar 5) oNone (oSome (eC (.int 1)))) (eC (.str "0123456789"))))) aNil))
theorem q_near {W0 : W} {ws : List (List Nat)} {r e : Hm} {ns : List Int} {c k : Int} {pre : List WI} {w : List Nat} {s : Ev} (hW : WL W0 ws r) (hx : ∃ post, ws = pre.map (·.2) ++ w :: post) (ho : ∀ v ∈ ws, okWd v) (h1 : s[1]? = some (some W0)) (h4 : s[4]? = some (some (.p (.int ((pre.length : Nat) : Int))))) (h5 : s[5]? = some (some (wdW w))) :
    nearE s (strm ns c k :: (r ++ e)) = .ok (.p (.int (if need pre w = true then 1 else 0))) (strm ns c k :: (r ++ e)) := by
  obtain ⟨post, hx⟩ := hx
  have hw := ho w (by rw [hx]; simp)
  unfold nearE
  rcases List.eq_nil_or_concat pre with rfl | ⟨a, x, rfl⟩
  · simp only [r_cb, r_acons, r_anil, r_and, r_op2, r_c, r_var, h4, bind_ok, o_gt, List.length_nil]
    rfl
  · have hv : (x.2) ∈ ws := by rw [hx]; simp
    have hv2 := ho _ hv
    have ix : ws[a.length]? = some x.2 := by rw [hx]; simp
    obtain ⟨v, d, hd⟩ : ∃ v d, x.2 = v ++ [d] := by
      rcases List.eq_nil_or_concat x.2 with h | ⟨v, d, h⟩
      · exact absurd h hv2.1
      · exact ⟨v, d, by rw [h, List.concat_eq_append]⟩
    obtain ⟨f, w', rfl⟩ : ∃ f w', w = f :: w' := by
      cases w with
      | nil => exact absurd rfl hw.1
      | cons f w' => exact ⟨f, w', rfl⟩
    have la : ((a.concat x).length : Int) - 1 = ((a.length : Nat) : Int) := by simp
    have lp : decide ((0 : Int) < ((a.concat x).length : Nat)) = true := by simp
    have i1 := hW.ix (ns := ns) (c := c) (k := k) e ix
    have z1 : (S x.2).length ≤ sizeLine := by rw [S_len, sizeLine_eq]; have := hv2.2; omega
    have z2 : (S (f :: w')).length ≤ sizeLine := by rw [S_len, sizeLine_eq]; have := hw.2; omega
    have c1 : ∀ m, cutM (wdW x.2) (some (-1)) none m = .ok (.p (.str (S [d]))) m := fun m => by
      show (if (S x.2).length ≤ sizeLine then (.ok (.p (.str (cutS (S x.2) (some (-1)) none))) m : Res W) else .stuck) = _
      rw [if_pos z1, hd, cutS_last]
    have c2 : ∀ m, cutM (wdW (f :: w')) none (some 1) m = .ok (.p (.str (S [f]))) m := fun m => by
      show (if (S (f :: w')).length ≤ sizeLine then (.ok (.p (.str (cutS (S (f :: w')) none (some 1)))) m : Res W) else .stuck) = _
      rw [if_pos z2, cutS_head]
    have nd : need (a.concat x) (f :: w') = (isDg d && isDg f) := by
      simp [need, ldg, hdg, hd]
    simp only [r_cb, r_acons, r_anil, r_and, r_op2, r_op1, r_c, r_cut, r_some, r_none, r_var, h1, h4, h5, bind_ok, o_gt, o_sub, la, lp, if_true, i1, o_neg1, c1, c2, o_in1, dg_of, nd]
    cases isDg d <;> cases isDg f <;> rfl
def laidI (W0 : W) (r : Hm) (l : List WI) : Ev := [some (.loc 0), some W0, some (.p (.str (S (chs0 l)))), some (.loc (r.length + 1)), none, none, none]
def laidM (ns : List Int) (c k : Int) (r : Hm) (l : List WI) : Hm := strm ns c k :: (r ++ [.lst (((plc 0 l).map PyData.int).map .p)])
theorem laid_body {W0 : W} {ws : List (List Nat)} {r : Hm} {ns : List Int} {c : Int} {k : Nat} {pre : List WI} {w : List Nat} (hW : WL W0 ws r) (hx : ∃ post, ws = pre.map (·.2) ++ w :: post) (ho : ∀ v ∈ ws, okWd v) (hl : ws.length ≤ 60) (hp : ∀ x ∈ pre, x.1 ≤ 3) :
    ∃ (b : Nat) (c' : Int) (k' : Nat), b ≤ 3 ∧ (need pre w = true → 1 ≤ b) ∧ L1__law_laid [some (.loc 0), some W0, some (.p (.str (S (chs0 pre)))), some (.loc (r.length + 1)), some (.p (.int ((pre.length : Nat) : Int))), some (wdW w), none] (laidM ns c k r pre) = some (.nx (laidI W0 r (pre ++ [(b, w)])), laidM ns c' k' r (pre ++ [(b, w)])) := by
  have hw : okWd w := ho w (by obtain ⟨post, hx⟩ := hx; rw [hx]; simp)
  have hpl : pre.length ≤ 60 := by
    obtain ⟨post, hx⟩ := hx
    have := congrArg List.length hx
    simp at this
    omega
  have lc : (chs0 pre).length ≤ 600 := by
    have := chs0_len pre fun x hx' => ⟨hp x hx', by
      obtain ⟨post, hx⟩ := hx
      exact (ho x.2 (by rw [hx]; exact List.mem_append_left _ (List.mem_map_of_mem hx'))).2⟩
    omega
  have e6 := q_near (e := [.lst (((plc 0 pre).map PyData.int).map .p)]) (ns := ns) (c := c) (k := (k : Int)) (s := [some (.loc 0), some W0, some (.p (.str (S (chs0 pre)))), some (.loc (r.length + 1)), some (.p (.int ((pre.length : Nat) : Int))), some (wdW w), none]) hW hx ho rfl rfl rfl
  obtain ⟨d, c', k', en, d0, d4⟩ := q_next (ns := ns) (c := c) (k := k) (r := r ++ [.lst (((plc 0 pre).map PyData.int).map .p)]) (many := 4) (by omega) (by omega)
  obtain ⟨nr, hnr⟩ : ∃ nr : Int, (if need pre w = true then (1 : Int) else 0) = nr := ⟨_, rfl⟩
  have nr01 : (nr = 0 ∨ nr = 1) ∧ (need pre w = true → nr = 1) := by
    rw [← hnr]
    cases need pre w <;> simp
  obtain ⟨x, hx2⟩ : ∃ x : Int, (if d > nr then d else nr) = x := ⟨_, rfl⟩
  have x0 : 0 ≤ x ∧ x < 4 ∧ nr ≤ x := by rw [← hx2]; split <;> omega
  rw [hnr] at e6
  have i4 := bl4 x0.1 x0.2.1
  refine ⟨x.toNat, c', k', by omega, fun h => by have := nr01.2 h; omega, ?_⟩
  have ez0 : (0 + 1 + 1 + 1 + 1 ≤ sizeLine) = True := by simp [sizeLine_eq]
  have al : ∀ ds : List PyData, allP (ds.map .p) = some ds := allP_map
  have i5 : ∀ m, idxM (.p (.list [.str "", .str " ", .str "  ", .str "   "])) (.p (.int x)) m = .ok (.p (.str (S (bl x.toNat)))) m := fun m => by rw [o_ixL, i4]
  have mx : ∀ m, maxM [.p (.int nr), .p (.int d)] m = .ok (.p (.int x)) m := fun m => by rw [maxM, hx2]
  have lb : (bl x.toNat).length ≤ 3 := by simp [bl]; omega
  unfold L1__law_laid
  rw [← nearE]
  show sTidy _ _ _ (strm ns c k :: (r ++ _)) = _
  rw [q_tidy, q_seq, q_set, e6]
  simp only [st_ok, List.set]
  have er : ∀ s : Ev, s[0]? = some (some (.loc 0)) → s[2]? = some (some (.p (.str (S (chs0 pre))))) → s[6]? = some (some (.p (.int nr))) → (eOp2 addX (eVar 2) (eOp2 idxM (eLst (aCons (eC (.str "")) (aCons (eC (.str " ")) (aCons (eC (.str "  ")) (aCons (eC (.str "   ")) aNil))))) (eCB maxM (aCons (eVar 6) (aCons (eCall 2 F__law_next (aCons (eVar 0) (aCons (eC (.int 4)) aNil))) aNil))))) s (strm ns c k :: (r ++ [.lst (((plc 0 pre).map PyData.int).map .p)])) = .ok (.p (.str (S (chs0 pre ++ bl x.toNat)))) (strm ns c' k' :: (r ++ [.lst (((plc 0 pre).map PyData.int).map .p)])) := fun s h0 h2 h6 => by
    simp only [r_op2, r_cb, r_call, r_acons, r_anil, r_c, r_var, r_lst, h0, h2, h6, bind_ok, List.length_cons, List.length_nil, ez0, if_true, decide_true]
    rw [show allP [W.p (.str ""), .p (.str " "), .p (.str "  "), .p (.str "   ")] = some [.str "", .str " ", .str "  ", .str "   "] from rfl]
    dsimp only
    simp only [bind_ok]
    rw [en]
    simp only [bind_ok, mx, i5]
    rw [o_addXs (by rw [S_len, S_len]; omega), S_app]
  rw [q_seq, q_set, er _ rfl rfl rfl]
  simp only [st_ok, List.set]
  have at3 : (strm ns c' k' :: (r ++ [Cell.lst (((plc 0 pre).map PyData.int).map .p)]))[r.length + 1]? = some (.lst (((plc 0 pre).map PyData.int).map .p)) := by simp
  have ap : appendM (.loc (r.length + 1)) [.p (.int (((chs0 pre ++ bl x.toNat).length : Nat) + 1))] (strm ns c' k' :: (r ++ [Cell.lst (((plc 0 pre).map PyData.int).map .p)])) = .ok (.p .none) (laidM ns c' k' r (pre ++ [(x.toNat, w)])) := by
    rw [o_append at3 (by simp [plc_len]; omega)]
    congr 1
    unfold laidM
    rw [plc_snoc]
    simp [bl]
  rw [q_seq, q_expr, r_lm]
  simp only [r_var, List.getElem?_cons_succ, List.getElem?_cons_zero, bind_ok, lstAt_loc at3, if_true, r_acons, r_anil, r_op2, r_cb, r_c, o_lenS (show (chs0 pre ++ bl x.toNat).length ≤ 16777216 by simp; omega), addX, lstD, o_add, ap, st_ok]
  rw [q_set]
  simp only [r_op2, r_var, List.getElem?_cons_succ, List.getElem?_cons_zero, bind_ok, wdW]
  rw [o_addXs (by rw [S_len, S_len]; have := hw.2; simp; omega), S_app]
  simp only [st_ok, List.set]
  rw [tidy_len (by simp [laidM])]
  simp only [laidI, chs0_snoc]
  rfl
theorem q_laid {W0 : W} {ws : List (List Nat)} {r : Hm} {ns : List Int} {c : Int} {k : Nat} (hW : WL W0 ws r) (ho : ∀ v ∈ ws, okWd v) (hl : ws.length ≤ 60) (hr : ∀ (c : Int) (k : Nat), okM (strm ns c k :: r).length (strm ns c k :: r) = true) :
    ∃ (l : List WI) (t : Nat) (c' : Int) (k' : Nat), l.map (·.2) = ws ∧ nearOk l ∧ (∀ x ∈ l, x.1 ≤ 3) ∧ t ≤ 2 ∧ F__law_laid [.loc 0, W0] (strm ns c k :: r) = .ok (.p (.tuple [.str (S (chs0 l ++ bl t)), .list ((plc 0 l ++ [(((chs0 l).length + t + 1 : Nat) : Int)]).map .int)])) (strm ns c' k' :: r) := by
  obtain ⟨gs, hs⟩ := hW.src (ns := ns)
  have key := for_ex (gs := gs) (t := .t [.n 4, .n 5]) (body := L1__law_laid) (e := fun p : List Nat × Nat => mkTup [.p (.int (p.2 : Nat)), wdW p.1]) (xs := ws.zipIdx) (s := laidI W0 r []) (m := laidM ns c k r [])
    (fun pre s m => ∃ (l : List WI) (c : Int) (k : Nat), l.map (·.2) = pre.map (·.1) ∧ nearOk l ∧ (∀ x ∈ l, x.1 ≤ 3) ∧ s = laidI W0 r l ∧ m = laidM ns c k r l)
    (by
      rintro pre s m ⟨l, c, k, _, _, _, _, rfl⟩
      exact (hs c k _).2)
    (by
      rintro pre ⟨w, i⟩ post s m hx ⟨l, c, k, h1, h2, h3, rfl, rfl⟩
      obtain ⟨z1, z2⟩ := zip_at hx
      have lp : l.length = pre.length := by have := congrArg List.length h1; simpa using this
      have z1 : i = l.length := by rw [lp]; exact z1
      subst z1
      have z2 : ws = l.map (·.2) ++ w :: post.map (·.1) := by rw [h1]; exact z2
      obtain ⟨b, c', k', b3, hb, he⟩ := laid_body (ns := ns) (c := c) (k := k) (pre := l) (w := w) hW ⟨_, z2⟩ ho hl h3
      refine ⟨_, rfl, _, _, he, l ++ [(b, w)], c', k', by simp [h1], near_snoc h2 fun a y e hy hd => hb (by rw [e]; simp [need]; exact ⟨hy, hd⟩), fun y hy => ?_, rfl, rfl⟩
      rcases List.mem_append.mp hy with hy | hy
      · exact h3 y hy
      · simp at hy; subst hy; exact b3)
    ⟨[], c, k, rfl, fun a x y c e => by simp at e, fun x hx => (nomatch hx), rfl, rfl⟩
  rw [← num_zip wdW ws 0] at key
  obtain ⟨s', m', hf, l, c1, k1, h1, h2, h3, rfl, rfl⟩ := key
  have h1 : l.map (·.2) = ws := by rw [h1, List.zipIdx_map_fst]
  obtain ⟨d, c', k', en, d0, d3⟩ := q_next (ns := ns) (c := c1) (k := k1) (r := r ++ [.lst (((plc 0 l).map PyData.int).map .p)]) (many := 3) (by omega) (by omega)
  have ll : l.length = ws.length := by rw [← h1]; simp
  have lc : (chs0 l).length ≤ 600 := by
    have := chs0_len l fun x hx' => ⟨h3 x hx', (ho x.2 (by rw [← h1]; exact List.mem_map_of_mem hx')).2⟩
    omega
  have i3 := bl3 d0 d3
  refine ⟨l, d.toNat, c', k', h1, h2, h3, by omega, ?_⟩
  have ez0 : (0 + 1 + 1 + 1 ≤ sizeLine) = True := by simp [sizeLine_eq]
  have ez1 : (0 + 1 ≤ sizeLine) = True := by simp [sizeLine_eq]
  have ez2 : (0 + 1 + 1 ≤ sizeLine) = True := by simp [sizeLine_eq]
  have ez : (0 ≤ sizeLine) = True := by simp
  have i5 : ∀ m, idxM (.p (.list [.str "", .str " ", .str "  "])) (.p (.int d)) m = .ok (.p (.str (S (bl d.toNat)))) m := fun m => by rw [o_ixL, i3]
  have lb : (bl d.toNat).length ≤ 2 := by simp [bl]; omega
  unfold F__law_laid mkFn m__law_laid
  change retE true _ (sSeq _ _ [some (.loc 0), some W0, none, none, none, none, none] (strm ns c k :: r)) = _
  rw [q_seq, q_set, r_c]
  simp only [st_ok, List.set]
  rw [q_seq, q_set, r_lstL, r_anil]
  simp only [bind_ok, List.length_nil, ez, if_true, st_ok, List.set]
  have e0 : ([some (.loc 0), some W0, some (.p (.str "")), some (.loc (strm ns c k :: r).length), none, none, none] : Ev) = laidI W0 r [] := by
    have : ("" : Str) = S [] := by decide +kernel
    rw [this]; rfl
  rw [e0]
  have em : (strm ns c k :: r) ++ [.lst []] = laidM ns c k r [] := rfl
  rw [em]
  have esrc : iEn (eVar 1) (laidI W0 r []) (laidM ns c k r []) = .ok ⟨numbered 0 (ws.map wdW), gs⟩ (laidM ns c k r []) := by
    have e1 : eVar 1 (laidI W0 r []) (laidM ns c k r []) = .ok W0 (laidM ns c k r []) := rfl
    unfold iEn
    rw [e1]
    simp only [bind_ok, hW.isL, if_true]
    rw [show laidM ns c k r [] = strm ns c k :: (r ++ _) from rfl, (hs c k _).1]
    rfl
  rw [q_seq, q_for, esrc]
  simp only [st_ok]
  rw [hf]
  dsimp only
  have er : ∀ s : Ev, s[0]? = some (some (.loc 0)) → s[2]? = some (some (.p (.str (S (chs0 l))))) → (eOp2 addX (eVar 2) (eOp2 idxM (eLst (aCons (eC (.str "")) (aCons (eC (.str " ")) (aCons (eC (.str "  ")) aNil)))) (eCall 2 F__law_next (aCons (eVar 0) (aCons (eC (.int 3)) aNil))))) s (laidM ns c1 k1 r l) = .ok (.p (.str (S (chs0 l ++ bl d.toNat)))) (laidM ns c' k' r l) := fun s h0 h2 => by
    simp only [r_op2, r_cb, r_call, r_acons, r_anil, r_c, r_var, r_lst, h0, h2, bind_ok, List.length_cons, List.length_nil, ez0, if_true, decide_true]
    rw [show allP [W.p (.str ""), .p (.str " "), .p (.str "  ")] = some [.str "", .str " ", .str "  "] from rfl]
    dsimp only
    simp only [bind_ok]
    unfold laidM
    rw [en]
    simp only [bind_ok, i5]
    rw [o_addXs (by rw [S_len, S_len]; omega), S_app]
  rw [q_seq, q_set, er _ rfl rfl]
  simp only [st_ok]
  have at3 : (laidM ns c' k' r l)[r.length + 1]? = some (.lst (((plc 0 l).map PyData.int).map .p)) := by simp [laidM]
  have ax : addX (.loc (r.length + 1)) (.p (.list [.int ((chs0 l ++ bl d.toNat).length + 1)])) (laidM ns c' k' r l) = .ok (.p (.list ((plc 0 l ++ [(((chs0 l).length + d.toNat + 1 : Nat) : Int)]).map .int))) (laidM ns c' k' r l) := by
    have z : ((plc 0 l).map PyData.int).length + [PyData.int ((chs0 l ++ bl d.toNat).length + 1)].length ≤ sizeLine := by
      rw [sizeLine_eq, List.length_map, plc_len]; simp; omega
    unfold addX
    simp only [lstD, at3, allP_map]
    rw [if_pos z]
    simp [bl]
  rw [q_ret]
  simp only [laidI, List.set, r_tup, r_acons, r_anil, r_op2, r_cb, r_lst, r_c, r_var, List.getElem?_cons_succ, List.getElem?_cons_zero, bind_ok, o_lenS (show (chs0 l ++ bl d.toNat).length ≤ 16777216 by simp; omega), o_addXi, List.length_cons, List.length_nil, ez1, ez2, if_true]
  rw [show ∀ x, allP [W.p x] = some [x] from fun _ => rfl]
  simp only [bind_ok]
  rw [ax]
  simp only [bind_ok, List.length_cons, List.length_nil, ez2, if_true, st_ok, ret_rt]
  exact end_p (m := strm ns c' k' :: r) rfl (hr c' k')
end Mir.K68

namespace Mir.K68
open PySem PySem.Spec PyProof.Rows L2
/-! ### the law's own table -/
def stn : Q → Str
  | .g0 => "" | .gv => "values" | .gs => "scope" | .ge => "edges" | .gf => "from" | .gt => "to" | .gb => "behind" | .gn => "next"
  | .t0 => "" | .tr => "row" | .tc => "cost" | .td => "done"
def gQ : Q → Bool
  | .t0 => false | .tr => false | .tc => false | .td => false | _ => true
def kn : Kd → Str
  | .num => "number"
  | .sg c => S [c]
  | .fin => "end"
/-- where it goes, in names -/
def toN (q : Q) (k : Kd) : Option Str := if k = .fin then (if fine q = true then some "z" else none) else (step q k).map stn
def inS : Q → List (Str × Str)
  | .g0 => [("number", "values")]
  | .gv => [(":", "scope")]
  | .gs => [("number", "scope"), (",", "scope"), (";", "edges")]
  | .ge => [("number", "from"), ("end", "z")]
  | .gf => [("-", "to")]
  | .gt => [("number", "behind")]
  | .gb => [(",", "next"), ("end", "z")]
  | .gn => [("number", "from")]
  | .t0 => [("number", "row"), ("=", "cost"), (";", ""), ("end", "z")]
  | .tr => [("number", "row"), ("=", "cost")]
  | .tc => [("number", "done")]
  | .td => [(",", "row"), (";", ""), ("end", "z")]
def inW (q : Q) : List (Key × W) := (inS q).map fun p => (.inr p.1, .p (.str p.2))
def qs (g : Bool) : List Q := if g = true then [.g0, .gv, .gs, .ge, .gf, .gt, .gb, .gn] else [.t0, .tr, .tc, .td]
def ouW (g : Bool) : List (Key × W) := (qs g).zipIdx.map fun p => (.inr (stn p.1), .loc (p.2 + 2))
def TAB (g : Bool) : Hm := .dct (ouW g) :: (qs g).map fun q => .dct (inW q)
def locQ : Q → Nat
  | .g0 => 2 | .gv => 3 | .gs => 4 | .ge => 5 | .gf => 6 | .gt => 7 | .gb => 8 | .gn => 9
  | .t0 => 2 | .tr => 3 | .tc => 4 | .td => 5
theorem tab_of (g : Bool) (ns : List Int) (c k : Int) : F__law_table_of [.p (.str (kW g))] [strm ns c k] = .ok (.loc 1) (strm ns c k :: TAB g) := by
  cases g <;> kernel_rfl
theorem ou_at (q : Q) : getW (ouW (gQ q)) (.inr (stn q)) = some (.loc (locQ q)) := by cases q <;> kernel_rfl
theorem in_at (q : Q) (c : Cell) (e : Hm) : (c :: (TAB (gQ q) ++ e))[locQ q]? = some (.dct (inW q)) := by cases q <;> rfl
theorem in_get (q : Q) (k : Kd) (hk : k ∈ ordK) : getW (inW q) (.inr (kn k)) = (toN q k).map fun x => .p (.str x) := by
  simp only [ordK, List.mem_cons, List.not_mem_nil, or_false] at hk
  rcases hk with rfl | rfl | rfl | rfl | rfl | rfl | rfl <;> cases q <;> kernel_rfl
theorem toN_can (q : Q) (k : Kd) : (toN q k).isSome = can q k := by
  unfold toN can
  split
  · cases fine q <;> rfl
  · cases step q k <;> rfl
section
variable {q : Q} {k : Kd} {x : Cell} {e : Hm} {s : Ev} {a b : EX W}
theorem t_ou : dctAt (.loc 1) (x :: (TAB (gQ q) ++ e)) = some (ouW (gQ q)) := rfl
theorem t_in : dctAt (.loc (locQ q)) (x :: (TAB (gQ q) ++ e)) = some (inW q) := by
  unfold dctAt
  simp only [in_at]
theorem e_state (h1 : a s (x :: (TAB (gQ q) ++ e)) = .ok (.loc 1) (x :: (TAB (gQ q) ++ e))) (h2 : b s (x :: (TAB (gQ q) ++ e)) = .ok (.p (.str (stn q))) (x :: (TAB (gQ q) ++ e))) : eDGet a b s (x :: (TAB (gQ q) ++ e)) = .ok (.loc (locQ q)) (x :: (TAB (gQ q) ++ e)) := by
  unfold eDGet
  rw [h1, bind_ok, h2, bind_ok, t_ou]
  simp only [keyW, keyP, ou_at]
theorem e_go {n : Str} (hk : k ∈ ordK) (hn : toN q k = some n) (h1 : a s (x :: (TAB (gQ q) ++ e)) = .ok (.loc (locQ q)) (x :: (TAB (gQ q) ++ e))) (h2 : b s (x :: (TAB (gQ q) ++ e)) = .ok (.p (.str (kn k))) (x :: (TAB (gQ q) ++ e))) : eDGet a b s (x :: (TAB (gQ q) ++ e)) = .ok (.p (.str n)) (x :: (TAB (gQ q) ++ e)) := by
  unfold eDGet
  rw [h1, bind_ok, h2, bind_ok, t_in]
  simp only [keyW, keyP, in_get q k hk, hn, Option.map_some]
theorem e_in (hk : k ∈ ordK) (h1 : a s (x :: (TAB (gQ q) ++ e)) = .ok (.p (.str (kn k))) (x :: (TAB (gQ q) ++ e))) (h2 : b s (x :: (TAB (gQ q) ++ e)) = .ok (.loc (locQ q)) (x :: (TAB (gQ q) ++ e))) : eDIn false a b s (x :: (TAB (gQ q) ++ e)) = .ok (.p (.bool (can q k))) (x :: (TAB (gQ q) ++ e)) := by
  unfold eDIn
  rw [h1, bind_ok, h2, bind_ok, t_in]
  simp only [keyW, keyP, in_get q k hk, ← toN_can]
  cases toN q k <;> rfl
end
def knD (k : Kd) : PyData := .str (kn k)
theorem kinds_eq : ([.str "number", .str ":", .str ",", .str ";", .str "-", .str "=", .str "end"] : List PyData) = ordK.map knD := by kernel_rfl
theorem q_kinds {m : Hm} : F__law_kinds [] m = .ok (.p (.list (ordK.map knD))) m := by
  unfold F__law_kinds mkFn m__law_kinds
  have ez : (0 + 1 + 1 + 1 + 1 + 1 + 1 + 1 ≤ sizeLine) = True := by simp [sizeLine_eq]
  simp only [startE, List.length_nil, List.map_nil, decide_true, if_true, q_ret, r_lst, r_acons, r_anil, r_c, bind_ok, List.length_cons, ez, allP_cons, allP_nil, Option.map]
  rw [kinds_eq]
  simp only [st_ok, ret_rt, endFn_p]
theorem e_kinds {s : Ev} {m : Hm} : eCall0 F__law_kinds s m = .ok (.p (.list (ordK.map knD))) m := by
  unfold eCall0
  rw [q_kinds]
theorem q_lshown {k : Kd} {m : Hm} (hk : k ∈ ordK) (hm : okM m.length m = true) : F__law_shown [.p (knD k)] m = .ok (.p (shD k)) m := by
  have d' : ∀ s, eDisp [((eC (.str "number")), (eC (.str "a number"))), ((eC (.str "end")), (eC (.str "the end")))] s m = .ok (.loc m.length) (m ++ [.dct kdd]) := fun s =>
    disp_of (l := kdd) (e := []) rfl (by decide) (by decide +kernel)
  have g : dctAt (.loc m.length) (m ++ [.dct kdd]) = some kdd := by simp [dctAt]
  have qd : ∀ n, kn k = S n → n.length ≤ 10 → (eOp2 addM (eOp2 addM (eC (.str "\"")) (eVar 0)) (eC (.str "\""))) [some (.p (knD k))] (m ++ [.dct kdd]) = .ok (.p (.str (S ([34] ++ n ++ [34])))) (m ++ [.dct kdd]) := fun n hn hl => by
    simp only [r_op2, r_c, r_var, List.getElem?_cons_zero, bind_ok, knD, hn, str_q]
    rw [o_addS (by simp; omega), bind_ok, o_addS (by simp; omega)]
  obtain ⟨n, hn, hl⟩ : ∃ n, kn k = S n ∧ n.length ≤ 10 := by
    simp only [ordK, List.mem_cons, List.not_mem_nil, or_false] at hk
    rcases hk with rfl | rfl | rfl | rfl | rfl | rfl | rfl
    · exact ⟨[110, 117, 109, 98, 101, 114], by decide +kernel, by decide⟩
    · exact ⟨_, rfl, by decide⟩
    · exact ⟨_, rfl, by decide⟩
    · exact ⟨_, rfl, by decide⟩
    · exact ⟨_, rfl, by decide⟩
    · exact ⟨_, rfl, by decide⟩
    · exact ⟨[101, 110, 100], by decide +kernel, by decide⟩
  have fin : ((getW kdd (.inr (kn k))).getD (.p (.str (S ([34] ++ n ++ [34]))))) = .p (shD k) := by
    simp only [ordK, List.mem_cons, List.not_mem_nil, or_false] at hk
    rcases hk with rfl | rfl | rfl | rfl | rfl | rfl | rfl
    · kernel_rfl
    · have : n = [58] := (S_inj hn).symm
      subst this; kernel_rfl
    · have : n = [44] := (S_inj hn).symm
      subst this; kernel_rfl
    · have : n = [59] := (S_inj hn).symm
      subst this; kernel_rfl
    · have : n = [45] := (S_inj hn).symm
      subst this; kernel_rfl
    · have : n = [61] := (S_inj hn).symm
      subst this; kernel_rfl
    · kernel_rfl
  unfold F__law_shown mkFn m__law_shown
  change retE true m.length (sRet _ [some (.p (knD k))] m) = _
  rw [q_ret]
  unfold eDGet2
  rw [d']
  simp only [bind_ok, g, Option.isSome_some, if_true, r_var, List.getElem?_cons_zero]
  rw [qd n hn hl]
  simp only [bind_ok, g, knD, keyW, keyP, fin, st_ok, ret_rt]
  exact end_p rfl hm
/-- what is due -/
theorem q_ldue {q : Q} {x : Cell} {e : Hm} (hm : okM (x :: (TAB (gQ q) ++ e)).length (x :: (TAB (gQ q) ++ e)) = true) : F__law_due [.loc 1, .p (.str (stn q))] (x :: (TAB (gQ q) ++ e)) = .ok (.p (.list ((dueK q).map shD))) (x :: (TAB (gQ q) ++ e)) := by
  unfold F__law_due mkFn m__law_due C1__law_due
  change retE true (x :: (TAB (gQ q) ++ e)).length (sRet _ [some (.loc 1), some (.p (.str (stn q))), none] (x :: (TAB (gQ q) ++ e))) = _
  rw [q_ret]
  rw [lc_data ordK (fun k => .p (knD k)) (can q) shD (gs := []) (by
    have : eCall0 F__law_kinds [some (.loc 1), some (.p (.str (stn q))), none] (x :: (TAB (gQ q) ++ e)) = .ok (.p (.list (ordK.map knD))) (x :: (TAB (gQ q) ++ e)) := e_kinds
    simp only [r_iseq, this, bind_ok]
    rw [srcOf_l, List.map_map]
    rfl) rfl (by decide) fun k hk => ⟨_, rfl, by
      have h1 : eDGet (eVar 0) (eVar 1) [some (.loc 1), some (.p (.str (stn q))), some (.p (knD k))] (x :: (TAB (gQ q) ++ e)) = .ok (.loc (locQ q)) (x :: (TAB (gQ q) ++ e)) := e_state rfl rfl
      have h2 : eDIn false (eVar 2) (eDGet (eVar 0) (eVar 1)) [some (.loc 1), some (.p (.str (stn q))), some (.p (knD k))] (x :: (TAB (gQ q) ++ e)) = _ := e_in hk rfl h1
      simp only [r_bval, wipeE, List.set]
      rw [h2]
      simp only [bind_ok, r_boolOf], fun _ => by
      have h3 := q_lshown (m := x :: (TAB (gQ q) ++ e)) hk hm
      simp only [r_call, r_acons, r_anil, r_var, wipeE, List.set, List.getElem?_cons_succ, List.getElem?_cons_zero, bind_ok, List.length_cons, List.length_nil, decide_true, if_true]
      exact h3⟩]
  simp only [st_ok, ret_rt, endFn_p]
  rfl
/-! ### the words of a number -/
theorem numS : ([.str "0", .str "1", .str "3", .str "9", .str "000002"] : List PyData) = numW.map fun w => .str (S w) := by kernel_rfl
theorem q_token {k : Kd} {ns : List Int} {c : Int} {j : Nat} {r : Hm} (hk : k ∈ ordK) (hf : k ≠ .fin) : ∃ (w : List Nat) (c' : Int) (j' : Nat), (k = .num → w ∈ numW) ∧ (∀ d, k = .sg d → w = [d]) ∧ F__law_token [.loc 0, .p (knD k)] (strm ns c j :: r) = .ok (.p (.str (S w))) (strm ns c' j' :: r) := by
  unfold F__law_token mkFn m__law_token
  have z : PySem.PyData.strOk ("number" : Str) = true := by decide +kernel
  have zk : PySem.PyData.strOk (kn k) = true := by
    simp only [ordK, List.mem_cons, List.not_mem_nil, or_false] at hk
    rcases hk with rfl | rfl | rfl | rfl | rfl | rfl | rfl <;> decide +kernel
  have c1 : (bVal (eOp2 (eqM false) (eVar 1) (eC (.str "number")))) [some (.loc 0), some (.p (knD k))] (strm ns c j :: r) = .ok (decide (k = .num)) (strm ns c j :: r) := by
    simp only [r_bval, r_op2, r_var, r_c, List.getElem?_cons_succ, List.getElem?_cons_zero, bind_ok, knD]
    rw [o_eqS zk z]
    simp only [bind_ok, r_boolOf]
    congr 1
    simp only [ordK, List.mem_cons, List.not_mem_nil, or_false] at hk
    rcases hk with rfl | rfl | rfl | rfl | rfl | rfl | rfl <;> decide +kernel
  have go : ∀ R, retE true (r.length + 1) (sRet (eIf (bVal (eOp2 (eqM false) (eVar 1) (eC (.str "number")))) (eCall 2 F__law_pick (aCons (eVar 0) (aCons (eLst (aCons (eC (.str "0")) (aCons (eC (.str "1")) (aCons (eC (.str "3")) (aCons (eC (.str "9")) (aCons (eC (.str "000002")) aNil)))))) aNil))) (eVar 1)) [some (.loc 0), some (.p (knD k))] (strm ns c j :: r)) = R → (if decide (([.loc 0, .p (knD k)] : List W).length = 2) = true then retE true (strm ns c j :: r).length (sRet (eIf (bVal (eOp2 (eqM false) (eVar 1) (eC (.str "number")))) (eCall 2 F__law_pick (aCons (eVar 0) (aCons (eLst (aCons (eC (.str "0")) (aCons (eC (.str "1")) (aCons (eC (.str "3")) (aCons (eC (.str "9")) (aCons (eC (.str "000002")) aNil)))))) aNil))) (eVar 1)) (startE 2 [.loc 0, .p (knD k)]) (strm ns c j :: r)) else .stuck) = R := fun R h => h
  cases k with
  | num =>
    obtain ⟨x, hx, c', j', hp⟩ := q_pick (w := .p (.list (numW.map fun w => .str (S w)))) (ns := ns) (c := c) (k := j) (r := r) (.inr rfl) (by decide) (by decide)
    obtain ⟨w, hw, rfl⟩ := List.mem_map.mp hx
    refine ⟨w, c', j', fun _ => hw, fun d h => (nomatch h), go _ ?_⟩
    have ez : (0 + 1 + 1 + 1 + 1 + 1 ≤ sizeLine) = True := by simp [sizeLine_eq]
    rw [q_ret, r_if, c1]
    simp only [bind_ok, decide_true, if_true, r_call, r_lst, r_acons, r_anil, r_c, r_var, List.getElem?_cons_succ, List.getElem?_cons_zero, List.length_cons, List.length_nil, ez, allP_cons, allP_nil, Option.map]
    rw [numS, hp]
    simp only [st_ok, ret_rt]
    exact endFn_len rfl
  | sg d =>
    refine ⟨[d], c, j, fun h => (nomatch h), fun d' h => by cases h; rfl, go _ ?_⟩
    rw [q_ret, r_if, c1]
    simp only [bind_ok, decide_false, Bool.false_eq_true, if_false, r_var, List.getElem?_cons_succ, List.getElem?_cons_zero]
    exact endFn_len rfl
  | fin => exact absurd rfl hf
end Mir.K68

namespace Mir.K68
open PySem PySem.Spec PyProof.Rows L2
/-! ### walks over the grammar -/
abbrev KW := Kd × List Nat
def wdOk (x : KW) : Prop := (x.1 = .num → x.2 ∈ numW) ∧ (∀ d, x.1 = .sg d → x.2 = [d] ∧ d ∈ sgs) ∧ x.1 ≠ .fin
def walk : Q → List KW → Option Q
  | q, [] => some q
  | q, x :: r => match step q x.1 with
    | some q' => walk q' r
    | none => none
theorem walk_app : ∀ {a b : List KW} {q q' : Q}, walk q a = some q' → walk q (a ++ b) = walk q' b
  | [], b, q, q', h => by cases h; rfl
  | x :: a, b, q, q', h => by
    unfold walk at h
    rw [List.cons_append]
    rw [walk]
    cases e : step q x.1 with
    | none => rw [e] at h; cases h
    | some q1 => rw [e] at h; exact walk_app (a := a) h
theorem walk_snoc {a : List KW} {x : KW} {q q' q'' : Q} (h : walk q a = some q') (h2 : step q' x.1 = some q'') : walk q (a ++ [x]) = some q'' := by
  rw [walk_app h, walk, h2]; rfl
theorem step_g {q q' : Q} {k : Kd} (h : step q k = some q') : gQ q' = gQ q := by
  unfold step at h
  split at h <;> first | (cases h; rfl) | cases h
theorem walk_g : ∀ {a : List KW} {q q' : Q}, walk q a = some q' → gQ q' = gQ q
  | [], q, q', h => by cases h; rfl
  | x :: a, q, q', h => by
    unfold walk at h
    cases e : step q x.1 with
    | none => rw [e] at h; cases h
    | some q1 => rw [e] at h; rw [walk_g (a := a) h, step_g e]
theorem q0_g (g : Bool) : gQ (q0 g) = g := by cases g <;> rfl
theorem numW_dg {w : List Nat} (h : w ∈ numW) : w ≠ [] ∧ (∀ c ∈ w, isDg c = true) ∧ w.length ≤ 6 := by
  simp only [numW, List.mem_cons, List.not_mem_nil, or_false] at h
  rcases h with rfl | rfl | rfl | rfl | rfl <;> decide
theorem wd_it {b : Nat} {x : KW} (h : wdOk x) : itOk (b, x.1, x.2) := by
  obtain ⟨k, w⟩ := x
  cases k with
  | num => exact numW_dg (h.1 rfl)
  | sg d => exact h.2.1 d rfl
  | fin => exact absurd rfl h.2.2
theorem wd_okWd {x : KW} (h : wdOk x) : okWd x.2 := by
  obtain ⟨k, w⟩ := x
  cases k with
  | num => have := numW_dg (h.1 rfl); exact ⟨this.1, by have := this.2.2; omega⟩
  | sg d =>
    have e : w = [d] := (h.2.1 d rfl).1
    subst e
    exact ⟨by simp, by simp⟩
  | fin => exact absurd rfl h.2.2
def dI (i : It) : WI := (i.1, i.2.2)
theorem zip_it : ∀ (l : List WI) (ws : List KW), l.map (·.2) = ws.map (·.2) → ∃ its : List It, its.map dI = l ∧ its.map (·.2) = ws
  | [], [], _ => ⟨[], rfl, rfl⟩
  | [], w :: ws, h => by simp at h
  | x :: l, [], h => by simp at h
  | (b, v) :: l, (k, w) :: ws, h => by
    simp at h
    obtain ⟨its, h1, h2⟩ := zip_it l ws (by simpa using h.2)
    exact ⟨(b, k, w) :: its, by simp [dI, h1, h.1], by simp [h2]⟩
theorem chs_of : ∀ its : List It, chs its = chs0 (its.map dI)
  | [] => rfl
  | (b, k, w) :: r => by simp [chs, chs0, dI, chs_of r]
theorem toks_col : ∀ (its : List It) (p : Nat), (toks p its).map (·.c) = plc p (its.map dI)
  | [], p => rfl
  | (b, k, w) :: r, p => by simp [toks, plc, dI, toks_col r]
def nearK (its : List It) : Prop := ∀ a x y c, its = a ++ x :: y :: c → x.2.1 = .num → y.2.1 = .num → 1 ≤ y.1
theorem sep_of : ∀ (its : List It) (pn : Bool), (∀ i r, its = i :: r → pn = true → i.2.1 = .num → 1 ≤ i.1) → nearK its → sepOk pn its
  | [], _, _, _ => trivial
  | (b, k, w) :: r, pn, h, hn => by
    refine ⟨fun hp hk => h _ _ rfl hp hk, sep_of r _ (fun i r' e hp hk => ?_) fun a x y c e => hn ((b, k, w) :: a) x y c (by rw [e]; rfl)⟩
    exact hn [] (b, k, w) i r' (by rw [e]; rfl) (of_decide_eq_true hp) hk
theorem num_dgs {w : List Nat} (h : w ∈ numW) : ldg w = true ∧ hdg w = true := by
  simp only [numW, List.mem_cons, List.not_mem_nil, or_false] at h
  rcases h with rfl | rfl | rfl | rfl | rfl <;> exact ⟨rfl, rfl⟩
theorem nearK_of {its : List It} (h : nearOk (its.map dI)) (hw : ∀ i ∈ its, wdOk i.2) : nearK its := fun a x y c e hx hy => by
  have mx : x ∈ its := by rw [e]; simp
  have my : y ∈ its := by rw [e]; simp
  have := h (a.map dI) (dI x) (dI y) (c.map dI) (by rw [e]; simp) (num_dgs ((hw x mx).1 hx)).1 (num_dgs ((hw y my).1 hy)).2
  exact this
theorem chs0_b {l : List WI} {ws : List KW} (h : l.map (·.2) = ws.map (·.2)) (hw : ∀ x ∈ ws, wdOk x) (hb : ∀ x ∈ l, x.1 ≤ 3) : (chs0 l).length ≤ 10 * ws.length := by
  have : l.length = ws.length := by have := congrArg List.length h; simpa using this
  rw [← this]
  refine chs0_len l fun x hx => ⟨hb x hx, ?_⟩
  have hm : x.2 ∈ ws.map (·.2) := by rw [← h]; exact List.mem_map_of_mem hx
  obtain ⟨y, hy, e⟩ := List.mem_map.mp hm
  rw [← e]
  exact (wd_okWd (hw y hy)).2
theorem laid_ws {l : List WI} {ws : List KW} {t : Nat} (h : l.map (·.2) = ws.map (·.2)) (hw : ∀ x ∈ ws, wdOk x) (hn : nearOk l) (hb : ∀ x ∈ l, x.1 ≤ 3) (ht : t ≤ 2) (hl : ws.length ≤ 60) :
    ∃ its : List It, its.map dI = l ∧ its.map (·.2) = ws ∧ (∀ i ∈ its, wdOk i.2) ∧ chs its = chs0 l ∧ Txt (S (chs0 l ++ bl t)) (tkL its t) := by
  obtain ⟨its, h1, h2⟩ := zip_it l ws h
  have hi : ∀ i ∈ its, wdOk i.2 := fun i hi => hw i.2 (by rw [← h2]; exact List.mem_map_of_mem hi)
  have hi2 : ∀ i ∈ its, itOk i := fun i hi' => wd_it (b := i.1) (hi i hi')
  have hc : chs its = chs0 l := by rw [chs_of, h1]
  have hs : sepOk false its := sep_of its false (fun i r e hp => by cases hp) (nearK_of (by rw [h1]; exact hn) hi)
  have hle := chs0_b h hw hb
  have ln : its.length = ws.length := by rw [← h2]; simp
  refine ⟨its, h1, h2, hi, hc, ?_, ?_, ?_, ?_, ?_, ?_⟩
  · intro m hm
    have n10 := nl_of its hi2
    rw [hc] at n10
    exact q_check_text (by simp [bl]; omega) (by simp [bl, n10])
  · intro m hm
    have := q_scan (t := t) hi2 hs (by rw [hc]; omega) hm
    rw [hc] at this
    unfold tkL
    rw [hc]
    exact this
  · exact tkL_kOk hi2
  · exact tkL_num fun i hi' hk => (hi i hi').1 hk
  · rw [tkL_len]; omega
  · exact ⟨_, List.mem_append_right _ List.mem_cons_self, rfl⟩
theorem run_cons {st : Bool} {q : Q} {t : Tk} {L : List Tk} : run st q (t :: L) = if t.k = .fin then (if st = true then .ahead (dueK q) else if fine q = true then .fin else .err t.c (dueK q)) else match step q t.k with
    | some q' => run st q' L
    | none => .err t.c (dueK q) := by
  rw [run] <;> rfl
theorem run_w {st : Bool} {R : List Tk} : ∀ {its : List It} {p : Nat} {q q' : Q}, walk q (its.map (·.2)) = some q' → (∀ i ∈ its, wdOk i.2) → run st q (toks p its ++ R) = run st q' R
  | [], p, q, q', h, _ => by cases h; rfl
  | (b, k, w) :: r, p, q, q', h, hi => by
    have hk : k ≠ .fin := (hi _ List.mem_cons_self).2.2
    simp only [List.map_cons] at h
    unfold walk at h
    rw [toks, List.cons_append, run_cons, if_neg hk]
    dsimp only at h ⊢
    cases e : step q k with
    | none => rw [e] at h; cases h
    | some q1 => rw [e] at h; exact run_w (its := r) h fun i hi' => hi i (List.mem_cons_of_mem _ hi')
theorem run_end {st : Bool} {its : List It} {t : Nat} {q q' : Q} (h : walk q (its.map (·.2)) = some q') (hi : ∀ i ∈ its, wdOk i.2) : run st q (tkL its t) = if st = true then .ahead (dueK q') else if fine q' = true then .fin else .err (((chs its).length + t + 1 : Nat) : Int) (dueK q') := by
  unfold tkL
  rw [run_w h hi, run_cons, if_pos rfl]
theorem toks_app : ∀ (a b : List It) (p : Nat), toks p (a ++ b) = toks p a ++ toks (p + (chs a).length) b
  | [], b, p => by simp [toks, chs]
  | (c, k, w) :: a, b, p => by
    simp only [List.cons_append, toks, toks_app a b]
    congr 3
    simp [chs, bl]
    omega
theorem run_off {st : Bool} {its : List It} {i : It} {r : List It} {t : Nat} {q q' : Q} (h : walk q (its.map (·.2)) = some q') (hi : ∀ j ∈ its ++ i :: r, wdOk j.2) (hn : step q' i.2.1 = none) : ∃ c, run st q (tkL (its ++ i :: r) t) = .err c (dueK q') ∧ (plc 0 ((its ++ i :: r).map dI))[its.length]? = some c := by
  obtain ⟨b, k, w⟩ := i
  refine ⟨((0 + (chs its).length + b + 1 : Nat) : Int), ?_, ?_⟩
  · unfold tkL
    rw [toks_app, List.append_assoc, run_w h fun j hj => hi j (List.mem_append_left _ hj)]
    rw [toks, List.cons_append, run_cons]
    have hk : k ≠ .fin := (hi (b, k, w) (by simp)).2.2
    rw [if_neg hk]
    dsimp only at hn ⊢
    rw [hn]
  · rw [← toks_col, toks_app, List.map_append, List.getElem?_append_right (by simp [toks_len])]
    simp [toks_len, toks]
/-! ### what is due, as data -/
theorem due_jn (q : Q) : Jn (dueK q) := by cases q <;> exact ⟨by decide +kernel, by decide +kernel, by decide +kernel, by decide +kernel, by decide +kernel⟩
theorem ew_ok (q : Q) : PySem.PyData.strOk (ew (dueK q)) = true := by cases q <;> decide +kernel
theorem due_deq (q : Q) {n : Nat} : Deq (n + 1) (.list ((dueK q).map shD)) := by
  have h : ∀ k ∈ ordK, PySem.PyData.strOk (shw k) = true := by decide +kernel
  refine .lst ?_ ?_
  · rw [List.length_map]
    have := List.length_filter_le (can q) ordK
    have l7 : ordK.length = 7 := rfl
    unfold dueK
    omega
  · intro d hd
    obtain ⟨k, hk, rfl⟩ := List.mem_map.mp hd
    exact .str (h k (List.mem_filter.mp hk).1)
theorem due_end (q : Q) {m : Hm} : inX (.p (.str "the end")) (.p (.list ((dueK q).map shD))) m = .ok (.p (.bool (fine q))) m := by cases q <;> kernel_rfl
theorem ew_add (q : Q) {m : Hm} : addX (.p (.str "expected ")) (.p (.str (jn (dueK q)))) m = .ok (.p (.str (ew (dueK q)))) m := by
  refine o_addXs ?_
  cases q <;> decide +kernel
theorem tpl_deq {c : Int} {w : Str} {n : Nat} (h : PySem.PyData.strOk w = true) : Deq (n + 1) (tpl c w) := by
  refine .tup (by simp) fun d hd => ?_
  simp at hd
  rcases hd with rfl | rfl
  · exact .int _
  · exact .str h
theorem rdw_ok : ∀ w ∈ rdw, PySem.PyData.strOk (cutS w none (some 9)) = true ∧ cutS w none (some 9) ≠ "expected " ∧ w.length ≤ 100 := by decide +kernel
end Mir.K68

namespace Mir.K68
open PySem PySem.Spec PyProof.Rows L2
/-! ### is_right -/
def hpL (ns : List Int) (c k : Int) (g : Bool) (ws : List KW) : Hm := strm ns c k :: (TAB g ++ [.lst (ws.map fun x => wdW x.2)])
theorem okL {ns : List Int} {c k : Int} {g : Bool} {ws : List KW} : okM (hpL ns c k g ws).length (hpL ns c k g ws) = true := by
  have e : hpL ns c k g ws = (strm ns c k :: TAB g) ++ [.lst (ws.map fun x => wdW x.2)] := rfl
  rw [e]
  refine okM_snoc (by cases g <;> rfl) ?_
  have : (ws.map fun x => wdW x.2) = (ws.map fun x => PyData.str (S x.2)).map .p := by rw [List.map_map]; rfl
  rw [this]
  exact okWs_p _ _
theorem hpL_len {ns : List Int} {c k : Int} {g : Bool} {ws : List KW} : (hpL ns c k g ws).length = (TAB g).length + 2 := by simp [hpL]
theorem WL_l {g : Bool} {ws : List KW} : WL (.loc ((TAB g).length + 1)) (ws.map (·.2)) (TAB g ++ [.lst (ws.map fun x => wdW x.2)]) := by
  refine .inr ⟨_, rfl, ?_⟩
  rw [List.getElem?_append_right (Nat.le_refl _)]
  simp
def lStr (its : List WI) (t : Nat) : Str := S (chs0 its ++ bl t)
def lPls (its : List WI) (t : Nat) : List Int := plc 0 its ++ [(((chs0 its).length + t + 1 : Nat) : Int)]
/-- words laid: a text, its places -/
theorem laid_of {W0 : W} {ns : List Int} {c : Int} {k : Nat} {g : Bool} {ws us : List KW} (hW : WL W0 (us.map (·.2)) (TAB g ++ [.lst (ws.map fun x => wdW x.2)])) (ho : ∀ x ∈ us, okWd x.2) (hl : us.length ≤ 60) :
    ∃ (l : List WI) (t : Nat) (c' : Int) (k' : Nat), l.map (·.2) = us.map (·.2) ∧ nearOk l ∧ (∀ x ∈ l, x.1 ≤ 3) ∧ t ≤ 2 ∧ F__law_laid [.loc 0, W0] (hpL ns c k g ws) = .ok (.p (.tuple [.str (lStr l t), .list ((lPls l t).map .int)])) (hpL ns c' k' g ws) :=
  q_laid (ns := ns) (c := c) (k := k) hW (fun v hv => by
    obtain ⟨x, hx, rfl⟩ := List.mem_map.mp hv
    exact ho x hx) (by simpa using hl) fun c k => okL
section
variable {ns : List Int} {c : Int} {k : Nat} {g : Bool} {ws : List KW} {q : Q}
theorem eq_true {d : PyData} {m : Hm} (h : Deq 4 d) : F__law_equal 5 [.p d, .p d] m = .ok (.p (.bool true)) m := q_equal h
theorem q_is_right (hq : walk (q0 g) ws = some q) (hw : ∀ x ∈ ws, wdOk x) (hl : ws.length ≤ 40) :
    ∃ (c' : Int) (k' : Nat), F__law_is_right [.loc 0, .loc 1, .p (.str (kW g)), .loc ((TAB g).length + 1), .p (.str (stn q))] (hpL ns c k g ws) = .ok (.p (.bool true)) (hpL ns c' k' g ws) := by
  obtain ⟨l, t, c', k', h1, h2, h3, h4, he⟩ := laid_of (ns := ns) (c := c) (k := k) (us := ws) WL_l (fun x hx => wd_okWd (hw x hx)) (by omega)
  obtain ⟨its, i1, i2, i3, i4, tx_⟩ := laid_ws h1 hw h2 h3 h4 (by omega)
  have hg : gQ q = g := by rw [walk_g hq, q0_g]
  have ok1 : okM (hpL ns c' k' g ws).length (hpL ns c' k' g ws) = true := okL
  have r1 := run_end (st := true) (t := t) (by rw [i2]; exact hq) i3
  have r0 := run_end (st := false) (t := t) (by rw [i2]; exact hq) i3
  simp only [Bool.false_eq_true, if_false, if_true] at r1 r0
  have t0 := told0 (g := g) tx_ ok1 r1
  have due : F__law_due [.loc 1, .p (.str (stn q))] (hpL ns c' k' g ws) = .ok (.p (.list ((dueK q).map shD))) (hpL ns c' k' g ws) := by
    have := q_ldue (q := q) (x := strm ns c' k') (e := [.lst (ws.map fun x => wdW x.2)]) (by rw [hg]; exact ok1)
    rw [hg] at this
    exact this
  refine ⟨c', k', ?_⟩
  have lm : (hpL ns c k g ws).length = (hpL ns c' k' g ws).length := by rw [hpL_len, hpL_len]
  obtain ⟨m1, hm1⟩ : ∃ m1, m1 = hpL ns c' k' g ws := ⟨_, rfl⟩
  rw [← hm1] at ok1 t0 due he lm ⊢
  have t0 : F__law_told [.p (.str (lStr l t)), .p (.str (kW g)), .p (.int 0)] m1 = .ok (.p (.list ((dueK q).map shD))) m1 := t0
  obtain ⟨tw, ht⟩ : ∃ tw, F__law_told [.p (.str (lStr l t)), .p (.str (kW g)), .p (.int 1)] m1 = .ok (.p tw) m1 ∧ ((fine q = true ∧ (tw = .list [] ∨ ∃ c w, w ∈ rdw ∧ tw = tpl c w)) ∨ (fine q = false ∧ tw = tpl (((chs0 l).length + t + 1 : Nat) : Int) (ew (dueK q)))) := by
    cases hf : fine q with
    | true =>
      rw [hf] at r0
      simp only [if_true] at r0
      rcases told1f (g := g) tx_ ok1 r0 with h | ⟨c, w, hw', h⟩
      · exact ⟨_, h, .inl ⟨rfl, .inl rfl⟩⟩
      · exact ⟨_, h, .inl ⟨rfl, .inr ⟨c, w, hw', rfl⟩⟩⟩
    | false =>
      rw [hf] at r0
      simp only [Bool.false_eq_true, if_false] at r0
      rw [i4] at r0
      exact ⟨_, told1e (g := g) tx_ ok1 r0, .inr ⟨rfl, rfl⟩⟩
  unfold F__law_is_right mkFn m__law_is_right
  change retE true (hpL ns c k g ws).length (sSeq _ _ [some (.loc 0), some (.loc 1), some (.p (.str (kW g))), some (.loc ((TAB g).length + 1)), some (.p (.str (stn q))), none, none, none, none] (hpL ns c k g ws)) = _
  rw [lm, q_seq, q_put]
  have e1 : eCall 2 F__law_laid (aCons (eVar 0) (aCons (eVar 3) aNil)) [some (.loc 0), some (.loc 1), some (.p (.str (kW g))), some (.loc ((TAB g).length + 1)), some (.p (.str (stn q))), none, none, none, none] (hpL ns c k g ws) = .ok (.p (.tuple [.str (lStr l t), .list ((lPls l t).map .int)])) m1 := he
  rw [e1]
  simp only [st_ok]
  let s1 : Ev := [some (.loc 0), some (.loc 1), some (.p (.str (kW g))), some (.loc ((TAB g).length + 1)), some (.p (.str (stn q))), some (.p (.str (lStr l t))), some (.p (.list ((lPls l t).map .int))), none, none]
  change retE true m1.length (sSeq _ _ s1 m1) = _
  have e2 : eCall 2 F__law_due (aCons (eVar 1) (aCons (eVar 4) aNil)) s1 m1 = .ok (.p (.list ((dueK q).map shD))) m1 := due
  rw [q_seq, q_set, e2]
  simp only [st_ok]
  let s2 : Ev := [some (.loc 0), some (.loc 1), some (.p (.str (kW g))), some (.loc ((TAB g).length + 1)), some (.p (.str (stn q))), some (.p (.str (lStr l t))), some (.p (.list ((lPls l t).map .int))), some (.p (.list ((dueK q).map shD))), none]
  change retE true m1.length (sSeq _ _ s2 m1) = _
  have v5 : s2[5]? = some (some (.p (.str (lStr l t)))) := rfl
  have v2 : s2[2]? = some (some (.p (.str (kW g)))) := rfl
  have v7 : s2[7]? = some (some (.p (.list ((dueK q).map shD)))) := rfl
  have e3 : (bNot (bTru (eCall 2 (F__law_equal 5) (aCons (eCall 3 F__law_told (aCons (eVar 5) (aCons (eVar 2) (aCons (eC (.int 0)) aNil)))) (aCons (eVar 7) aNil))))) s2 m1 = .ok false m1 := by
    simp only [r_bnot, r_btru, r_call, r_acons, r_anil, r_var, r_c, v5, v2, v7, bind_ok, List.length_cons, List.length_nil, decide_true, if_true, t0, eq_true (due_deq q), r_tru, Bool.not_true]
  rw [q_seq, q_if, e3]
  simp only [st_ok, Bool.false_eq_true, if_false, q_skip]
  have e4 : eCall 3 F__law_told (aCons (eVar 5) (aCons (eVar 2) (aCons (eC (.int 1)) aNil))) s2 m1 = .ok (.p tw) m1 := ht.1
  rw [q_seq, q_set, e4]
  simp only [st_ok]
  let s3 : Ev := [some (.loc 0), some (.loc 1), some (.p (.str (kW g))), some (.loc ((TAB g).length + 1)), some (.p (.str (stn q))), some (.p (.str (lStr l t))), some (.p (.list ((lPls l t).map .int))), some (.p (.list ((dueK q).map shD))), some (.p tw)]
  change retE true m1.length (sSeq _ _ s3 m1) = _
  have w7 : s3[7]? = some (some (.p (.list ((dueK q).map shD)))) := rfl
  have w8 : s3[8]? = some (some (.p tw)) := rfl
  have w6 : s3[6]? = some (some (.p (.list ((lPls l t).map .int)))) := rfl
  have e5 : (bVal (eOp2 inX (eC (.str "the end")) (eVar 7))) s3 m1 = .ok (fine q) m1 := by
    simp only [r_bval, r_op2, r_c, r_var, w7, bind_ok, due_end, r_boolOf]
  rw [q_seq, q_if, e5]
  rcases ht.2 with ⟨hf, rfl | ⟨c, w, hw', rfl⟩⟩ | ⟨hf, rfl⟩
  · rw [hf]
    simp only [st_ok, if_true, q_ret, r_or, r_op1, r_var, w8, bind_ok]
    have : isiM "list" (.p (.list [])) m1 = .ok (.p (.bool true)) m1 := by simp [isiM, tyN, isiA]
    rw [this]
    simp only [bind_ok, if_true, st_ok, ret_rt, endFn_p]
  · rw [hf]
    obtain ⟨k1, k2, k3⟩ := rdw_ok w hw'
    have z : w.length ≤ sizeLine := by rw [sizeLine_eq]; omega
    have zx : PySem.PyData.strOk ("expected " : Str) = true := by decide +kernel
    have i0 : isiM "list" (.p (tpl c w)) m1 = .ok (.p (.bool false)) m1 := by simp [isiM, tyN, isiA, tpl]
    have i1 : idxM (.p (tpl c w)) (.p (.int 1)) m1 = .ok (.p (.str w)) m1 := rfl
    have i2 : cutM (.p (.str w)) none (some 9) m1 = .ok (.p (.str (cutS w none (some 9)))) m1 := by
      show (if w.length ≤ sizeLine then (.ok (.p (.str (cutS w none (some 9)))) m1 : Res W) else .stuck) = _
      rw [if_pos z]
    simp only [st_ok, if_true, q_ret, r_or, r_op1, r_op2, r_cut, r_some, r_none, r_c, r_var, w8, bind_ok, i0, i1, i2, Bool.false_eq_true, if_false]
    rw [o_neS k1 zx]
    simp only [k2, decide_false, Bool.not_false, st_ok, ret_rt, endFn_p]
  · rw [hf]
    simp only [st_ok, Bool.false_eq_true, if_false, q_skip]
    have ez : (0 + 1 + 1 ≤ sizeLine) = True := by simp [sizeLine_eq]
    have la : atI ((lPls l t).map PyData.int) (-1) = some (.int (((chs0 l).length + t + 1 : Nat) : Int)) := by
      unfold lPls
      rw [List.map_append]
      exact atI_last _ _
    have tp : mkTup [.p (.int (((chs0 l).length + t + 1 : Nat) : Int)), .p (.str (ew (dueK q)))] = .p (tpl (((chs0 l).length + t + 1 : Nat) : Int) (ew (dueK q))) := rfl
    have hq' : F__law_equal 5 [.p (tpl (((chs0 l).length + t + 1 : Nat) : Int) (ew (dueK q))), .p (tpl (((chs0 l).length + t + 1 : Nat) : Int) (ew (dueK q)))] m1 = .ok (.p (.bool true)) m1 := eq_true (tpl_deq (ew_ok q))
    simp only [q_ret, r_call, r_tup, r_acons, r_anil, r_op2, r_op1, r_c, r_var, w6, w7, w8, bind_ok, o_neg1, o_ixL, la, List.length_cons, List.length_nil, decide_true, if_true, q_listed (due_jn q), ew_add, ez, tp, hq', st_ok, ret_rt, endFn_p]
end
end Mir.K68

namespace Mir.K68
open PySem PySem.Spec PyProof.Rows L2
/-! ### goes_on -/
/-- a strange word -/
def Odd (w : List Nat) (msg : Str) : Prop := (w = [65] ∧ msg = "no token begins here") ∨ (w = [49, 50, 51, 52, 53, 54, 55] ∧ msg = "a number has at most 6 digits")
theorem txtX_of {l : List WI} {us : List KW} {b t : Nat} {w : List Nat} {msg : Str} (h : l.map (·.2) = us.map (·.2)) (hw : ∀ x ∈ us, wdOk x) (hn : nearOk (l ++ [(b, w)])) (hb : ∀ x ∈ l, x.1 ≤ 3) (hb2 : b ≤ 3) (ht : t ≤ 2) (hl : us.length ≤ 60) (ho : Odd w msg) :
    TxtX (S (chs0 (l ++ [(b, w)]) ++ bl t)) (((chs0 l).length + b + 1 : Nat) : Int) msg := by
  obtain ⟨its, h1, h2⟩ := zip_it l us h
  have hi : ∀ i ∈ its, wdOk i.2 := fun i hi => hw i.2 (by rw [← h2]; exact List.mem_map_of_mem hi)
  have hi2 : ∀ i ∈ its, itOk i := fun i hi' => wd_it (b := i.1) (hi i hi')
  have hc : chs its = chs0 l := by rw [chs_of, h1]
  have hn1 : nearOk l := fun a x y c e => hn a x y (c ++ [(b, w)]) (by rw [e]; simp)
  have hs : sepOk false its := sep_of its false (fun i r e hp => by cases hp) (nearK_of (by rw [h1]; exact hn1) hi)
  have hle := chs0_b h hw hb
  have wf : ∃ c w', w = c :: w' ∧ c ≠ 32 ∧ c < 1000 ∧ 10 ∉ w ∧ w.length ≤ 7 ∧ (isDg c = true → hdg w = true) := by
    rcases ho with ⟨rfl, _⟩ | ⟨rfl, _⟩
    · exact ⟨_, _, rfl, by decide, by decide, by decide, by decide, by decide⟩
    · exact ⟨_, _, rfl, by decide, by decide, by decide, by decide, by decide⟩
  obtain ⟨c, w', hcw, c32, c1000, w10, wl, hh⟩ := wf
  have et : chs0 (l ++ [(b, w)]) ++ bl t = chs its ++ bl b ++ w ++ bl t := by rw [chs0_snoc, hc]
  have lt : (chs its ++ bl b ++ w ++ bl t).length ≤ 2000 := by rw [hc]; simp [bl]; omega
  have col : (((chs its ++ bl b).length : Nat) : Int) + 1 = (((chs0 l).length + b + 1 : Nat) : Int) := by rw [hc]; simp [bl]
  have htok : ∀ m', F_token_at [.p (.str (S ((chs its ++ bl b) ++ w ++ bl t))), .p (.int (((chs its ++ bl b).length : Nat) : Int))] m' = .exc (tx (((chs0 l).length + b + 1 : Nat) : Int) msg) m' := fun m' => by
    rcases ho with ⟨rfl, rfl⟩ | ⟨rfl, rfl⟩
    · have := q_token_bad (pre := chs its ++ bl b) (rest := bl t) (m := m') (c := 65) rfl (by decide) (by rw [show (chs its ++ bl b) ++ 65 :: bl t = chs its ++ bl b ++ [65] ++ bl t by simp]; omega)
      rw [col] at this
      simpa using this
    · have := q_token_long (pre := chs its ++ bl b) (rest := bl t) (m := m') (d := [49, 50, 51, 52, 53, 54, 55]) (by simp) (by decide) (by decide) (fun x hx => by
        cases t with
        | zero => simp [bl] at hx
        | succ t => simp [bl, List.replicate_succ] at hx; subst hx; rfl) (Nat.le_trans lt (by omega))
      rw [col] at this
      exact this
  refine ⟨fun m hm => ?_, fun m hm => ?_⟩
  · rw [et]
    have n10 := nl_of its hi2
    refine q_check_text lt ?_
    simp [n10, w10, bl]
  · rw [et]
    refine q_scan_bad hi2 hs (by rw [hc]; omega) hm hcw ⟨c32, c1000⟩ w10 (fun a i e hk hd => ?_) rfl htok
    have mi : i ∈ its := by rw [e]; simp
    have : l = a.map dI ++ [dI i] := by rw [← h1, e]; simp
    exact hn (a.map dI) (dI i) (b, w) [] (by rw [this]; simp) (num_dgs ((hi i mi).1 hk)).1 (hh hd)
section
variable {ns : List Int} {c : Int} {j : Nat} {g : Bool} {ws us : List KW} {q : Q} {s : Ev}
theorem ord_at {d : Int} (h0 : 0 ≤ d) (h1 : d < 6) : ∃ k ∈ ordK, k ≠ .fin ∧ atI (ordK.map knD) d = some (knD k) := by
  have h : d = 0 ∨ d = 1 ∨ d = 2 ∨ d = 3 ∨ d = 4 ∨ d = 5 := by omega
  rcases h with rfl | rfl | rfl | rfl | rfl | rfl
  · exact ⟨.num, by decide, by decide, rfl⟩
  · exact ⟨.sg 58, by decide, by decide, rfl⟩
  · exact ⟨.sg 44, by decide, by decide, rfl⟩
  · exact ⟨.sg 59, by decide, by decide, rfl⟩
  · exact ⟨.sg 45, by decide, by decide, rfl⟩
  · exact ⟨.sg 61, by decide, by decide, rfl⟩
theorem draw6 (h0 : s[0]? = some (some (.loc 0))) : ∃ k ∈ ordK, k ≠ .fin ∧ ∃ (c' : Int) (j' : Nat), (eOp2 idxM (eCall0 F__law_kinds) (eCall 2 F__law_next (aCons (eVar 0) (aCons (eC (.int 6)) aNil)))) s (hpL ns c j g ws) = .ok (.p (knD k)) (hpL ns c' j' g ws) := by
  obtain ⟨d, c', j', e1, d0, d6⟩ := q_next (ns := ns) (c := c) (k := j) (r := TAB g ++ [.lst (ws.map fun x => wdW x.2)]) (many := 6) (by omega) (by omega)
  obtain ⟨k, hk, hf, ha⟩ := ord_at d0 d6
  refine ⟨k, hk, hf, c', j', ?_⟩
  have e1 : F__law_next [.loc 0, .p (.int 6)] (hpL ns c j g ws) = .ok (.p (.int d)) (hpL ns c' j' g ws) := e1
  simp only [r_op2, e_kinds, r_call, r_acons, r_anil, r_var, r_c, h0, bind_ok, List.length_cons, List.length_nil, decide_true, if_true, e1, o_ixL, ha]
theorem tokW_of {k : Kd} (hk : k ∈ ordK) (hf : k ≠ .fin) : ∃ (w : List Nat) (c' : Int) (j' : Nat), wdOk (k, w) ∧ F__law_token [.loc 0, .p (knD k)] (hpL ns c j g ws) = .ok (.p (.str (S w))) (hpL ns c' j' g ws) := by
  obtain ⟨w, c', j', h1, h2, h3⟩ := q_token (ns := ns) (c := c) (j := j) (r := TAB g ++ [.lst (ws.map fun x => wdW x.2)]) hk hf
  refine ⟨w, c', j', ⟨h1, fun d e => ⟨h2 d e, ?_⟩, hf⟩, h3⟩
  have e : k = .sg d := e
  subst e
  simp [ordK] at hk
  simp [sgs]
  omega
theorem w_cell : (hpL ns c j g ws)[(TAB g).length + 1]? = some (.lst (ws.map fun x => wdW x.2)) := by
  unfold hpL
  rw [List.getElem?_cons_succ, List.getElem?_append_right (Nat.le_refl _)]
  simp
theorem add_w (hl : ws.length + us.length ≤ 100) : addX (.loc ((TAB g).length + 1)) (.p (.list (us.map fun x => .str (S x.2)))) (hpL ns c j g ws) = .ok (.p (.list ((ws ++ us).map fun x => .str (S x.2)))) (hpL ns c j g ws) := by
  have e : (ws.map fun x => wdW x.2) = (ws.map fun x => PyData.str (S x.2)).map .p := by rw [List.map_map]; rfl
  unfold addX
  simp only [lstD, w_cell, e, allP_map]
  rw [if_pos (by rw [sizeLine_eq]; simp; omega), List.map_append]
theorem WL_p {r : Hm} : WL (.p (.list (us.map fun x => .str (S x.2)))) (us.map (·.2)) r := by
  refine .inl ?_
  rw [List.map_map]
  rfl
theorem pls_at {l : List WI} {t i : Nat} {x : Int} (h : (plc 0 l)[i]? = some x) : (lPls l t)[i]? = some x := by
  unfold lPls
  rw [List.getElem?_append_left (List.getElem?_eq_some_iff.mp h).1]
  exact h
theorem prob {l : List WI} {t : Nat} {x : Int} (hx : (plc 0 l)[ws.length]? = some x) (h3 : s[3]? = some (some (.loc ((TAB g).length + 1)))) (h8 : s[8]? = some (some (.p (.list ((lPls l t).map .int))))) (h9 : s[9]? = some (some (.p (.list ((dueK q).map shD))))) :
    (eTup (aCons (eOp2 idxM (eVar 8) (eCB lenM (aCons (eVar 3) aNil))) (aCons (eOp2 addX (eC (.str "expected ")) (eCall 1 F__law_listed (aCons (eVar 9) aNil))) aNil))) s (hpL ns c j g ws) = .ok (.p (tpl x (ew (dueK q)))) (hpL ns c j g ws) := by
  have ez : (0 + 1 + 1 ≤ sizeLine) = True := by simp [sizeLine_eq]
  have la : atI ((lPls l t).map PyData.int) ((ws.length : Nat) : Int) = some (.int x) := by
    rw [atI_lit, List.getElem?_map, pls_at hx]; rfl
  have tp : mkTup [.p (.int x), .p (.str (ew (dueK q)))] = .p (tpl x (ew (dueK q))) := rfl
  simp only [r_call, r_tup, r_cb, r_acons, r_anil, r_op2, r_op1, r_c, r_var, h3, h8, h9, bind_ok, o_lenC w_cell, List.length_map, o_ixL, la, List.length_cons, List.length_nil, decide_true, if_true, q_listed (due_jn q), ew_add, ez, tp]
theorem rep2 {d : PyData} {m : Hm} : repM (.p (.list [d])) (.p (.int 2)) m = .ok (.p (.list [d, d])) m := rfl
theorem eq2 {x : Int} {w : Str} {m : Hm} (h : PySem.PyData.strOk w = true) : F__law_equal 5 [.p (.list [tpl x w, tpl x w]), .p (.list [tpl x w, tpl x w])] m = .ok (.p (.bool true)) m := by
  refine eq_true (.lst (by simp) fun d hd => ?_)
  simp at hd
  subst hd
  exact tpl_deq h
theorem due_l (hg : gQ q = g) : F__law_due [.loc 1, .p (.str (stn q))] (hpL ns c j g ws) = .ok (.p (.list ((dueK q).map shD))) (hpL ns c j g ws) := by
  subst hg
  have h := @okL ns c j (gQ q) ws
  exact q_ldue (q := q) (x := strm ns c j) (e := [.lst (ws.map fun x : KW => wdW x.2)]) h
theorem st_l {a b : EX W} (hg : gQ q = g) (h1 : a s (hpL ns c j g ws) = .ok (.loc 1) (hpL ns c j g ws)) (h2 : b s (hpL ns c j g ws) = .ok (.p (.str (stn q))) (hpL ns c j g ws)) : eDGet a b s (hpL ns c j g ws) = .ok (.loc (locQ q)) (hpL ns c j g ws) := by
  subst hg
  exact e_state h1 h2
theorem in_l {a b : EX W} {k : Kd} (hg : gQ q = g) (hk : k ∈ ordK) (h1 : a s (hpL ns c j g ws) = .ok (.p (.str (kn k))) (hpL ns c j g ws)) (h2 : b s (hpL ns c j g ws) = .ok (.loc (locQ q)) (hpL ns c j g ws)) : eDIn false a b s (hpL ns c j g ws) = .ok (.p (.bool (can q k))) (hpL ns c j g ws) := by
  subst hg
  exact e_in hk h1 h2
theorem go_l {a b : EX W} {k : Kd} {n : Str} (hg : gQ q = g) (hk : k ∈ ordK) (hn : toN q k = some n) (h1 : a s (hpL ns c j g ws) = .ok (.loc (locQ q)) (hpL ns c j g ws)) (h2 : b s (hpL ns c j g ws) = .ok (.p (.str (kn k))) (hpL ns c j g ws)) : eDGet a b s (hpL ns c j g ws) = .ok (.p (.str n)) (hpL ns c j g ws) := by
  subst hg
  exact e_go hk hn h1 h2
/-- the state of goes_on -/
def gS (g : Bool) (q : Q) (a b c d e f h i : Option W) : Ev := [some (.loc 0), some (.loc 1), some (.p (.str (kW g))), some (.loc ((TAB g).length + 1)), some (.p (.str (stn q))), a, b, c, d, e, f, h, i]
def plD (l : List WI) (t : Nat) : PyData := .list ((lPls l t).map .int)
def duD (q : Q) : PyData := .list ((dueK q).map shD)
variable {w : List Nat} {a b e f h i p10 p11 p12 : Option W}
theorem lay_l {fe : EX W} {m : Hm} (hf : fe s m = .ok (.p (.list (us.map fun x => .str (S x.2)))) (hpL ns c j g ws)) (h0 : ∀ m, eVar 0 s m = .ok (.loc 0) m) (hm : m = m) (ho : ∀ x ∈ us, okWd x.2) (hl : us.length ≤ 60) (hs : s[0]? = some (some (.loc 0))) :
    ∃ (l : List WI) (t : Nat) (c' : Int) (j' : Nat), l.map (·.2) = us.map (·.2) ∧ nearOk l ∧ (∀ x ∈ l, x.1 ≤ 3) ∧ t ≤ 2 ∧ eCall 2 F__law_laid (aCons (eVar 0) (aCons fe aNil)) s m = .ok (.p (.tuple [.str (lStr l t), plD l t])) (hpL ns c' j' g ws) := by
  obtain ⟨l, t, c', j', h1, h2, h3, h4, h5⟩ := laid_of (W0 := .p (.list (us.map fun x => .str (S x.2)))) (ns := ns) (c := c) (k := j) (g := g) (ws := ws) WL_p ho hl
  refine ⟨l, t, c', j', h1, h2, h3, h4, ?_⟩
  simp only [r_call, r_acons, r_anil, h0, hf, bind_ok, List.length_cons, List.length_nil, decide_true, if_true]
  exact h5
end
end Mir.K68

namespace Mir.K68
open PySem PySem.Spec PyProof.Rows L2
section
variable {ns : List Int} {c : Int} {j : Nat} {g : Bool} {ws us : List KW} {q : Q} {s : Ev} {l : List WI} {t : Nat} {m : Hm}
theorem good_told (h : l.map (·.2) = us.map (·.2)) (hw : ∀ x ∈ us, wdOk x) (hn : nearOk l) (hb : ∀ x ∈ l, x.1 ≤ 3) (ht : t ≤ 2) (hl : us.length ≤ 60) (hq : walk (q0 g) us = some q) (hm : okM m.length m = true) : F__law_told [.p (.str (lStr l t)), .p (.str (kW g)), .p (.int 0)] m = .ok (.p (duD q)) m := by
  obtain ⟨its, i1, i2, i3, i4, tx_⟩ := laid_ws h hw hn hb ht hl
  have r1 := run_end (st := true) (t := t) (by rw [i2]; exact hq) i3
  rw [if_pos rfl] at r1
  exact told0 (g := g) tx_ hm r1
theorem bad_told {x : KW} {rest : List KW} (h : l.map (·.2) = (ws ++ x :: rest).map (·.2)) (hw : ∀ y ∈ ws ++ x :: rest, wdOk y) (hn : nearOk l) (hb : ∀ x ∈ l, x.1 ≤ 3) (ht : t ≤ 2) (hl : (ws ++ x :: rest).length ≤ 60) (hq : walk (q0 g) ws = some q) (hx : step q x.1 = none) :
    ∃ c, (plc 0 l)[ws.length]? = some c ∧ ∀ m : Hm, okM m.length m = true → F__law_told [.p (.str (lStr l t)), .p (.str (kW g)), .p (.int 0)] m = .ok (.p (tpl c (ew (dueK q)))) m ∧ F__law_told [.p (.str (lStr l t)), .p (.str (kW g)), .p (.int 1)] m = .ok (.p (tpl c (ew (dueK q)))) m := by
  obtain ⟨its, i1, i2, i3, i4, tx_⟩ := laid_ws h hw hn hb ht hl
  obtain ⟨its1, r1, e1, e2, e3⟩ := List.map_eq_append_iff.mp i2
  obtain ⟨i, r, rfl, e4, e5⟩ := List.map_eq_cons_iff.mp e3
  subst e1
  have ln : its1.length = ws.length := by rw [← e2]; simp
  have hx2 : step q i.2.1 = none := by rw [e4]; exact hx
  have ho : ∀ st, ∃ c, run st (q0 g) (tkL (its1 ++ i :: r) t) = .err c (dueK q) ∧ (plc 0 ((its1 ++ i :: r).map dI))[its1.length]? = some c := fun st => run_off (by rw [e2]; exact hq) i3 hx2
  obtain ⟨c, h1, h2⟩ := ho true
  obtain ⟨c', h3, h4⟩ := ho false
  rw [h2] at h4
  cases h4
  rw [i1, ln] at h2
  exact ⟨c, h2, fun m hm => ⟨told0e (g := g) tx_ hm h1, told1e (g := g) tx_ hm h3⟩⟩
theorem odd_told {b : Nat} {w : List Nat} {msg : Str} (h : l.map (·.2) = us.map (·.2)) (hw : ∀ x ∈ us, wdOk x) (hn : nearOk (l ++ [(b, w)])) (hb : ∀ x ∈ l, x.1 ≤ 3) (hb2 : b ≤ 3) (ht : t ≤ 2) (hl : us.length ≤ 60) (ho : Odd w msg) :
    ∃ c, (plc 0 (l ++ [(b, w)]))[us.length]? = some c ∧ ∀ m : Hm, okM m.length m = true → F__law_told [.p (.str (lStr (l ++ [(b, w)]) t)), .p (.str (kW g)), .p (.int 0)] m = .ok (.p (tpl c msg)) m ∧ F__law_told [.p (.str (lStr (l ++ [(b, w)]) t)), .p (.str (kW g)), .p (.int 1)] m = .ok (.p (tpl c msg)) m := by
  have tx_ := txtX_of h hw hn hb hb2 ht hl ho
  have ln : us.length = l.length := by have := congrArg List.length h; simpa using this.symm
  refine ⟨_, ?_, fun m hm => ⟨told0x (g := g) tx_ hm, told1x (g := g) tx_ hm⟩⟩
  rw [plc_snoc, List.getElem?_append_right (by rw [plc_len, ln]; exact Nat.le_refl _), plc_len, ln]
  simp
theorem odd_ok {w : List Nat} {msg : Str} (h : Odd w msg) : okWd w ∧ PySem.PyData.strOk msg = true := by
  rcases h with ⟨rfl, rfl⟩ | ⟨rfl, rfl⟩
  · exact ⟨⟨by simp, by simp⟩, by decide +kernel⟩
  · exact ⟨⟨by simp, by simp⟩, by decide +kernel⟩
def oddD (w : List Nat) (msg : Str) : PyData := .tuple [.str (S w), .str msg]
theorem odds : ([.tuple [.str "A", .str "no token begins here"], .tuple [.str "1234567", .str "a number has at most 6 digits"]] : List PyData) = [oddD [65] "no token begins here", oddD [49, 50, 51, 52, 53, 54, 55] "a number has at most 6 digits"] := by kernel_rfl
theorem eqpair {f1 f2 f3 : EX W} {x : Int} {w : Str} (hw : PySem.PyData.strOk w = true) (h1 : f1 s m = .ok (.p (tpl x w)) m) (h2 : f2 s m = .ok (.p (tpl x w)) m) (h3 : f3 s m = .ok (.p (tpl x w)) m) :
    eCall 2 (F__law_equal 5) (aCons (eLst (aCons f1 (aCons f2 aNil))) (aCons (eOp2 repM (eLst (aCons f3 aNil)) (eC (.int 2))) aNil)) s m = .ok (.p (.bool true)) m := by
  have ez1 : (0 + 1 ≤ sizeLine) = True := by simp [sizeLine_eq]
  have ez2 : (0 + 1 + 1 ≤ sizeLine) = True := by simp [sizeLine_eq]
  have a1 : ∀ x : PyData, allP [W.p x] = some [x] := fun _ => rfl
  have a2 : ∀ x y : PyData, allP [W.p x, W.p y] = some [x, y] := fun _ _ => rfl
  simp only [r_call, r_acons, r_anil, r_op2, r_lst, r_c, h1, h2, h3, bind_ok, List.length_cons, List.length_nil, ez1, ez2, if_true, a1, a2, rep2, decide_true, eq2 hw]
theorem q_goes_on (hq : walk (q0 g) ws = some q) (hw : ∀ x ∈ ws, wdOk x) (hl : ws.length ≤ 40) :
    ∃ (c' : Int) (j' : Nat), F__law_goes_on [.loc 0, .loc 1, .p (.str (kW g)), .loc ((TAB g).length + 1), .p (.str (stn q))] (hpL ns c j g ws) = .ok (.p (.bool true)) (hpL ns c' j' g ws) := by
  have hg : gQ q = g := by rw [walk_g hq, q0_g]
  have fin : ∀ (c' : Int) (j' : Nat), endFn true ((TAB g).length + 2) (.p (.bool true)) (hpL ns c' j' g ws) = .ok (.p (.bool true)) (hpL ns c' j' g ws) := fun _ _ => endFn_len hpL_len
  have ez1 : (0 + 1 ≤ sizeLine) = True := by simp [sizeLine_eq]
  have ez2 : (0 + 1 + 1 ≤ sizeLine) = True := by simp [sizeLine_eq]
  have a1 : ∀ x : PyData, allP [W.p x] = some [x] := fun _ => rfl
  have a2 : ∀ x y : PyData, allP [W.p x, W.p y] = some [x, y] := fun _ _ => rfl
  unfold F__law_goes_on mkFn m__law_goes_on
  change ∃ (c' : Int) (j' : Nat), retE true (hpL ns c j g ws).length (sSeq _ _ (gS g q none none none none none none none none) (hpL ns c j g ws)) = _
  rw [hpL_len]
  obtain ⟨k, hk, hkf, c1, j1, e1⟩ := draw6 (ns := ns) (c := c) (j := j) (g := g) (ws := ws) (s := gS g q none none none none none none none none) rfl
  rw [q_seq, q_set, e1]
  simp only [st_ok]
  change ∃ (c' : Int) (j' : Nat), retE true _ (sSeq _ _ (gS g q (some (.p (knD k))) none none none none none none none) _) = _
  obtain ⟨w, c2, j2, hx, e2⟩ := tokW_of (ns := ns) (c := c1) (j := j1) (g := g) (ws := ws) hk hkf
  have e2 : eCall 2 F__law_token (aCons (eVar 0) (aCons (eVar 5) aNil)) (gS g q (some (.p (knD k))) none none none none none none none) (hpL ns c1 j1 g ws) = .ok (.p (.str (S w))) (hpL ns c2 j2 g ws) := e2
  rw [q_seq, q_set, e2]
  simp only [st_ok]
  change ∃ (c' : Int) (j' : Nat), retE true _ (sSeq _ _ (gS g q (some (.p (knD k))) (some (.p (.str (S w)))) none none none none none none) _) = _
  have hwx : ∀ y ∈ ws ++ [(k, w)], wdOk y := fun y hy => by
    rcases List.mem_append.mp hy with hy | hy
    · exact hw y hy
    · simp at hy; subst hy; exact hx
  have f1 : (eOp2 addX (eVar 3) (eLst (aCons (eVar 6) aNil))) (gS g q (some (.p (knD k))) (some (.p (.str (S w)))) none none none none none none) (hpL ns c2 j2 g ws) = .ok (.p (.list ((ws ++ [(k, w)]).map fun x => .str (S x.2)))) (hpL ns c2 j2 g ws) := by
    have v3 : (gS g q (some (.p (knD k))) (some (.p (.str (S w)))) none none none none none none)[3]? = some (some (.loc ((TAB g).length + 1))) := rfl
    have v6 : (gS g q (some (.p (knD k))) (some (.p (.str (S w)))) none none none none none none)[6]? = some (some (.p (.str (S w)))) := rfl
    simp only [r_op2, r_lst, r_acons, r_anil, r_var, v3, v6, bind_ok, List.length_cons, List.length_nil, ez1, if_true, a1]
    exact add_w (us := [(k, w)]) (by simp; omega)
  obtain ⟨l, t, c3, j3, l1, l2, l3, l4, e3⟩ := lay_l f1 (fun _ => rfl) rfl (fun x hx => wd_okWd (hwx x hx)) (by simp; omega) rfl
  rw [q_seq, q_put, e3]
  simp only [st_ok]
  change ∃ (c' : Int) (j' : Nat), retE true _ (sSeq _ _ (gS g q (some (.p (knD k))) (some (.p (.str (S w)))) (some (.p (.str (lStr l t)))) (some (.p (plD l t))) none none none none) _) = _
  have e4 : eCall 2 F__law_due (aCons (eVar 1) (aCons (eVar 4) aNil)) (gS g q (some (.p (knD k))) (some (.p (.str (S w)))) (some (.p (.str (lStr l t)))) (some (.p (plD l t))) none none none none) (hpL ns c3 j3 g ws) = .ok (.p (duD q)) (hpL ns c3 j3 g ws) := due_l hg
  rw [q_seq, q_set, e4]
  simp only [st_ok]
  change ∃ (c' : Int) (j' : Nat), retE true _ (sSeq _ _ (gS g q (some (.p (knD k))) (some (.p (.str (S w)))) (some (.p (.str (lStr l t)))) (some (.p (plD l t))) (some (.p (duD q))) none none none) _) = _
  have canE : can q k = (step q k).isSome := by unfold can; rw [if_neg hkf]
  have ok3 : okM (hpL ns c3 j3 g ws).length (hpL ns c3 j3 g ws) = true := okL
  rw [q_seq, q_set]
  have cond : ∀ told, (bVal (eDIn false (eVar 5) (eDGet (eVar 1) (eVar 4)))) (gS g q (some (.p (knD k))) (some (.p (.str (S w)))) (some (.p (.str (lStr l t)))) (some (.p (plD l t))) (some (.p (duD q))) told none none) (hpL ns c3 j3 g ws) = .ok (can q k) (hpL ns c3 j3 g ws) := fun told => by
    have h2 : eDIn false (eVar 5) (eDGet (eVar 1) (eVar 4)) (gS g q (some (.p (knD k))) (some (.p (.str (S w)))) (some (.p (.str (lStr l t)))) (some (.p (plD l t))) (some (.p (duD q))) told none none) (hpL ns c3 j3 g ws) = .ok (.p (.bool (can q k))) (hpL ns c3 j3 g ws) := in_l hg hk rfl (st_l hg rfl rfl)
    rw [r_bval, h2]
    rfl
  cases st : step q k with
  | some q' =>
    have hq' : walk (q0 g) (ws ++ [(k, w)]) = some q' := walk_snoc hq st
    have told : eCall 3 F__law_told (aCons (eVar 7) (aCons (eVar 2) (aCons (eC (.int 0)) aNil))) (gS g q (some (.p (knD k))) (some (.p (.str (S w)))) (some (.p (.str (lStr l t)))) (some (.p (plD l t))) (some (.p (duD q))) none none none) (hpL ns c3 j3 g ws) = .ok (.p (duD q')) (hpL ns c3 j3 g ws) := good_told l1 hwx l2 l3 l4 (by simp; omega) hq' ok3
    rw [told]
    simp only [st_ok]
    change ∃ (c' : Int) (j' : Nat), retE true _ (sSeq _ _ (gS g q (some (.p (knD k))) (some (.p (.str (S w)))) (some (.p (.str (lStr l t)))) (some (.p (plD l t))) (some (.p (duD q))) (some (.p (duD q'))) none none) _) = _
    rw [q_seq, q_if, cond, canE, st]
    simp only [st_ok, Option.isSome_some, if_true]
    have tn : toN q k = some (stn q') := by unfold toN; rw [if_neg hkf, st]; rfl
    have g1 : eDGet (eDGet (eVar 1) (eVar 4)) (eVar 5) (gS g q (some (.p (knD k))) (some (.p (.str (S w)))) (some (.p (.str (lStr l t)))) (some (.p (plD l t))) (some (.p (duD q))) (some (.p (duD q'))) none none) (hpL ns c3 j3 g ws) = .ok (.p (.str (stn q'))) (hpL ns c3 j3 g ws) := go_l hg hk tn (st_l hg rfl rfl) rfl
    have d1 := due_l (ns := ns) (c := c3) (j := j3) (ws := ws) (q := q') (g := g) (by rw [step_g st, hg])
    have v10 : (gS g q (some (.p (knD k))) (some (.p (.str (S w)))) (some (.p (.str (lStr l t)))) (some (.p (plD l t))) (some (.p (duD q))) (some (.p (duD q'))) none none)[10]? = some (some (.p (duD q'))) := rfl
    have v1 : (gS g q (some (.p (knD k))) (some (.p (.str (S w)))) (some (.p (.str (lStr l t)))) (some (.p (plD l t))) (some (.p (duD q))) (some (.p (duD q'))) none none)[1]? = some (some (.loc 1)) := rfl
    have eqd : F__law_equal 5 [.p (duD q'), .p (duD q')] (hpL ns c3 j3 g ws) = .ok (.p (.bool true)) (hpL ns c3 j3 g ws) := eq_true (due_deq q')
    refine ⟨c3, j3, ?_⟩
    simp only [q_ret, r_call, r_acons, r_anil, r_var, v10, v1, bind_ok, g1, List.length_cons, List.length_nil, decide_true, if_true, d1]
    rw [show W.p (.list ((dueK q').map shD)) = W.p (duD q') from rfl, eqd]
    simp only [st_ok, ret_rt]
    exact fin _ _
  | none =>
    obtain ⟨x, hx1, ht1⟩ := bad_told (rest := []) l1 hwx l2 l3 l4 (by simp; omega) hq st
    have told : eCall 3 F__law_told (aCons (eVar 7) (aCons (eVar 2) (aCons (eC (.int 0)) aNil))) (gS g q (some (.p (knD k))) (some (.p (.str (S w)))) (some (.p (.str (lStr l t)))) (some (.p (plD l t))) (some (.p (duD q))) none none none) (hpL ns c3 j3 g ws) = .ok (.p (tpl x (ew (dueK q)))) (hpL ns c3 j3 g ws) := (ht1 _ ok3).1
    rw [told]
    simp only [st_ok]
    let s1 : Ev := gS g q (some (.p (knD k))) (some (.p (.str (S w)))) (some (.p (.str (lStr l t)))) (some (.p (plD l t))) (some (.p (duD q))) (some (.p (tpl x (ew (dueK q))))) none none
    change ∃ (c' : Int) (j' : Nat), retE true _ (sSeq _ _ s1 _) = _
    rw [q_seq, q_if, cond, canE, st]
    simp only [st_ok, Option.isSome_none, Bool.false_eq_true, if_false, q_skip]
    have p1 := prob (ns := ns) (c := c3) (j := j3) (g := g) (s := s1) (l := l) (t := t) (q := q) hx1 rfl rfl rfl
    rw [q_seq, q_set, p1]
    simp only [st_ok]
    let s2 : Ev := gS g q (some (.p (knD k))) (some (.p (.str (S w)))) (some (.p (.str (lStr l t)))) (some (.p (plD l t))) (some (.p (duD q))) (some (.p (tpl x (ew (dueK q))))) (some (.p (tpl x (ew (dueK q))))) none
    change ∃ (c' : Int) (j' : Nat), retE true _ (sSeq _ _ s2 _) = _
    have u10 : s2[10]? = some (some (.p (tpl x (ew (dueK q))))) := rfl
    have u11 : s2[11]? = some (some (.p (tpl x (ew (dueK q))))) := rfl
    have t1 : eCall 3 F__law_told (aCons (eVar 7) (aCons (eVar 2) (aCons (eC (.int 1)) aNil))) s2 (hpL ns c3 j3 g ws) = .ok (.p (tpl x (ew (dueK q)))) (hpL ns c3 j3 g ws) := (ht1 _ ok3).2
    have q1 : (bNot (bTru (eCall 2 (F__law_equal 5) (aCons (eLst (aCons (eVar 10) (aCons (eCall 3 F__law_told (aCons (eVar 7) (aCons (eVar 2) (aCons (eC (.int 1)) aNil)))) aNil))) (aCons (eOp2 repM (eLst (aCons (eVar 11) aNil)) (eC (.int 2))) aNil))))) s2 (hpL ns c3 j3 g ws) = .ok false (hpL ns c3 j3 g ws) := by
      rw [r_bnot, r_btru, eqpair (ew_ok q) rfl t1 rfl]
      rfl
    rw [q_seq, q_if, q1]
    simp only [st_ok, Bool.false_eq_true, if_false, q_skip]
    -- two more words
    obtain ⟨k2, hk2, hkf2, c4, j4, e5⟩ := draw6 (ns := ns) (c := c3) (j := j3) (g := g) (ws := ws) (s := s2) rfl
    obtain ⟨w2, c5, j5, hx2, e6⟩ := tokW_of (ns := ns) (c := c4) (j := j4) (g := g) (ws := ws) hk2 hkf2
    have hwx2 : ∀ y ∈ ws ++ (k, w) :: [(k2, w2)], wdOk y := fun y hy => by
      rcases List.mem_append.mp hy with hy | hy
      · exact hw y hy
      · simp at hy
        rcases hy with rfl | rfl
        · exact hx
        · exact hx2
    let fd : EX W := eCall 2 F__law_token (aCons (eVar 0) (aCons (eOp2 idxM (eCall0 F__law_kinds) (eCall 2 F__law_next (aCons (eVar 0) (aCons (eC (.int 6)) aNil)))) aNil))
    have ed : fd s2 (hpL ns c3 j3 g ws) = .ok (.p (.str (S w2))) (hpL ns c5 j5 g ws) := by
      have v0 : s2[0]? = some (some (.loc 0)) := rfl
      simp only [fd, r_call, r_acons, r_anil, r_var, v0, bind_ok, e5, List.length_cons, List.length_nil, decide_true, if_true, e6]
    have f2 : (eOp2 addX (eVar 3) (eLst (aCons (eVar 6) (aCons fd aNil)))) s2 (hpL ns c3 j3 g ws) = .ok (.p (.list ((ws ++ (k, w) :: [(k2, w2)]).map fun x => .str (S x.2)))) (hpL ns c5 j5 g ws) := by
      have v3 : s2[3]? = some (some (.loc ((TAB g).length + 1))) := rfl
      have v6 : s2[6]? = some (some (.p (.str (S w)))) := rfl
      simp only [r_op2, r_lst, r_acons, r_anil, r_var, v3, v6, bind_ok, ed, List.length_cons, List.length_nil, ez2, if_true, a2]
      exact add_w (us := [(k, w), (k2, w2)]) (by simp; omega)
    obtain ⟨lb, tb, c6, j6, m1, m2, m3, m4, e7⟩ := lay_l f2 (fun _ => rfl) rfl (fun x hx => wd_okWd (hwx2 x hx)) (by simp; omega) rfl
    rw [q_seq, q_put, e7]
    simp only [st_ok]
    obtain ⟨y, hy1, hy2⟩ := bad_told m1 hwx2 m2 m3 m4 (by simp; omega) hq st
    let s3 : Ev := gS g q (some (.p (knD k))) (some (.p (.str (S w)))) (some (.p (.str (lStr lb tb)))) (some (.p (plD lb tb))) (some (.p (duD q))) (some (.p (tpl x (ew (dueK q))))) (some (.p (tpl x (ew (dueK q))))) none
    change ∃ (c' : Int) (j' : Nat), retE true _ (sSeq _ _ s3 _) = _
    have ok6 : okM (hpL ns c6 j6 g ws).length (hpL ns c6 j6 g ws) = true := okL
    have p2 := prob (ns := ns) (c := c6) (j := j6) (g := g) (s := s3) (l := lb) (t := tb) (q := q) hy1 rfl rfl rfl
    rw [q_seq, q_set, p2]
    simp only [st_ok]
    let s4 : Ev := gS g q (some (.p (knD k))) (some (.p (.str (S w)))) (some (.p (.str (lStr lb tb)))) (some (.p (plD lb tb))) (some (.p (duD q))) (some (.p (tpl x (ew (dueK q))))) (some (.p (tpl y (ew (dueK q))))) none
    change ∃ (c' : Int) (j' : Nat), retE true _ (sSeq _ _ s4 _) = _
    have q2 : (bNot (bTru (eCall 2 (F__law_equal 5) (aCons (eLst (aCons (eCall 3 F__law_told (aCons (eVar 7) (aCons (eVar 2) (aCons (eC (.int 0)) aNil)))) (aCons (eCall 3 F__law_told (aCons (eVar 7) (aCons (eVar 2) (aCons (eC (.int 1)) aNil)))) aNil))) (aCons (eOp2 repM (eLst (aCons (eVar 11) aNil)) (eC (.int 2))) aNil))))) s4 (hpL ns c6 j6 g ws) = .ok false (hpL ns c6 j6 g ws) := by
      rw [r_bnot, r_btru, eqpair (ew_ok q) (show eCall 3 F__law_told (aCons (eVar 7) (aCons (eVar 2) (aCons (eC (.int 0)) aNil))) s4 (hpL ns c6 j6 g ws) = _ from (hy2 _ ok6).1) (show eCall 3 F__law_told (aCons (eVar 7) (aCons (eVar 2) (aCons (eC (.int 1)) aNil))) s4 (hpL ns c6 j6 g ws) = _ from (hy2 _ ok6).2) rfl]
      rfl
    rw [q_seq, q_if, q2]
    simp only [st_ok, Bool.false_eq_true, if_false, q_skip]
    -- a strange word
    obtain ⟨d, hd, c7, j7, e8⟩ := q_pick (w := .p (.list [oddD [65] "no token begins here", oddD [49, 50, 51, 52, 53, 54, 55] "a number has at most 6 digits"])) (ns := ns) (c := c6) (k := j6) (r := TAB g ++ [.lst (ws.map fun x => wdW x.2)]) (.inr rfl) (by decide) (by decide)
    obtain ⟨ow, msg, rfl, hodd⟩ : ∃ ow msg, d = oddD ow msg ∧ Odd ow msg := by
      simp at hd
      rcases hd with rfl | rfl
      · exact ⟨_, _, rfl, .inl ⟨rfl, rfl⟩⟩
      · exact ⟨_, _, rfl, .inr ⟨rfl, rfl⟩⟩
    have e8 : F__law_pick [.loc 0, .p (.list [oddD [65] "no token begins here", oddD [49, 50, 51, 52, 53, 54, 55] "a number has at most 6 digits"])] (hpL ns c6 j6 g ws) = .ok (.p (oddD ow msg)) (hpL ns c7 j7 g ws) := e8
    have e9 : eCall 2 F__law_pick (aCons (eVar 0) (aCons (eLst (aCons (eTup (aCons (eC (.str "A")) (aCons (eC (.str "no token begins here")) aNil))) (aCons (eTup (aCons (eC (.str "1234567")) (aCons (eC (.str "a number has at most 6 digits")) aNil))) aNil))) aNil)) s4 (hpL ns c6 j6 g ws) = .ok (.p (oddD ow msg)) (hpL ns c7 j7 g ws) := by
      have v0 : s4[0]? = some (some (.loc 0)) := rfl
      have mt : ∀ a b : Str, mkTup [.p (.str a), .p (.str b)] = .p (.tuple [.str a, .str b]) := fun _ _ => rfl
      simp only [r_call, r_acons, r_anil, r_lst, r_tup, r_c, r_var, v0, bind_ok, List.length_cons, List.length_nil, ez2, if_true, mt, a2, odds, decide_true, e8]
    rw [q_seq, q_put, e9]
    simp only [st_ok]
    let s5 : Ev := gS g q (some (.p (knD k))) (some (.p (.str (S w)))) (some (.p (.str (lStr lb tb)))) (some (.p (plD lb tb))) (some (.p (duD q))) (some (.p (.str msg))) (some (.p (tpl y (ew (dueK q))))) (some (.p (.str (S ow))))
    change ∃ (c' : Int) (j' : Nat), retE true _ (sSeq _ _ s5 _) = _
    obtain ⟨oo, msok⟩ := odd_ok hodd
    have f3 : (eOp2 addX (eVar 3) (eLst (aCons (eVar 6) (aCons (eVar 12) aNil)))) s5 (hpL ns c7 j7 g ws) = .ok (.p (.list ((ws ++ (k, w) :: [(Kd.num, ow)]).map fun x => .str (S x.2)))) (hpL ns c7 j7 g ws) := by
      have v3 : s5[3]? = some (some (.loc ((TAB g).length + 1))) := rfl
      have v6 : s5[6]? = some (some (.p (.str (S w)))) := rfl
      have v12 : s5[12]? = some (some (.p (.str (S ow)))) := rfl
      simp only [r_op2, r_lst, r_acons, r_anil, r_var, v3, v6, v12, bind_ok, List.length_cons, List.length_nil, ez2, if_true, a2]
      exact add_w (us := [(k, w), (Kd.num, ow)]) (by simp; omega)
    obtain ⟨lc, tc, c8, j8, n1, n2, n3, n4, e10⟩ := lay_l f3 (fun _ => rfl) rfl (fun x hx' => by
      rcases List.mem_append.mp hx' with h | h
      · exact wd_okWd (hw x h)
      · simp at h
        rcases h with rfl | rfl
        · exact wd_okWd hx
        · exact oo) (by simp; omega) rfl
    rw [q_seq, q_put, e10]
    simp only [st_ok]
    let s6 : Ev := gS g q (some (.p (knD k))) (some (.p (.str (S w)))) (some (.p (.str (lStr lc tc)))) (some (.p (plD lc tc))) (some (.p (duD q))) (some (.p (.str msg))) (some (.p (tpl y (ew (dueK q))))) (some (.p (.str (S ow))))
    change ∃ (c' : Int) (j' : Nat), retE true _ (sRet _ s6 _) = _
    have ok8 : okM (hpL ns c8 j8 g ws).length (hpL ns c8 j8 g ws) = true := okL
    have n1 : lc.map (·.2) = ((ws ++ [(k, w)]) ++ [(Kd.num, ow)]).map (·.2) := by rw [n1]; simp
    rw [List.map_append] at n1
    obtain ⟨ld, le, rfl, g1, g2⟩ := List.map_eq_append_iff.mp n1
    obtain ⟨⟨b, ow'⟩, le', rfl, g3, g4⟩ := List.map_eq_cons_iff.mp g2
    simp at g4
    subst g4
    have g3 : ow' = ow := g3
    subst g3
    obtain ⟨z, hz1, hz2⟩ := odd_told g1 hwx n2 (fun x hx => n3 x (List.mem_append_left _ hx)) (n3 _ (List.mem_append_right _ List.mem_cons_self)) n4 (by simp; omega) hodd
    refine ⟨c8, j8, ?_⟩
    have pz : (eTup (aCons (eOp2 idxM (eVar 8) (eOp2 addX (eCB lenM (aCons (eVar 3) aNil)) (eC (.int 1)))) (aCons (eVar 10) aNil))) s6 (hpL ns c8 j8 g ws) = .ok (.p (tpl z msg)) (hpL ns c8 j8 g ws) := by
      have v3 : s6[3]? = some (some (.loc ((TAB g).length + 1))) := rfl
      have v8 : s6[8]? = some (some (.p (.list ((lPls (ld ++ [(b, ow')]) tc).map .int)))) := rfl
      have v10 : s6[10]? = some (some (.p (.str msg))) := rfl
      have la : atI ((lPls (ld ++ [(b, ow')]) tc).map PyData.int) (((ws.length : Nat) : Int) + 1) = some (.int z) := by
        rw [show ((ws.length : Nat) : Int) + 1 = ((ws.length + 1 : Nat) : Int) from rfl, atI_lit, List.getElem?_map, pls_at (by simpa using hz1)]
        rfl
      have tp : mkTup [.p (.int z), .p (.str msg)] = .p (tpl z msg) := rfl
      simp only [r_tup, r_cb, r_acons, r_anil, r_op2, r_c, r_var, v3, v8, v10, bind_ok, o_lenC w_cell, List.length_map, o_addXi, o_ixL, la, List.length_cons, List.length_nil, ez2, if_true, tp]
    rw [q_ret, eqpair msok (show eCall 3 F__law_told (aCons (eVar 7) (aCons (eVar 2) (aCons (eC (.int 0)) aNil))) s6 (hpL ns c8 j8 g ws) = _ from (hz2 _ ok8).1) (show eCall 3 F__law_told (aCons (eVar 7) (aCons (eVar 2) (aCons (eC (.int 1)) aNil))) s6 (hpL ns c8 j8 g ws) = _ from (hz2 _ ok8).2) pz]
    simp only [st_ok, ret_rt]
    exact fin _ _
end
end Mir.K68

namespace Mir.K68
open PySem PySem.Spec PyProof.Rows L2
/-! ### the law -/
def lS (ns : List Int) (g : Bool) (q : Q) (a b e : Option W) : Ev := [some (.ro (ns.map .int)), some (.loc 0), some (.p (.str (kW g))), some (.loc 1), some (.p (.str (stn q))), some (.loc ((TAB g).length + 1)), a, b, e]
def moves (q : Q) : List Kd := ordK.filter fun k => can q k && !decide (k = .fin)
theorem moves_ne (q : Q) : 0 < (moves q).length ∧ (moves q).length < 1000 := by cases q <;> decide +kernel
section
variable {ns : List Int} {c : Int} {j : Nat} {g : Bool} {ws : List KW} {q : Q} {a b e : Option W}
theorem C1_l (hg : gQ q = g) : C1_law (lS ns g q a b e) (hpL ns c j g ws) = .ok (.p (.list ((moves q).map knD))) (hpL ns c j g ws) := by
  have z : PySem.PyData.strOk ("end" : Str) = true := by decide +kernel
  unfold C1_law
  rw [lc_data ordK (fun k => .p (knD k)) (fun k => can q k && !decide (k = .fin)) knD (gs := []) (by
    simp only [r_iseq, e_kinds, bind_ok]
    rw [srcOf_l, List.map_map]
    rfl) rfl (by decide) fun k hk => ⟨_, rfl, by
      have zk : PySem.PyData.strOk (kn k) = true ∧ decide (kn k = ("end" : Str)) = decide (k = .fin) := by
        simp only [ordK, List.mem_cons, List.not_mem_nil, or_false] at hk
        rcases hk with rfl | rfl | rfl | rfl | rfl | rfl | rfl <;> decide +kernel
      have h2 : eDIn false (eVar 8) (eDGet (eVar 3) (eVar 4)) (lS ns g q a b (some (.p (knD k)))) (hpL ns c j g ws) = .ok (.p (.bool (can q k))) (hpL ns c j g ws) := in_l hg hk rfl (st_l hg rfl rfl)
      have h3 : eOp2 (eqM true) (eVar 8) (eC (.str "end")) (lS ns g q a b (some (.p (knD k)))) (hpL ns c j g ws) = .ok (.p (.bool (!decide (k = .fin)))) (hpL ns c j g ws) := by
        have v8 : (lS ns g q a b (some (.p (knD k))))[8]? = some (some (.p (.str (kn k)))) := rfl
        simp only [r_op2, r_var, r_c, v8, bind_ok]
        rw [o_neS zk.1 z, zk.2]
      show (bAnd _ _) (lS ns g q a b (some (.p (knD k)))) _ = _
      rw [r_band, r_bval, h2]
      simp only [bind_ok, r_boolOf, r_bval, h3]
      cases can q k <;> rfl, fun _ => rfl⟩]
  rfl
theorem set_w {x : KW} : (hpL ns c j g ws).set ((TAB g).length + 1) (.lst ((ws.map fun x => wdW x.2) ++ [wdW x.2])) = hpL ns c j g (ws ++ [x]) := by
  unfold hpL
  rw [List.set_cons_succ, List.set_append_right _ _ (Nat.le_refl _)]
  simp
theorem law_body (hq : walk (q0 g) ws = some q) (hw : ∀ x ∈ ws, wdOk x) (hl : ws.length ≤ 30) :
    ∃ (x : KW) (q' : Q) (c' : Int) (j' : Nat), step q x.1 = some q' ∧ wdOk x ∧ L1_law (lS ns g q a none none) (hpL ns c j g ws) = some (.nx (lS ns g q' none none none), hpL ns c' j' g (ws ++ [x])) := by
  have hg : gQ q = g := by rw [walk_g hq, q0_g]
  obtain ⟨c1, j1, e1⟩ := q_is_right (ns := ns) (c := c) (k := j) hq hw (by omega)
  have f1 : (bNot (bTru (eCall 5 F__law_is_right (aCons (eVar 1) (aCons (eVar 3) (aCons (eVar 2) (aCons (eVar 5) (aCons (eVar 4) aNil)))))))) (lS ns g q a none none) (hpL ns c j g ws) = .ok false (hpL ns c1 j1 g ws) := by
    have h : eCall 5 F__law_is_right (aCons (eVar 1) (aCons (eVar 3) (aCons (eVar 2) (aCons (eVar 5) (aCons (eVar 4) aNil))))) (lS ns g q a none none) (hpL ns c j g ws) = .ok (.p (.bool true)) (hpL ns c1 j1 g ws) := e1
    rw [r_bnot, r_btru, h]
    rfl
  obtain ⟨d, hd, c2, j2, e2⟩ := q_pick (w := .p (.list ((moves q).map knD))) (ns := ns) (c := c1) (k := j1) (r := TAB g ++ [.lst (ws.map fun x => wdW x.2)]) (.inr rfl) (by rw [List.length_map]; exact (moves_ne q).1) (by rw [List.length_map]; exact (moves_ne q).2)
  obtain ⟨k, hk, rfl⟩ := List.mem_map.mp hd
  have hk2 := List.mem_filter.mp hk
  have hko : k ∈ ordK := hk2.1
  have hkf : k ≠ .fin ∧ can q k = true := by
    have := hk2.2
    simp at this
    exact ⟨this.2, this.1⟩
  obtain ⟨q', hst⟩ : ∃ q', step q k = some q' := by
    have := hkf.2
    unfold can at this
    rw [if_neg hkf.1] at this
    exact Option.isSome_iff_exists.mp this
  obtain ⟨w, c3, j3, hx, e3⟩ := tokW_of (ns := ns) (c := c2) (j := j2) (g := g) (ws := ws) hko hkf.1
  refine ⟨(k, w), q', c3, j3, hst, hx, ?_⟩
  have f2 : eCall 2 F__law_pick (aCons (eVar 1) (aCons C1_law aNil)) (lS ns g q a none none) (hpL ns c1 j1 g ws) = .ok (.p (knD k)) (hpL ns c2 j2 g ws) := by
    have v1 : (lS ns g q a none none)[1]? = some (some (.loc 0)) := rfl
    have e2 : F__law_pick [.loc 0, .p (.list ((moves q).map knD))] (hpL ns c1 j1 g ws) = .ok (.p (knD k)) (hpL ns c2 j2 g ws) := e2
    simp only [r_call, r_acons, r_anil, r_var, v1, bind_ok, C1_l hg, List.length_cons, List.length_nil, decide_true, if_true, e2]
  let s1 : Ev := lS ns g q a (some (.p (knD k))) none
  have v5 : s1[5]? = some (some (.loc ((TAB g).length + 1))) := rfl
  have f3 : eCall 2 F__law_token (aCons (eVar 1) (aCons (eVar 7) aNil)) s1 (hpL ns c2 j2 g ws) = .ok (.p (.str (S w))) (hpL ns c3 j3 g ws) := e3
  have f4 : eLM appendM (eVar 5) (aCons (eCall 2 F__law_token (aCons (eVar 1) (aCons (eVar 7) aNil))) aNil) s1 (hpL ns c2 j2 g ws) = .ok (.p .none) (hpL ns c3 j3 g (ws ++ [(k, w)])) := by
    rw [r_lm, r_var, v5]
    simp only [bind_ok, lstAt_loc (w_cell (ns := ns) (c := c2) (j := j2) (ws := ws)), if_true, r_acons, r_anil, f3]
    rw [o_append w_cell (by simp; omega)]
    rw [show (W.p (.str (S w))) = wdW ((k, w) : KW).2 from rfl, set_w]
  have tn : toN q k = some (stn q') := by unfold toN; rw [if_neg hkf.1, hst]; rfl
  have f5 : eDGet (eDGet (eVar 3) (eVar 4)) (eVar 7) s1 (hpL ns c3 j3 g (ws ++ [(k, w)])) = .ok (.p (.str (stn q'))) (hpL ns c3 j3 g (ws ++ [(k, w)])) := go_l hg hko tn (st_l hg rfl rfl) rfl
  unfold L1_law
  rw [q_tidy, q_seq, q_if, f1]
  simp only [st_ok, Bool.false_eq_true, if_false, q_skip]
  rw [q_seq, q_set, f2]
  simp only [st_ok]
  change (match sSeq _ _ s1 (hpL ns c2 j2 g ws) with | some (.nx s1, m1) => _ | some (.ct s1, m1) => _ | r => r) = _
  rw [q_seq, q_expr, f4]
  simp only [st_ok]
  rw [q_set, f5]
  simp only [st_ok]
  rw [tidy_len (by rw [hpL_len, hpL_len])]
  rfl
end
theorem kinds2 : ([.str "graph", .str "tables"] : List PyData) = [.str (kW true), .str (kW false)] := rfl
theorem law_true (ns : List Int) : ∃ m, F_law [.ro (ns.map .int)] [] = .ok (.p (.bool true)) m := by
  have a2 : ∀ x y : PyData, allP [W.p x, W.p y] = some [x, y] := fun _ _ => rfl
  have ez2 : (0 + 1 + 1 ≤ sizeLine) = True := by simp [sizeLine_eq]
  have ez : (0 ≤ sizeLine) = True := by simp
  refine ⟨[], ?_⟩
  unfold F_law mkFn m_law
  let s0 : Ev := [some (.ro (ns.map .int)), none, none, none, none, none, none, none, none]
  change retE true 0 (sSeq _ _ s0 []) = _
  have e1 : eCall 1 F__law_stream (aCons (eVar 0) aNil) s0 [] = .ok (.loc 0) [strm ns 0 0] := q_stream ns
  rw [q_seq, q_set, e1]
  simp only [st_ok]
  let s1 : Ev := [some (.ro (ns.map .int)), some (.loc 0), none, none, none, none, none, none, none]
  change retE true 0 (sSeq _ _ s1 _) = _
  obtain ⟨d, hd, c1, k1, e2⟩ := q_pick (w := .p (.list [.str (kW true), .str (kW false)])) (ns := ns) (c := 0) (k := 0) (r := []) (.inr rfl) (by decide) (by decide)
  obtain ⟨g, rfl⟩ : ∃ g, d = .str (kW g) := by
    simp at hd
    rcases hd with rfl | rfl
    · exact ⟨_, rfl⟩
    · exact ⟨_, rfl⟩
  have e2 : F__law_pick [.loc 0, .p (.list [.str (kW true), .str (kW false)])] [strm ns 0 0] = .ok (.p (.str (kW g))) [strm ns c1 k1] := e2
  have e3 : eCall 2 F__law_pick (aCons (eVar 1) (aCons (eLst (aCons (eC (.str "graph")) (aCons (eC (.str "tables")) aNil))) aNil)) s1 [strm ns 0 0] = .ok (.p (.str (kW g))) [strm ns c1 k1] := by
    have v1 : s1[1]? = some (some (.loc 0)) := rfl
    simp only [r_call, r_acons, r_anil, r_lst, r_c, r_var, v1, bind_ok, List.length_cons, List.length_nil, ez2, if_true, a2, kinds2, decide_true, e2]
  rw [q_seq, q_set, e3]
  simp only [st_ok]
  let s2 : Ev := [some (.ro (ns.map .int)), some (.loc 0), some (.p (.str (kW g))), none, none, none, none, none, none]
  change retE true 0 (sSeq _ _ s2 _) = _
  have e4 : eCall 1 F__law_table_of (aCons (eVar 2) aNil) s2 [strm ns c1 k1] = .ok (.loc 1) (strm ns c1 k1 :: TAB g) := tab_of g ns c1 k1
  rw [q_seq, q_set, e4]
  simp only [st_ok]
  rw [q_seq, q_set, r_c]
  simp only [st_ok]
  rw [q_seq, q_set, r_lstL, r_anil]
  simp only [bind_ok, List.length_nil, ez, if_true, st_ok]
  have st0 : ("" : Str) = stn (q0 g) := by cases g <;> rfl
  have es : ((((s2.set 3 (some (.loc 1))).set 4 (some (.p (.str "")))).set 5 (some (.loc (strm ns c1 k1 :: TAB g).length)))) = lS ns g (q0 g) none none none := by
    rw [st0]; rfl
  rw [es]
  change retE true 0 (sSeq _ _ (lS ns g (q0 g) none none none) (hpL ns c1 k1 g [])) = _
  obtain ⟨d, c2, k2, e5, d0, d21⟩ := q_next (ns := ns) (c := c1) (k := k1) (r := TAB g ++ [.lst (([] : List KW).map fun x => wdW x.2)]) (many := 21) (by omega) (by omega)
  have e5 : F__law_next [.loc 0, .p (.int 21)] (hpL ns c1 k1 g []) = .ok (.p (.int d)) (hpL ns c2 k2 g []) := e5
  obtain ⟨n, rfl⟩ : ∃ n : Nat, d = (n : Nat) := ⟨d.toNat, by omega⟩
  have esrc : iRg1 (eCall 2 F__law_next (aCons (eVar 1) (aCons (eC (.int 21)) aNil))) (lS ns g (q0 g) none none none) (hpL ns c1 k1 g []) = .ok ⟨(rgI n).map fun i => W.p (.int i), []⟩ (hpL ns c2 k2 g []) := by
    have v1 : (lS ns g (q0 g) none none none)[1]? = some (some (.loc 0)) := rfl
    have lim : (decide ((-1000000 : Int) ≤ (n : Nat)) && decide (((n : Nat) : Int) ≤ 1000000)) = true := by simp; omega
    simp only [r_irg1, r_call, r_acons, r_anil, r_c, r_var, v1, bind_ok, List.length_cons, List.length_nil, decide_true, if_true, e5]
    rw [if_pos lim, rgP_eq, List.map_map]
    rfl
  have key := for_ex (gs := []) (t := .n 6) (body := L1_law) (e := fun i => W.p (.int i)) (xs := rgI n) (s := lS ns g (q0 g) none none none) (m := hpL ns c2 k2 g [])
    (fun pre s m => ∃ (ws : List KW) (q : Q) (c : Int) (k : Nat), ws.length = pre.length ∧ walk (q0 g) ws = some q ∧ (∀ x ∈ ws, wdOk x) ∧ s = lS ns g q none none none ∧ m = hpL ns c k g ws)
    (fun _ _ _ _ => rfl)
    (by
      rintro pre i post s m hx ⟨ws, q, c, k, hln, hwk, hok, rfl, rfl⟩
      have lp : pre.length < 21 := by
        have := congrArg List.length hx
        simp [rgI] at this
        omega
      obtain ⟨x, q', c', j', hs, hx2, hb⟩ := law_body (ns := ns) (c := c) (j := k) (a := some (.p (.int i))) hwk hok (by omega)
      refine ⟨_, rfl, _, _, hb, ws ++ [x], q', c', j', by simp [hln], walk_snoc hwk hs, fun y hy => ?_, rfl, rfl⟩
      rcases List.mem_append.mp hy with hy | hy
      · exact hok y hy
      · simp at hy; subst hy; exact hx2)
    ⟨[], q0 g, c2, k2, rfl, rfl, fun x hx => (nomatch hx), rfl, rfl⟩
  obtain ⟨s', m', hf, ws, q, c3, k3, hln, hwk, hok, rfl, rfl⟩ := key
  have lw : ws.length ≤ 30 := by rw [hln]; simp [rgI]; omega
  obtain ⟨c4, k4, r1⟩ := q_is_right (ns := ns) (c := c3) (k := k3) hwk hok (by omega)
  obtain ⟨c5, k5, r2⟩ := q_goes_on (ns := ns) (c := c4) (j := k4) hwk hok (by omega)
  have h1 : eCall 5 F__law_is_right (aCons (eVar 1) (aCons (eVar 3) (aCons (eVar 2) (aCons (eVar 5) (aCons (eVar 4) aNil))))) (lS ns g q none none none) (hpL ns c3 k3 g ws) = .ok (.p (.bool true)) (hpL ns c4 k4 g ws) := r1
  have h2 : eCall 5 F__law_goes_on (aCons (eVar 1) (aCons (eVar 3) (aCons (eVar 2) (aCons (eVar 5) (aCons (eVar 4) aNil))))) (lS ns g q none none none) (hpL ns c4 k4 g ws) = .ok (.p (.bool true)) (hpL ns c5 k5 g ws) := r2
  rw [q_seq, q_for, esrc]
  simp only [st_ok]
  rw [hf]
  dsimp only
  rw [q_ret, r_and, h1]
  simp only [bind_ok, if_true, h2, st_ok, ret_rt]
  rfl
end Mir.K68

namespace Mir.K68
open PySem PySem.Spec PyProof.Rows L2
def dd (x : Str) (i : Nat) : He.DefD := ⟨(x, none), x, x, defArgs (top i), defBody (top i), defScope (top i), [], []⟩
def dm (C m q : Str) (i j : Nat) : He.DefD := ⟨(C, some m), m, q, defArgs (mst i j), defBody (mst i j), defScope (mst i j), [], []⟩
def fn : List He.DefD := [dd "check_text" 9, dd "digits_at" 10, dd "token_at" 11, dd "scan" 12, dd "is_whole" 17, dd "is_climbing" 18, dd "are_variables" 19, dd "is_scope" 20, dd "is_number" 23, dd "is_edge" 24, dd "is_graph" 25, dd "check_graph" 26, dd "shown" 29, dd "in_order" 30, dd "joined" 31, dm "Parser" "__init__" "Parser.__init__" 33 0, dm "Parser" "look" "Parser.look" 33 1, dm "Parser" "take" "Parser.take" 33 2, dm "Parser" "numbers" "Parser.numbers" 33 3, dm "Parser" "edges" "Parser.edges" 33 4, dm "Parser" "graph" "Parser.graph" 33 5, dm "Parser" "row" "Parser.row" 33 6, dm "Parser" "table" "Parser.table" 33 7, dm "Parser" "tables" "Parser.tables" 33 8, dd "next_tokens" 34, dd "number_of" 35, dd "scope_from" 36, dd "edges_from" 37, dd "read_graph" 38, dd "row_from" 39, dd "table_from" 40, dd "read_tables" 41, dd "_law_stream" 43, dd "_law_next" 44, dd "_law_is_integer" 45, dd "_law_equal" 46, dd "_law_pick" 47, dd "_law_laid" 48, dd "_law_shown" 49, dd "_law_kinds" 50, dd "_law_listed" 51, dd "_law_table_of" 52, dd "_law_due" 53, dd "_law_told" 54, dd "_law_token" 55, dd "_law_is_right" 56, dd "_law_goes_on" 57, dd "law" 58, dm "TextError" "__init__" "TextError.__init__" 3 0, dm "Ahead" "__init__" "Ahead.__init__" 32 0]
def fa : List He.Fa := [.glo "check_text", .glo "digits_at", .glo "token_at", .glo "scan", .glo "is_whole", .glo "is_climbing", .glo "are_variables", .glo "is_scope", .glo "is_number", .glo "is_edge", .glo "is_graph", .glo "check_graph", .glo "shown", .glo "in_order", .glo "joined", .mkr "Parser", .meth "Parser" "look", .meth "Parser" "take", .meth "Parser" "numbers", .meth "Parser" "edges", .meth "Parser" "graph", .meth "Parser" "row", .meth "Parser" "table", .meth "Parser" "tables", .glo "next_tokens", .glo "number_of", .glo "scope_from", .glo "edges_from", .glo "read_graph", .glo "row_from", .glo "table_from", .glo "read_tables", .glo "_law_stream", .glo "_law_next", .glo "_law_is_integer", .glo "_law_equal", .glo "_law_pick", .glo "_law_laid", .glo "_law_shown", .glo "_law_kinds", .glo "_law_listed", .glo "_law_table_of", .glo "_law_due", .glo "_law_told", .glo "_law_token", .glo "_law_is_right", .glo "_law_goes_on", .glo "law", .meth "TextError" "__init__", .meth "Ahead" "__init__", .free "abs", .free "all", .free "bool", .free "enumerate", .free "int", .free "isinstance", .free "len", .free "list", .free "max", .free "range", .free "str", .free "tuple", .str "DIGITS" "0123456789", .int "LONGEST_TEXT" 2000, .int "MOST_COST" 100, .int "MOST_DIGITS" 6, .int "MOST_NODES" 5, .int "MOST_VARIABLE" 5, .str "SIGNS" ":,;-=", .int "WIDEST_SCOPE" 3, .glo "KINDS", .glo "Parser", .glo "Ahead", .glo "TextError", .cls "Parser", .noat "Parser" "tokens", .noat "Parser" "stops", .noat "Parser" "at", .noat "Ahead" "options", .noat "TextError" "column", .noat "TextError" "words", .exm "TextError" "Ahead" false, .exm "Ahead" "Ahead" true, .exm "TextError" "TextError" true]
def ck (K : PySem.W.Frag) : Bool := gtB K "KINDS" ["graph", "tables"] && (oexB K (He.ga K "TextError") && (oexB K (He.ga K "Ahead") && (xfB K (He.ga K "Ahead") && (xfB K (He.ga K "TextError")))))
abbrev R : PySem.W.OpenRow := PySem.W.OpenLaw.row PySem.Challenge.rw_tabletalk_k68_whole_what_can_come
abbrev hk : PySem.W.Hook := He.hookX 6 fa fn [] [] ck
def ob (s : PySem.W.SharedT) : He.AlX := He.obsX 6 fa fn [] [] ck (HandSHeadRun.getT s)
theorem ob_eq (s : PySem.W.SharedT) : ob s = hk.obs s.abs := He.obsX_eq (HandSHeadRun.getT_eq s)
def loose : List Str := (["TableError", "BadValue", "TextError", "DIGITS", "SIGNS", "LONGEST_TEXT", "MOST_DIGITS", "check_text", "digits_at", "token_at", "scan", "MOST_VARIABLE", "WIDEST_SCOPE", "MOST_COST", "is_whole", "is_climbing", "are_variables", "is_scope", "MOST_NODES", "is_number", "is_edge", "is_graph", "check_graph", "KINDS", "shown", "in_order", "joined", "Ahead", "Parser", "next_tokens"] : List Str) ++ (["number_of", "scope_from", "edges_from", "read_graph", "row_from", "table_from", "read_tables", "_law_stream", "_law_next", "_law_is_integer", "_law_equal", "_law_pick", "_law_laid", "_law_shown", "_law_kinds", "_law_listed", "_law_table_of", "_law_due", "_law_told", "_law_token", "_law_is_right", "_law_goes_on"] : List Str)
theorem topGo (w : World) : HandSHeadRun.RunEq R (PySem.W.view R.prog [58]) hk ob 6000 loose w := by
  intro os
  kernel_rfl
theorem facts {P : Program} {w : World} {K : PySem.W.Frag} {h : Heap} {mg : Str → Option Value} {f : Addr} (X : K.In h) (N : h.Ns mainGlobals mg) (hfa : mg ("law" : Str) = some (.ref f)) (c : He.SaysX fa fn [] [] ck w h K) :
    ∃ fd : FuncData, (∀ (s : Shared) (v : Value), BindsTo s fd ⟨[v], []⟩ [("_law_script", v)]) ∧ ∀ base : Heap, K.In base → base.Ns mainGlobals mg → FnOk P w K mg base (L2.CX P w) 12 f fd ["_law_script"] (SpF K F_law 1) := by
  have d := c.t.d
  have r0 : ck K = true := c.more
  obtain ⟨k0, r1⟩ := He.ba r0
  obtain ⟨k1, r2⟩ := He.ba r1
  obtain ⟨k2, r3⟩ := He.ba r2
  obtain ⟨k3, r4⟩ := He.ba r3
  have k4 := r4
  have G : Globs K mg := ⟨He.free_ok X N (d.fact 50 (f := .free "abs") rfl),
    He.free_ok X N (d.fact 51 (f := .free "all") rfl),
    He.free_ok X N (d.fact 52 (f := .free "bool") rfl),
    He.free_ok X N (d.fact 53 (f := .free "enumerate") rfl),
    He.free_ok X N (d.fact 54 (f := .free "int") rfl),
    He.free_ok X N (d.fact 55 (f := .free "isinstance") rfl),
    He.free_ok X N (d.fact 56 (f := .free "len") rfl),
    He.free_ok X N (d.fact 57 (f := .free "list") rfl),
    He.free_ok X N (d.fact 58 (f := .free "max") rfl),
    He.free_ok X N (d.fact 59 (f := .free "range") rfl),
    He.free_ok X N (d.fact 60 (f := .free "str") rfl),
    He.free_ok X N (d.fact 61 (f := .free "tuple") rfl),
    He.str_ok X N (d.fact 62 (f := .str "DIGITS" "0123456789") rfl),
    He.int_ok X N (d.fact 63 (f := .int "LONGEST_TEXT" 2000) rfl),
    He.int_ok X N (d.fact 64 (f := .int "MOST_COST" 100) rfl),
    He.int_ok X N (d.fact 65 (f := .int "MOST_DIGITS" 6) rfl),
    He.int_ok X N (d.fact 66 (f := .int "MOST_NODES" 5) rfl),
    He.int_ok X N (d.fact 67 (f := .int "MOST_VARIABLE" 5) rfl),
    He.str_ok X N (d.fact 68 (f := .str "SIGNS" ":,;-=") rfl),
    He.int_ok X N (d.fact 69 (f := .int "WIDEST_SCOPE" 3) rfl),
    gtB_ok (He.glo_ok X N (d.fact 70 (f := .glo "KINDS") rfl)) k0,
    He.glo_ok X N (d.fact 71 (f := .glo "Parser") rfl),
    He.glo_ok X N (d.fact 72 (f := .glo "Ahead") rfl),
    He.glo_ok X N (d.fact 73 (f := .glo "TextError") rfl),
    He.cls_ok (d.fact 74 (f := .cls "Parser") rfl),
    He.noat_ok (d.fact 75 (f := .noat "Parser" "tokens") rfl),
    He.noat_ok (d.fact 76 (f := .noat "Parser" "stops") rfl),
    He.noat_ok (d.fact 77 (f := .noat "Parser" "at") rfl),
    He.noat_ok (d.fact 78 (f := .noat "Ahead" "options") rfl),
    He.noat_ok (d.fact 79 (f := .noat "TextError" "column") rfl),
    He.noat_ok (d.fact 80 (f := .noat "TextError" "words") rfl),
    He.exm_ok (d.fact 81 (f := .exm "TextError" "Ahead" false) rfl),
    He.exm_ok (d.fact 82 (f := .exm "Ahead" "Ahead" true) rfl),
    He.exm_ok (d.fact 83 (f := .exm "TextError" "TextError" true) rfl),
    oexB_ok k1,
    oexB_ok k2,
    xfB_ok k3,
    xfB_ok k4⟩
  obtain ⟨fd_check_text, A_check_text⟩ := d.def_ 0 (d := dd "check_text" 9) rfl
  have g_check_text := He.glo_ok X N (d.fact 0 (f := .glo "check_text") rfl)
  obtain ⟨fd_digits_at, A_digits_at⟩ := d.def_ 1 (d := dd "digits_at" 10) rfl
  have g_digits_at := He.glo_ok X N (d.fact 1 (f := .glo "digits_at") rfl)
  obtain ⟨fd_token_at, A_token_at⟩ := d.def_ 2 (d := dd "token_at" 11) rfl
  have g_token_at := He.glo_ok X N (d.fact 2 (f := .glo "token_at") rfl)
  obtain ⟨fd_scan, A_scan⟩ := d.def_ 3 (d := dd "scan" 12) rfl
  have g_scan := He.glo_ok X N (d.fact 3 (f := .glo "scan") rfl)
  obtain ⟨fd_is_whole, A_is_whole⟩ := d.def_ 4 (d := dd "is_whole" 17) rfl
  have g_is_whole := He.glo_ok X N (d.fact 4 (f := .glo "is_whole") rfl)
  obtain ⟨fd_is_climbing, A_is_climbing⟩ := d.def_ 5 (d := dd "is_climbing" 18) rfl
  have g_is_climbing := He.glo_ok X N (d.fact 5 (f := .glo "is_climbing") rfl)
  obtain ⟨fd_are_variables, A_are_variables⟩ := d.def_ 6 (d := dd "are_variables" 19) rfl
  have g_are_variables := He.glo_ok X N (d.fact 6 (f := .glo "are_variables") rfl)
  obtain ⟨fd_is_scope, A_is_scope⟩ := d.def_ 7 (d := dd "is_scope" 20) rfl
  have g_is_scope := He.glo_ok X N (d.fact 7 (f := .glo "is_scope") rfl)
  obtain ⟨fd_is_number, A_is_number⟩ := d.def_ 8 (d := dd "is_number" 23) rfl
  have g_is_number := He.glo_ok X N (d.fact 8 (f := .glo "is_number") rfl)
  obtain ⟨fd_is_edge, A_is_edge⟩ := d.def_ 9 (d := dd "is_edge" 24) rfl
  have g_is_edge := He.glo_ok X N (d.fact 9 (f := .glo "is_edge") rfl)
  obtain ⟨fd_is_graph, A_is_graph⟩ := d.def_ 10 (d := dd "is_graph" 25) rfl
  have g_is_graph := He.glo_ok X N (d.fact 10 (f := .glo "is_graph") rfl)
  obtain ⟨fd_check_graph, A_check_graph⟩ := d.def_ 11 (d := dd "check_graph" 26) rfl
  have g_check_graph := He.glo_ok X N (d.fact 11 (f := .glo "check_graph") rfl)
  obtain ⟨fd_shown, A_shown⟩ := d.def_ 12 (d := dd "shown" 29) rfl
  have g_shown := He.glo_ok X N (d.fact 12 (f := .glo "shown") rfl)
  obtain ⟨fd_in_order, A_in_order⟩ := d.def_ 13 (d := dd "in_order" 30) rfl
  have g_in_order := He.glo_ok X N (d.fact 13 (f := .glo "in_order") rfl)
  obtain ⟨fd_joined, A_joined⟩ := d.def_ 14 (d := dd "joined" 31) rfl
  have g_joined := He.glo_ok X N (d.fact 14 (f := .glo "joined") rfl)
  obtain ⟨fd_Parser___init__, A_Parser___init__⟩ := d.def_ 15 (d := dm "Parser" "__init__" "Parser.__init__" 33 0) rfl
  have g_Parser___init__ := He.mkr_ok (d.fact 15 (f := .mkr "Parser") rfl)
  obtain ⟨fd_Parser_look, A_Parser_look⟩ := d.def_ 16 (d := dm "Parser" "look" "Parser.look" 33 1) rfl
  have g_Parser_look := He.meth_ok (d.fact 16 (f := .meth "Parser" "look") rfl)
  obtain ⟨fd_Parser_take, A_Parser_take⟩ := d.def_ 17 (d := dm "Parser" "take" "Parser.take" 33 2) rfl
  have g_Parser_take := He.meth_ok (d.fact 17 (f := .meth "Parser" "take") rfl)
  obtain ⟨fd_Parser_numbers, A_Parser_numbers⟩ := d.def_ 18 (d := dm "Parser" "numbers" "Parser.numbers" 33 3) rfl
  have g_Parser_numbers := He.meth_ok (d.fact 18 (f := .meth "Parser" "numbers") rfl)
  obtain ⟨fd_Parser_edges, A_Parser_edges⟩ := d.def_ 19 (d := dm "Parser" "edges" "Parser.edges" 33 4) rfl
  have g_Parser_edges := He.meth_ok (d.fact 19 (f := .meth "Parser" "edges") rfl)
  obtain ⟨fd_Parser_graph, A_Parser_graph⟩ := d.def_ 20 (d := dm "Parser" "graph" "Parser.graph" 33 5) rfl
  have g_Parser_graph := He.meth_ok (d.fact 20 (f := .meth "Parser" "graph") rfl)
  obtain ⟨fd_Parser_row, A_Parser_row⟩ := d.def_ 21 (d := dm "Parser" "row" "Parser.row" 33 6) rfl
  have g_Parser_row := He.meth_ok (d.fact 21 (f := .meth "Parser" "row") rfl)
  obtain ⟨fd_Parser_table, A_Parser_table⟩ := d.def_ 22 (d := dm "Parser" "table" "Parser.table" 33 7) rfl
  have g_Parser_table := He.meth_ok (d.fact 22 (f := .meth "Parser" "table") rfl)
  obtain ⟨fd_Parser_tables, A_Parser_tables⟩ := d.def_ 23 (d := dm "Parser" "tables" "Parser.tables" 33 8) rfl
  have g_Parser_tables := He.meth_ok (d.fact 23 (f := .meth "Parser" "tables") rfl)
  obtain ⟨fd_next_tokens, A_next_tokens⟩ := d.def_ 24 (d := dd "next_tokens" 34) rfl
  have g_next_tokens := He.glo_ok X N (d.fact 24 (f := .glo "next_tokens") rfl)
  obtain ⟨fd_number_of, A_number_of⟩ := d.def_ 25 (d := dd "number_of" 35) rfl
  have g_number_of := He.glo_ok X N (d.fact 25 (f := .glo "number_of") rfl)
  obtain ⟨fd_scope_from, A_scope_from⟩ := d.def_ 26 (d := dd "scope_from" 36) rfl
  have g_scope_from := He.glo_ok X N (d.fact 26 (f := .glo "scope_from") rfl)
  obtain ⟨fd_edges_from, A_edges_from⟩ := d.def_ 27 (d := dd "edges_from" 37) rfl
  have g_edges_from := He.glo_ok X N (d.fact 27 (f := .glo "edges_from") rfl)
  obtain ⟨fd_read_graph, A_read_graph⟩ := d.def_ 28 (d := dd "read_graph" 38) rfl
  have g_read_graph := He.glo_ok X N (d.fact 28 (f := .glo "read_graph") rfl)
  obtain ⟨fd_row_from, A_row_from⟩ := d.def_ 29 (d := dd "row_from" 39) rfl
  have g_row_from := He.glo_ok X N (d.fact 29 (f := .glo "row_from") rfl)
  obtain ⟨fd_table_from, A_table_from⟩ := d.def_ 30 (d := dd "table_from" 40) rfl
  have g_table_from := He.glo_ok X N (d.fact 30 (f := .glo "table_from") rfl)
  obtain ⟨fd_read_tables, A_read_tables⟩ := d.def_ 31 (d := dd "read_tables" 41) rfl
  have g_read_tables := He.glo_ok X N (d.fact 31 (f := .glo "read_tables") rfl)
  obtain ⟨fd__law_stream, A__law_stream⟩ := d.def_ 32 (d := dd "_law_stream" 43) rfl
  have g__law_stream := He.glo_ok X N (d.fact 32 (f := .glo "_law_stream") rfl)
  obtain ⟨fd__law_next, A__law_next⟩ := d.def_ 33 (d := dd "_law_next" 44) rfl
  have g__law_next := He.glo_ok X N (d.fact 33 (f := .glo "_law_next") rfl)
  obtain ⟨fd__law_is_integer, A__law_is_integer⟩ := d.def_ 34 (d := dd "_law_is_integer" 45) rfl
  have g__law_is_integer := He.glo_ok X N (d.fact 34 (f := .glo "_law_is_integer") rfl)
  obtain ⟨fd__law_equal, A__law_equal⟩ := d.def_ 35 (d := dd "_law_equal" 46) rfl
  have g__law_equal := He.glo_ok X N (d.fact 35 (f := .glo "_law_equal") rfl)
  obtain ⟨fd__law_pick, A__law_pick⟩ := d.def_ 36 (d := dd "_law_pick" 47) rfl
  have g__law_pick := He.glo_ok X N (d.fact 36 (f := .glo "_law_pick") rfl)
  obtain ⟨fd__law_laid, A__law_laid⟩ := d.def_ 37 (d := dd "_law_laid" 48) rfl
  have g__law_laid := He.glo_ok X N (d.fact 37 (f := .glo "_law_laid") rfl)
  obtain ⟨fd__law_shown, A__law_shown⟩ := d.def_ 38 (d := dd "_law_shown" 49) rfl
  have g__law_shown := He.glo_ok X N (d.fact 38 (f := .glo "_law_shown") rfl)
  obtain ⟨fd__law_kinds, A__law_kinds⟩ := d.def_ 39 (d := dd "_law_kinds" 50) rfl
  have g__law_kinds := He.glo_ok X N (d.fact 39 (f := .glo "_law_kinds") rfl)
  obtain ⟨fd__law_listed, A__law_listed⟩ := d.def_ 40 (d := dd "_law_listed" 51) rfl
  have g__law_listed := He.glo_ok X N (d.fact 40 (f := .glo "_law_listed") rfl)
  obtain ⟨fd__law_table_of, A__law_table_of⟩ := d.def_ 41 (d := dd "_law_table_of" 52) rfl
  have g__law_table_of := He.glo_ok X N (d.fact 41 (f := .glo "_law_table_of") rfl)
  obtain ⟨fd__law_due, A__law_due⟩ := d.def_ 42 (d := dd "_law_due" 53) rfl
  have g__law_due := He.glo_ok X N (d.fact 42 (f := .glo "_law_due") rfl)
  obtain ⟨fd__law_told, A__law_told⟩ := d.def_ 43 (d := dd "_law_told" 54) rfl
  have g__law_told := He.glo_ok X N (d.fact 43 (f := .glo "_law_told") rfl)
  obtain ⟨fd__law_token, A__law_token⟩ := d.def_ 44 (d := dd "_law_token" 55) rfl
  have g__law_token := He.glo_ok X N (d.fact 44 (f := .glo "_law_token") rfl)
  obtain ⟨fd__law_is_right, A__law_is_right⟩ := d.def_ 45 (d := dd "_law_is_right" 56) rfl
  have g__law_is_right := He.glo_ok X N (d.fact 45 (f := .glo "_law_is_right") rfl)
  obtain ⟨fd__law_goes_on, A__law_goes_on⟩ := d.def_ 46 (d := dd "_law_goes_on" 57) rfl
  have g__law_goes_on := He.glo_ok X N (d.fact 46 (f := .glo "_law_goes_on") rfl)
  obtain ⟨fd_law, A_law⟩ := d.def_ 47 (d := dd "law" 58) rfl
  have g_law := He.glo_ok X N (d.fact 47 (f := .glo "law") rfl)
  obtain ⟨fd_TextError, A_TextError⟩ := d.def_ 48 (d := dm "TextError" "__init__" "TextError.__init__" 3 0) rfl
  have g_TextError := He.meth_ok (d.fact 48 (f := .meth "TextError" "__init__") rfl)
  obtain ⟨fd_Ahead, A_Ahead⟩ := d.def_ 49 (d := dm "Ahead" "__init__" "Ahead.__init__" 32 0) rfl
  have g_Ahead := He.meth_ok (d.fact 49 (f := .meth "Ahead" "__init__") rfl)
  have e := hfa.symm.trans g_law
  cases e
  have b := FunD.bindsA (ps := ["_law_script"]) A_law fun _ _ _ _ _ _ us hl => match us, hl with | [_], _ => rfl
  refine ⟨fd_law, fun s v => b s [v] rfl, fun base _ _ => ?_⟩
  have o_TextError := ok_TextError (P := P) (w := w) (base := base) G A_TextError g_TextError
  have o_Ahead := ok_Ahead (P := P) (w := w) (base := base) G A_Ahead g_Ahead
  have o_check_text := ok_check_text (P := P) (w := w) (base := base) G A_check_text g_check_text 
  have o_digits_at := ok_digits_at (P := P) (w := w) (base := base) G A_digits_at g_digits_at 
  have o_token_at := ok_token_at (P := P) (w := w) (base := base) G A_token_at g_token_at o_digits_at o_TextError
  have o_scan := ok_scan (P := P) (w := w) (base := base) G A_scan g_scan o_check_text o_token_at
  have o_is_whole := ok_is_whole (P := P) (w := w) (base := base) G A_is_whole g_is_whole 
  have o_is_climbing := ok_is_climbing (P := P) (w := w) (base := base) G A_is_climbing g_is_climbing 
  have o_are_variables := ok_are_variables (P := P) (w := w) (base := base) G A_are_variables g_are_variables o_is_whole o_is_climbing
  have o_is_scope := ok_is_scope (P := P) (w := w) (base := base) G A_is_scope g_is_scope o_are_variables
  have o_is_number := ok_is_number (P := P) (w := w) (base := base) G A_is_number g_is_number 
  have o_is_edge := ok_is_edge (P := P) (w := w) (base := base) G A_is_edge g_is_edge o_is_number
  have o_is_graph := ok_is_graph (P := P) (w := w) (base := base) G A_is_graph g_is_graph o_is_number o_is_scope o_is_edge
  have o_check_graph := ok_check_graph (P := P) (w := w) (base := base) G A_check_graph g_check_graph o_is_graph
  have o_shown := ok_shown (P := P) (w := w) (base := base) G A_shown g_shown 
  have o_in_order := ok_in_order (P := P) (w := w) (base := base) G A_in_order g_in_order 
  have o_joined := ok_joined (P := P) (w := w) (base := base) G A_joined g_joined 
  have o_Parser___init__ := ok_Parser___init__ (P := P) (w := w) (base := base) G A_Parser___init__ g_Parser___init__ 
  have o_Parser_look := ok_Parser_look (P := P) (w := w) (base := base) G A_Parser_look g_Parser_look o_in_order o_shown o_joined o_Ahead o_TextError
  have o_Parser_take := ok_Parser_take (P := P) (w := w) (base := base) G A_Parser_take g_Parser_take o_Parser_look
  have o_Parser_numbers := ok_Parser_numbers (P := P) (w := w) (base := base) G A_Parser_numbers g_Parser_numbers o_Parser_take
  have o_Parser_edges := ok_Parser_edges (P := P) (w := w) (base := base) G A_Parser_edges g_Parser_edges o_Parser_take
  have o_Parser_graph := ok_Parser_graph (P := P) (w := w) (base := base) G A_Parser_graph g_Parser_graph o_Parser_take o_Parser_numbers o_Parser_edges
  have o_Parser_row := ok_Parser_row (P := P) (w := w) (base := base) G A_Parser_row g_Parser_row o_Parser_numbers o_Parser_take
  have o_Parser_table := ok_Parser_table (P := P) (w := w) (base := base) G A_Parser_table g_Parser_table o_Parser_look o_Parser_take o_Parser_row
  have o_Parser_tables := ok_Parser_tables (P := P) (w := w) (base := base) G A_Parser_tables g_Parser_tables o_Parser_table
  have o_next_tokens := ok_next_tokens (P := P) (w := w) (base := base) G A_next_tokens g_next_tokens o_check_text o_Parser___init__ o_scan o_Parser_graph o_Parser_tables
  have o_number_of := ok_number_of (P := P) (w := w) (base := base) G A_number_of g_number_of o_TextError
  have o_scope_from := ok_scope_from (P := P) (w := w) (base := base) G A_scope_from g_scope_from o_number_of o_TextError
  have o_edges_from := ok_edges_from (P := P) (w := w) (base := base) G A_edges_from g_edges_from o_number_of o_TextError
  have o_read_graph := ok_read_graph (P := P) (w := w) (base := base) G A_read_graph g_read_graph o_Parser_graph o_Parser___init__ o_scan o_number_of o_scope_from o_edges_from o_TextError
  have o_row_from := ok_row_from (P := P) (w := w) (base := base) G A_row_from g_row_from o_number_of o_TextError
  have o_table_from := ok_table_from (P := P) (w := w) (base := base) G A_table_from g_table_from o_row_from o_number_of o_TextError
  have o_read_tables := ok_read_tables (P := P) (w := w) (base := base) G A_read_tables g_read_tables o_check_graph o_Parser_tables o_Parser___init__ o_scan o_table_from o_TextError
  have o__law_stream := ok__law_stream (P := P) (w := w) (base := base) G A__law_stream g__law_stream 
  have o__law_next := ok__law_next (P := P) (w := w) (base := base) G A__law_next g__law_next 
  have o__law_is_integer := ok__law_is_integer (P := P) (w := w) (base := base) G A__law_is_integer g__law_is_integer 
  have o__law_equal := ok__law_equal (P := P) (w := w) (base := base) G A__law_equal g__law_equal o__law_is_integer 5
  have o__law_pick := ok__law_pick (P := P) (w := w) (base := base) G A__law_pick g__law_pick o__law_next
  have o__law_laid := ok__law_laid (P := P) (w := w) (base := base) G A__law_laid g__law_laid o__law_next
  have o__law_shown := ok__law_shown (P := P) (w := w) (base := base) G A__law_shown g__law_shown 
  have o__law_kinds := ok__law_kinds (P := P) (w := w) (base := base) G A__law_kinds g__law_kinds 
  have o__law_listed := ok__law_listed (P := P) (w := w) (base := base) G A__law_listed g__law_listed 
  have o__law_table_of := ok__law_table_of (P := P) (w := w) (base := base) G A__law_table_of g__law_table_of 
  have o__law_due := ok__law_due (P := P) (w := w) (base := base) G A__law_due g__law_due o__law_kinds o__law_shown
  have o__law_told := ok__law_told (P := P) (w := w) (base := base) G A__law_told g__law_told o_next_tokens o_read_graph o_read_tables
  have o__law_token := ok__law_token (P := P) (w := w) (base := base) G A__law_token g__law_token o__law_pick
  have o__law_is_right := ok__law_is_right (P := P) (w := w) (base := base) G A__law_is_right g__law_is_right o__law_laid o__law_due o__law_equal o__law_told o__law_listed
  have o__law_goes_on := ok__law_goes_on (P := P) (w := w) (base := base) G A__law_goes_on g__law_goes_on o__law_kinds o__law_next o__law_token o__law_laid o__law_due o__law_told o__law_equal o__law_listed o__law_pick
  exact ok_law (P := P) (w := w) (base := base) G A_law o__law_stream o__law_pick o__law_table_of o__law_next o__law_is_right o__law_kinds o__law_token o__law_goes_on
end Mir.K68
open PySem PySem.W PySem.Calls PyProof.Rows
theorem PySem.Challenge.cw_tabletalk_k68_whole_what_can_come_holds : PySem.Challenge.rw_tabletalk_k68_whole_what_can_come.Holds := by
  w_on; o_law
  refine HandSHeadRun.head_any (r := OpenLaw.row PySem.Challenge.rw_tabletalk_k68_whole_what_can_come) (q := view (OpenLaw.row PySem.Challenge.rw_tabletalk_k68_whole_what_can_come).prog [58]) (H := Mir.K68.hk) (ob := Mir.K68.ob) (M := 6000) (loose := Mir.K68.loose) (d := HandSHeadRun.topDef (OpenLaw.row PySem.Challenge.rw_tabletalk_k68_whole_what_can_come).prog 58) (kwd := []) Mir.K68.ob_eq
    (by kernel_rfl) (fun s => by kernel_rfl) Mir.K68.topGo (by kernel_rfl) (by kernel_rfl) (by kernel_rfl) (by rfl) (by first | assumption | decide +kernel) (by decide +kernel) ⟨rfl, rfl, rfl, rfl, rfl, by decide +kernel⟩ ?hw ?hc
  case hw => w_witness2
  case hc =>
    refine Mir.walk_w (l := PySem.Challenge.rw_tabletalk_k68_whole_what_can_come) (n := 63) (k := 12) (x := "_law_script") rfl (by decide) (by kernel_rfl) ⟨rfl, by decide, by decide⟩ ?F
    case F =>
      intro w mg fa h Y G hmg0
      obtain ⟨K, KX, c⟩ := Y
      have hmg : mg ("law" : PySem.Str) = some (.ref fa) := by
        have e : (HandSHeadRun.topDef (OpenLaw.row PySem.Challenge.rw_tabletalk_k68_whole_what_can_come).prog 58).name = ("law" : PySem.Str) := by kernel_rfl
        rw [← e]
        exact hmg0
      obtain ⟨fd, hb, hF⟩ := Mir.K68.facts (P := (PySem.Challenge.rw_tabletalk_k68_whole_what_can_come).prog) (w := w) KX G hmg c
      exact ⟨K, fd, Mir.SpF K Mir.K68.F_law 1, KX, hb, fun H a ns hl hS => Mir.law_sp (fun ns _ => Mir.K68.law_true ns) H a ns hl hS, hF⟩


