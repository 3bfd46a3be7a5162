import PyProof.Rows.All
import Wide.All
import OpenK.AllK
import Wide.FinOn
import HandS.ForMost
import HandS.Exc
import HandS.ExcOwn
import HandS.ExcCtx
import HandS.CallSlots
import HandS.Nested
import KE.KDflt
import HandS.TupAny
import HandS.TupMul
import HandS.Flow
import HandS.Deep
import HandS.Walk
import HandS.IsInst
import HandS.Conv
import KE.KExcSuper
import HandS.ExcInit
import KE.KIsAll
import HandS.ExcIs
import HandS.ExcField
import HandS.HotCalls
import HandS.Flt
import PyProof.ReprRoads
import HandS.EndTab
import HandS.TupSets
import HandS.SetFor
import HandS.SetTxt0
import HandS.More
import KE.IntTextLaws
import PyProof.StrLawsRepr
import PyProof.Rows.RegStrFacts
import PySem.Challenge.RW_marktrees_k33_whole_words_of_texts
set_option Elab.async false
set_option linter.all false
set_option maxRecDepth 100000
/-! MtCore: plain data D, a plain store of changing things, and what a piece of Python does to them. -/
namespace MT
open PySem PySem.Spec PyProof.Rows L2

/-- plain data: texts are lists of code points; obj: a changing thing by its number -/
inductive D where
  | non | bl (b : Bool) | int (i : Int) | str (s : List Nat) | flt (b : UInt64)
  | tup (ds : List D) | lst (ds : List D) | dic (ks : List Key) (vs : List D)
  | obj (n : Nat) | ins (c : Nat) (ds : List D) | scr (ns : List Int)
  /-- a lambda with the values that it captured; one of the running frame; the exception that is handled -/
  | clo (k : Nat) (ds : List D) | lam (k : Nat) | exn (c : Nat) (ds : List D)
instance : Inhabited D := ⟨.non⟩
abbrev txt (l : List Nat) : Str := ⟨l.toArray⟩
/-- what changes -/
inductive MO where
  | lst (ds : List D) | ins (c : Nat) (ns : List Str) (ds : List D) | dic (ks : List Key) (vs : List D)
abbrev Mem := List MO
/-- a dict that stays: made by the run, or written in the text -/
def DkT (K : PySem.W.Frag) (w : World) (F : Hp) (a : Addr) (kvs : List (Key × V)) : Prop :=
  F a = some (.dK kvs) ∨ ∃ es n, K.lookup a = some ⟨.type "dict", none, .dict es n, #[]⟩ ∧ PySem.W.KeysLit w.params es.toList ∧ (a == sysModules) = false ∧
    ∀ z : Str, ∃ r, PySem.W.nsIn K a z = some r ∧ RelO (valV kvs (.inr z)) r
/-- the words of a lambda, the names that it captures, how many defaults it has (each 0) -/
structure LamW where
  qual : Str
  params : Arguments
  body : Expr
  scope : Scope
  fr : List Str
  nd : Nat
/-- what is known of the program's top: the written part, classes by number, their fields, lambdas; the running frame's cells, the tables of code objects -/
structure Gam where
  K : PySem.W.Frag
  P : Program
  w : World
  cls : Nat → Addr
  fld : Nat → List Str
  lam : Nat → LamW
  cells : Option (List (Str × Addr))
  T : List NdefX.NTab
  /-- the exception that is handled: where, its dict, its class -/
  hot : Option (Addr × Option Addr × Nat)
/-- at f: a lambda's function object -/
def LamO (f : Addr) (L : LamW) (cl : List (Str × Addr)) (c : Addr) (dV : Value) : HO := .ext fun h => ∃ (od : Option Addr) (sl : Array (Option Value)) (doc pm ctv : Value), h.get? f = some (⟨.type "function", od, .func (PySem.W.kdv_fn "<lambda>" L.qual L.params (.expr L.body) L.scope cl dV doc pm (.ref c) ctv), sl⟩ : Obj)
/-- at c: just this object -/
def CellX (c : Addr) (o : Obj) : HO := .ext fun h => h.get? c = some o
def DfAt (F : Hp) (nd : Nat) (dV : Value) : Prop := (nd = 0 ∧ dV = .none) ∨ (nd ≠ 0 ∧ ∃ t, dV = .ref t ∧ F t = some (.tup (List.replicate nd (.int 0))))
structure LamAt (F : Hp) (L : LamW) (f : Addr) (cl : List (Str × Addr)) (c : Addr) (dV : Value) : Prop where
  fn : F f = some (LamO f L cl c dV)
  code : F c = some (LamX.CodeO c L.qual)
  df : DfAt F L.nd dV
/-- the captured cells, which stay as they are -/
structure CapsAt (F : Hp) (cl : List (Str × Addr)) (fr : List Str) (ws : List V) : Prop where
  len : ws.length = fr.length
  dom : ∀ y c, cl.lookup y = some c → y ∈ fr
  inj : ∀ x y c, cl.lookup x = some c → cl.lookup y = some c → x = y
  has : ∀ (i : Nat) (y : Str), fr[i]? = some y → ∃ c o u w, cl.lookup y = some c ∧ F c = some (CellX c o) ∧ o.data = .cell (some u) ∧ ws[i]? = some w ∧ L2.RelV w u
theorem DfAt.ext {F F' : Hp} {nd : Nat} {dV : Value} (e : ∀ a o, F a = some o → F' a = some o) (h : DfAt F nd dV) : DfAt F' nd dV := by
  rcases h with h | ⟨h, t, h1, h2⟩
  · exact .inl h
  · exact .inr ⟨h, t, h1, e _ _ h2⟩
theorem LamAt.ext {F F' : Hp} {L : LamW} {f c : Addr} {cl : List (Str × Addr)} {dV : Value} (e : ∀ a o, F a = some o → F' a = some o) (h : LamAt F L f cl c dV) : LamAt F' L f cl c dV := ⟨e _ _ h.fn, e _ _ h.code, h.df.ext e⟩
theorem CapsAt.ext {F F' : Hp} {cl : List (Str × Addr)} {fr : List Str} {ws : List V} (e : ∀ a o, F a = some o → F' a = some o) (h : CapsAt F cl fr ws) : CapsAt F' cl fr ws :=
  ⟨h.len, h.dom, h.inj, fun i y hy => by
    obtain ⟨c, o, u, w, h1, h2, h3⟩ := h.has i y hy
    exact ⟨c, o, u, w, h1, e _ _ h2, h3⟩⟩

section
variable (Γ : Gam) (F : Hp) (ι : List Addr)
mutual
def Rep : D → V → Prop
  | .non, v => v = .non
  | .bl b, v => v = .bl b
  | .int i, v => v = .int i
  | .str s, v => v = .str (txt s)
  | .flt b, v => v = .flt b
  | .tup ds, v => ∃ a xs, v = .ref a ∧ SqT Γ.K F a xs ∧ RepL ds xs
  | .lst ds, v => ∃ a xs, v = .ref a ∧ F a = some (.lst xs) ∧ RepL ds xs
  | .dic ks vs, v => ∃ a kvs, v = .ref a ∧ DkT Γ.K Γ.w F a kvs ∧ kvs.map (·.1) = ks ∧ RepL vs (kvs.map (·.2))
  | .obj n, v => ∃ a, ι[n]? = some a ∧ v = .ref a
  | .ins c ds, v => ∃ a dx xs, v = .ref a ∧ F a = some (.ins (Γ.cls c) dx ((Γ.fld c).zip xs)) ∧ xs.length = (Γ.fld c).length ∧ RepL ds xs
  | .clo k ds, v => ∃ f cl c dV ws, v = .ref f ∧ LamAt F (Γ.lam k) f cl c dV ∧ CapsAt F cl (Γ.lam k).fr ws ∧ RepL ds ws
  | .lam k, v => ∃ f c dV cells, v = .ref f ∧ Γ.cells = some cells ∧ LamAt F (Γ.lam k) f (cloFrom cells (Γ.lam k).scope.names []) c dV
  | .exn c ds, v => ∃ a d, Γ.hot = some (a, d, c) ∧ v = .ref a ∧ ((d = none ∧ ds = [] ∧ Γ.fld c = []) ∨ ∃ dd xs, d = some dd ∧ F dd = some (.xd ((Γ.fld c).zip xs)) ∧ xs.length = (Γ.fld c).length ∧ RepL ds xs)
  | .scr ns, v => ∃ a, v = .ref a ∧ SqL Γ.K F a (ns.map V.int)
def RepL : List D → List V → Prop
  | [], xs => xs = []
  | d :: ds, xs => ∃ x r, xs = x :: r ∧ Rep d x ∧ RepL ds r
end
def RepO : MO → HO → Prop
  | .lst ds, o => ∃ xs, o = .lst xs ∧ RepL Γ F ι ds xs
  | .ins c ns ds, o => ∃ dx xs, o = .ins (Γ.cls c) dx (ns.zip xs) ∧ xs.length = ns.length ∧ RepL Γ F ι ds xs
  | .dic ks vs, o => ∃ kvs, o = .dK kvs ∧ kvs.map (·.1) = ks ∧ RepL Γ F ι vs (kvs.map (·.2))
end

/-- a greater world -/
structure Ext (F : Hp) (ι : List Addr) (F' : Hp) (ι' : List Addr) : Prop where
  f : ∀ a o, F a = some o → F' a = some o
  i : ∃ t, ι' = ι ++ t
theorem Ext.refl {F : Hp} {ι : List Addr} : Ext F ι F ι := ⟨fun _ _ h => h, [], by simp⟩
theorem Ext.trans {F F1 F2 : Hp} {ι i1 i2 : List Addr} (a : Ext F ι F1 i1) (b : Ext F1 i1 F2 i2) : Ext F ι F2 i2 :=
  ⟨fun c o h => b.f c o (a.f c o h), by
    obtain ⟨t, e⟩ := a.i
    obtain ⟨u, e'⟩ := b.i
    exact ⟨t ++ u, by rw [e', e, List.append_assoc]⟩⟩
theorem Ext.at {F F' : Hp} {ι ι' : List Addr} (x : Ext F ι F' ι') {n : Nat} {a : Addr} (h : ι[n]? = some a) : ι'[n]? = some a := by
  obtain ⟨t, e⟩ := x.i
  rw [e, List.getElem?_append_left (List.getElem?_eq_some_iff.mp h).1]
  exact h
theorem SqL.ext {K : PySem.W.Frag} {F F' : Hp} {a : Addr} {xs : List V} (e : ∀ a o, F a = some o → F' a = some o) (h : SqL K F a xs) : SqL K F' a xs := Same.seq e h
theorem SqT.ext {K : PySem.W.Frag} {F F' : Hp} {a : Addr} {xs : List V} (e : ∀ a o, F a = some o → F' a = some o) (h : SqT K F a xs) : SqT K F' a xs := by
  rcases h with (h | ⟨o, h⟩) | h
  · exact .inl (.inl (e _ _ h))
  · exact .inl (.inr ⟨o, e _ _ h⟩)
  · exact .inr h
theorem DkT.ext {K : PySem.W.Frag} {w : World} {F F' : Hp} {a : Addr} {kvs : List (Key × V)} (e : ∀ a o, F a = some o → F' a = some o) (h : DkT K w F a kvs) : DkT K w F' a kvs := by
  rcases h with h | h
  · exact .inl (e _ _ h)
  · exact .inr h
section
variable {Γ : Gam} {F F' : Hp} {ι ι' : List Addr}
mutual
theorem Rep.ext (x : Ext F ι F' ι') : ∀ (d : D) (v : V), Rep Γ F ι d v → Rep Γ F' ι' d v
  | .non, _, h => by simpa only [Rep] using h
  | .bl _, _, h => by simpa only [Rep] using h
  | .int _, _, h => by simpa only [Rep] using h
  | .str _, _, h => by simpa only [Rep] using h
  | .flt _, _, h => by simpa only [Rep] using h
  | .tup ds, _, h => by
    simp only [Rep] at h ⊢
    obtain ⟨a, xs, e, s, r⟩ := h
    exact ⟨a, xs, e, SqT.ext x.f s, RepL.ext x ds xs r⟩
  | .lst ds, _, h => by
    simp only [Rep] at h ⊢
    obtain ⟨a, xs, e, s, r⟩ := h
    exact ⟨a, xs, e, x.f _ _ s, RepL.ext x ds xs r⟩
  | .dic ks ds, _, h => by
    simp only [Rep] at h ⊢
    obtain ⟨a, kvs, e, s, q, r⟩ := h
    exact ⟨a, kvs, e, s.ext x.f, q, RepL.ext x ds _ r⟩
  | .obj n, _, h => by
    simp only [Rep] at h ⊢
    obtain ⟨a, e, q⟩ := h
    exact ⟨a, x.at e, q⟩
  | .ins c ds, _, h => by
    simp only [Rep] at h ⊢
    obtain ⟨a, dx, xs, e, s, q, r⟩ := h
    exact ⟨a, dx, xs, e, x.f _ _ s, q, RepL.ext x ds _ r⟩
  | .clo k ds, _, h => by
    simp only [Rep] at h ⊢
    obtain ⟨f, cl, c, dV, ws, e, l, q, r⟩ := h
    exact ⟨f, cl, c, dV, ws, e, l.ext x.f, q.ext x.f, RepL.ext x ds ws r⟩
  | .lam k, _, h => by
    simp only [Rep] at h ⊢
    obtain ⟨f, c, dV, cells, e, e2, l⟩ := h
    exact ⟨f, c, dV, cells, e, e2, l.ext x.f⟩
  | .exn c ds, _, h => by
    simp only [Rep] at h ⊢
    obtain ⟨a, d, e1, e2, h⟩ := h
    refine ⟨a, d, e1, e2, ?_⟩
    rcases h with h | ⟨dd, xs, h1, h2, h3, h4⟩
    · exact .inl h
    · exact .inr ⟨dd, xs, h1, x.f _ _ h2, h3, RepL.ext x ds xs h4⟩
  | .scr ns, _, h => by
    simp only [Rep] at h ⊢
    obtain ⟨a, e, q⟩ := h
    exact ⟨a, e, SqL.ext x.f q⟩
theorem RepL.ext (x : Ext F ι F' ι') : ∀ (ds : List D) (xs : List V), RepL Γ F ι ds xs → RepL Γ F' ι' ds xs
  | [], _, h => by simpa only [RepL] using h
  | d :: ds, _, h => by
    simp only [RepL] at h ⊢
    obtain ⟨y, r, e, h1, h2⟩ := h
    exact ⟨y, r, e, Rep.ext x d y h1, RepL.ext x ds r h2⟩
end
theorem RepO.ext (x : Ext F ι F' ι') {m : MO} {o : HO} (h : RepO Γ F ι m o) : RepO Γ F' ι' m o := by
  cases m with
  | lst ds => obtain ⟨xs, e, r⟩ := h; exact ⟨xs, e, RepL.ext x _ _ r⟩
  | ins c ns ds => obtain ⟨dx, xs, e, l, r⟩ := h; exact ⟨dx, xs, e, l, RepL.ext x _ _ r⟩
  | dic ks ds => obtain ⟨kvs, e, l, r⟩ := h; exact ⟨kvs, e, l, RepL.ext x _ _ r⟩
theorem RepL.length : ∀ {ds : List D} {xs : List V}, RepL Γ F ι ds xs → xs.length = ds.length
  | [], _, h => by simp only [RepL] at h; rw [h]; rfl
  | d :: ds, _, h => by
    simp only [RepL] at h
    obtain ⟨y, r, e, _, h2⟩ := h
    rw [e, List.length_cons, List.length_cons, RepL.length h2]
theorem RepL.get : ∀ {ds : List D} {xs : List V} {i : Nat} {d : D}, RepL Γ F ι ds xs → ds[i]? = some d → ∃ x, xs[i]? = some x ∧ Rep Γ F ι d x
  | [], _, _, _, _, e => by simp at e
  | d :: ds, _, 0, _, h, e => by
    simp only [RepL] at h
    obtain ⟨y, r, e1, h1, h2⟩ := h
    simp only [List.getElem?_cons_zero, Option.some.injEq] at e
    subst e1 e
    exact ⟨y, rfl, h1⟩
  | d :: ds, _, i + 1, _, h, e => by
    simp only [RepL] at h
    obtain ⟨y, r, e1, h1, h2⟩ := h
    subst e1
    simp only [List.getElem?_cons_succ] at e ⊢
    exact RepL.get h2 e
theorem RepL.get' {ds : List D} {xs : List V} {i : Nat} {x : V} (h : RepL Γ F ι ds xs) (e : xs[i]? = some x) : ∃ d, ds[i]? = some d ∧ Rep Γ F ι d x := by
  have hi : i < ds.length := by
    rw [← h.length]
    exact (List.getElem?_eq_some_iff.mp e).1
  obtain ⟨y, e1, r⟩ := RepL.get (d := ds[i]) h (List.getElem?_eq_getElem hi)
  rw [e] at e1
  cases e1
  exact ⟨_, List.getElem?_eq_getElem hi, r⟩
theorem RepL.app : ∀ {ds es : List D} {xs ys : List V}, RepL Γ F ι ds xs → RepL Γ F ι es ys → RepL Γ F ι (ds ++ es) (xs ++ ys)
  | [], _, _, _, h, h' => by simp only [RepL] at h; subst h; exact h'
  | d :: ds, _, _, _, h, h' => by
    simp only [RepL, List.cons_append] at h ⊢
    obtain ⟨y, r, e1, h1, h2⟩ := h
    subst e1
    exact ⟨y, _, rfl, h1, RepL.app h2 h'⟩
theorem RepL.one {d : D} {x : V} (h : Rep Γ F ι d x) : RepL Γ F ι [d] [x] := by
  simp only [RepL]
  exact ⟨x, [], rfl, h, rfl⟩
theorem RepL.nil : RepL Γ F ι [] [] := by simp only [RepL]
theorem RepL.cons {d : D} {ds : List D} {x : V} {xs : List V} (h : Rep Γ F ι d x) (h' : RepL Γ F ι ds xs) : RepL Γ F ι (d :: ds) (x :: xs) := by
  simp only [RepL]
  exact ⟨x, xs, rfl, h, h'⟩
theorem RepL.take : ∀ {ds : List D} {xs : List V} (n : Nat), RepL Γ F ι ds xs → RepL Γ F ι (ds.take n) (xs.take n)
  | _, _, 0, _ => by simp only [List.take_zero]; exact .nil
  | [], _, n + 1, h => by simp only [RepL] at h; subst h; exact .nil
  | d :: ds, _, n + 1, h => by
    simp only [RepL] at h
    obtain ⟨y, r, e1, h1, h2⟩ := h
    subst e1
    exact .cons h1 (RepL.take n h2)
theorem RepL.drop : ∀ {ds : List D} {xs : List V} (n : Nat), RepL Γ F ι ds xs → RepL Γ F ι (ds.drop n) (xs.drop n)
  | _, _, 0, h => h
  | [], _, n + 1, h => by simp only [RepL] at h; subst h; exact .nil
  | d :: ds, _, n + 1, h => by
    simp only [RepL] at h
    obtain ⟨y, r, e1, h1, h2⟩ := h
    subst e1
    exact RepL.drop n h2
theorem RepL.rev {ds : List D} {xs : List V} (h : RepL Γ F ι ds xs) : RepL Γ F ι ds.reverse xs.reverse := by
  induction ds generalizing xs with
  | nil => simp only [RepL] at h; subst h; exact .nil
  | cons d ds ih =>
    simp only [RepL] at h
    obtain ⟨y, r, e1, h1, h2⟩ := h
    subst e1
    rw [List.reverse_cons, List.reverse_cons]
    exact (ih h2).app (.one h1)
theorem RepL.set : ∀ {ds : List D} {xs : List V} (i : Nat) {d : D} {x : V}, RepL Γ F ι ds xs → Rep Γ F ι d x → RepL Γ F ι (ds.set i d) (xs.set i x)
  | [], _, _, _, _, h, _ => by simp only [RepL] at h; subst h; exact .nil
  | d :: ds, _, 0, _, _, h, h' => by
    simp only [RepL] at h
    obtain ⟨y, r, e1, h1, h2⟩ := h
    subst e1
    exact .cons h' h2
  | d :: ds, _, i + 1, _, _, h, h' => by
    simp only [RepL] at h
    obtain ⟨y, r, e1, h1, h2⟩ := h
    subst e1
    exact .cons h1 (RepL.set i h2 h')
end

/-- no table, no code object -/
def Plain (o : HO) : Prop := (∀ ps, o ≠ .tbl ps) ∧ (∀ c q, o ≠ LamX.CodeO c q) ∧ (∀ c x, o ≠ CellX c x) ∧ ∀ fs, o ≠ .xd fs
/-- the state: frozen things F, the caller's own things P, the changing things M at ι -/
structure St (Γ : Gam) (F P : Hp) (ι : List Addr) (M : Mem) (H : Hp) : Prop where
  fr : ∀ a o, F a = some o → H a = some o
  pr : ∀ a o, P a = some o → H a = some o
  dj : ∀ a, F a = none ∨ P a = none
  len : ι.length = M.length
  nd : ι.Nodup
  ob : ∀ (i : Nat) (a : Addr) (m : MO), ι[i]? = some a → M[i]? = some m → F a = none ∧ P a = none ∧ ∃ o, H a = some o ∧ RepO Γ F ι m o
  tb : NdefX.TabsN Γ.T H
  fp : ∀ a o, F a = some o → ∀ ps, o ≠ .tbl ps
  pp : ∀ a o, P a = some o → Plain o

theorem lst_plain {xs : List V} : Plain (.lst xs) := ⟨fun _ z => (by cases z), fun _ _ z => (by unfold LamX.CodeO at z; cases z), fun _ _ z => (by unfold CellX at z; cases z), fun _ z => (by cases z)⟩
theorem dK_plain {xs : List (Key × V)} : Plain (.dK xs) := ⟨fun _ z => (by cases z), fun _ _ z => (by unfold LamX.CodeO at z; cases z), fun _ _ z => (by unfold CellX at z; cases z), fun _ z => (by cases z)⟩
/-- tables stay -/
theorem tabs_upd {T : List NdefX.NTab} {H : Hp} {p : Addr} {o : HO} (t : NdefX.TabsN T H) (h : ∀ u, H p = some u → Plain u) : NdefX.TabsN T (upd H p o) := fun q hq => by
  obtain ⟨ps, h1, h2, h3⟩ := t q hq
  refine ⟨ps, ?_, h2, fun pos cv hc => ?_⟩
  · by_cases e : q.1 = p
    · exact absurd rfl ((h _ (e ▸ h1)).1 ps)
    · rw [upd_ne e]; exact h1
  · obtain ⟨c, e1, e2⟩ := h3 pos cv hc
    refine ⟨c, e1, ?_⟩
    by_cases e : c = p
    · exact absurd rfl ((h _ (e ▸ e2)).2.1 _ _)
    · rw [upd_ne e]; exact e2
theorem tabs_fresh {T : List NdefX.NTab} {H : Hp} {p : Addr} {o : HO} (t : NdefX.TabsN T H) (h : H p = none) : NdefX.TabsN T (upd H p o) := tabs_upd t fun u e => by rw [h] at e; cases e
theorem repO_plain {Γ : Gam} {F : Hp} {ι : List Addr} {m : MO} {o : HO} (r : RepO Γ F ι m o) : Plain o := by
  cases m with
  | lst ds => obtain ⟨xs, e, _⟩ := r; subst e; exact ⟨fun _ z => (by cases z), fun _ _ z => (by unfold LamX.CodeO at z; cases z), fun _ _ z => (by unfold CellX at z; cases z), fun _ z => (by cases z)⟩
  | ins c ns ds => obtain ⟨_, xs, e, _⟩ := r; subst e; exact ⟨fun _ z => (by cases z), fun _ _ z => (by unfold LamX.CodeO at z; cases z), fun _ _ z => (by unfold CellX at z; cases z), fun _ z => (by cases z)⟩
  | dic ks ds => obtain ⟨xs, e, _⟩ := r; subst e; exact ⟨fun _ z => (by cases z), fun _ _ z => (by unfold LamX.CodeO at z; cases z), fun _ _ z => (by unfold CellX at z; cases z), fun _ z => (by cases z)⟩
section
variable {Γ : Gam} {F P : Hp} {ι : List Addr} {M : Mem} {H : Hp}
theorem St.tF (s : St Γ F P ι M H) : ∀ q ∈ Γ.T, F q.1 = none ∧ P q.1 = none := fun q hq => by
  obtain ⟨ps, h1, _⟩ := s.tb q hq
  constructor
  · cases e : F q.1 with
    | none => rfl
    | some o => have := s.fr _ _ e; rw [h1] at this; cases this; exact absurd rfl (s.fp _ _ e ps)
  · cases e : P q.1 with
    | none => rfl
    | some o => have := s.pr _ _ e; rw [h1] at this; cases this; exact absurd rfl ((s.pp _ _ e).1 ps)
theorem St.freshF (s : St Γ F P ι M H) {p : Addr} (h : H p = none) : F p = none := by
  cases e : F p with
  | none => rfl
  | some o => rw [s.fr p o e] at h; cases h
theorem St.freshP (s : St Γ F P ι M H) {p : Addr} (h : H p = none) : P p = none := by
  cases e : P p with
  | none => rfl
  | some o => rw [s.pr p o e] at h; cases h
theorem St.there (s : St Γ F P ι M H) {p : Addr} {i : Nat} (h : ι[i]? = some p) : ∃ m o, M[i]? = some m ∧ F p = none ∧ P p = none ∧ H p = some o ∧ RepO Γ F ι m o := by
  have hi : i < M.length := by rw [← s.len]; exact (List.getElem?_eq_some_iff.mp h).1
  obtain ⟨a, b, o, c, d⟩ := s.ob i p _ h (List.getElem?_eq_getElem hi)
  exact ⟨_, o, List.getElem?_eq_getElem hi, a, b, c, d⟩
theorem St.freshI (s : St Γ F P ι M H) {p : Addr} (h : H p = none) : p ∉ ι := fun hm => by
  obtain ⟨i, e⟩ := List.getElem?_of_mem hm
  obtain ⟨m, o, _, _, _, c, _⟩ := s.there e
  rw [h] at c
  cases c
theorem ext_upd {p : Addr} {o : HO} (h : F p = none) : Ext F ι (upd F p o) ι := ⟨fun a u e => by rw [upd_ne (ne_of_none e h)]; exact e, [], by simp⟩
/-- a new thing that never changes -/
theorem St.laid (s : St Γ F P ι M H) {p : Addr} (h : H p = none) (o : HO) (ho : ∀ ps, o ≠ .tbl ps := by intro _ z; cases z) : St Γ (upd F p o) P ι M (upd H p o) := by
  have hF := s.freshF h
  have hP := s.freshP h
  have x : Ext F ι (upd F p o) ι := ext_upd hF
  refine ⟨fun a u e => ?_, fun a u e => ?_, fun a => ?_, s.len, s.nd, fun i a m e1 e2 => ?_, tabs_fresh s.tb h, fun a u e => ?_, s.pp⟩
  · by_cases z : a = p
    · subst z; rw [upd_same] at e ⊢; exact e
    · rw [upd_ne z] at e ⊢; exact s.fr a u e
  · rw [upd_ne (ne_of_none e hP)]; exact s.pr a u e
  · by_cases z : a = p
    · subst z; exact .inr hP
    · rw [upd_ne z]; exact s.dj a
  · obtain ⟨a1, a2, u, a3, a4⟩ := s.ob i a m e1 e2
    have z : a ≠ p := ne_of_none a3 h
    exact ⟨by rw [upd_ne z]; exact a1, a2, u, by rw [upd_ne z]; exact a3, RepO.ext x a4⟩
  · by_cases z : a = p
    · subst z; rw [upd_same] at e; cases e; exact ho
    · rw [upd_ne z] at e; exact s.fp a u e
/-- what is not looked at may be made anew -/
theorem St.keep (s : St Γ F P ι M H) {H' : Hp} (h : ∀ a o, H a = some o → H' a = some o) : St Γ F P ι M H' :=
  ⟨fun a o e => h a o (s.fr a o e), fun a o e => h a o (s.pr a o e), s.dj, s.len, s.nd, fun i a m e1 e2 => by
    obtain ⟨a1, a2, u, a3, a4⟩ := s.ob i a m e1 e2
    exact ⟨a1, a2, u, h a u a3, a4⟩, s.tb.ext h, s.fp, s.pp⟩
/-- what stands already is known to stay -/
theorem St.adopt (s : St Γ F P ι M H) {p : Addr} {o : HO} (h : H p = some o) (hP : P p = none) (hi : p ∉ ι) (ho : ∀ ps, o ≠ .tbl ps) : St Γ (upd F p o) P ι M H ∧ Ext F ι (upd F p o) ι := by
  have x : Ext F ι (upd F p o) ι := ⟨fun a u e => by
    by_cases z : a = p
    · subst z
      have := s.fr _ _ e
      rw [h] at this
      cases this
      exact upd_same
    · rw [upd_ne z]; exact e, [], by simp⟩
  refine ⟨⟨fun a u e => ?_, s.pr, fun a => ?_, s.len, s.nd, fun i a m e1 e2 => ?_, s.tb, fun a u e => ?_, s.pp⟩, x⟩
  · by_cases z : a = p
    · subst z; rw [upd_same] at e; rw [h]; exact e
    · rw [upd_ne z] at e; exact s.fr a u e
  · by_cases z : a = p
    · subst z; exact .inr hP
    · rw [upd_ne z]; exact s.dj a
  · obtain ⟨a1, a2, u, a3, a4⟩ := s.ob i a m e1 e2
    have z : a ≠ p := fun z => hi (z ▸ List.mem_of_getElem? e1)
    exact ⟨by rw [upd_ne z]; exact a1, a2, u, a3, RepO.ext x a4⟩
  · by_cases z : a = p
    · subst z; rw [upd_same] at e; cases e; exact ho
    · rw [upd_ne z] at e; exact s.fp a u e
/-- all but tables stands as it was -/
theorem St.keepN (s : St Γ F P ι M H) {H' : Hp} (h : LamX.ExtN H H') (t : NdefX.TabsN Γ.T H') : St Γ F P ι M H' :=
  ⟨fun a o e => h a o (s.fr a o e) (s.fp a o e), fun a o e => h a o (s.pr a o e) (s.pp a o e).1, s.dj, s.len, s.nd, fun i a m e1 e2 => by
    obtain ⟨a1, a2, u, a3, a4⟩ := s.ob i a m e1 e2
    exact ⟨a1, a2, u, h a u a3 (repO_plain a4).1, a4⟩, t, s.fp, s.pp⟩
/-- the same of another frame of the caller -/
theorem St.pin (s : St Γ F P ι M H) {p : Addr} {o : HO} (h : H p = none) (ho : Plain o) : St Γ F (upd P p o) ι M (upd H p o) := by
  have hF := s.freshF h
  have hP := s.freshP h
  refine ⟨fun a u e => ?_, fun a u e => ?_, fun a => ?_, s.len, s.nd, fun i a m e1 e2 => ?_, tabs_fresh s.tb h, s.fp, fun a u e => ?_⟩
  · rw [upd_ne (ne_of_none e hF)]; exact s.fr a u e
  · by_cases z : a = p
    · subst z; rw [upd_same] at e ⊢; exact e
    · rw [upd_ne z] at e ⊢; exact s.pr a u e
  · by_cases z : a = p
    · subst z; exact .inl hF
    · rw [upd_ne z]; exact s.dj a
  · obtain ⟨a1, a2, u, a3, a4⟩ := s.ob i a m e1 e2
    have z : a ≠ p := ne_of_none a3 h
    exact ⟨a1, by rw [upd_ne z]; exact a2, u, by rw [upd_ne z]; exact a3, a4⟩
  · by_cases z : a = p
    · subst z; rw [upd_same] at e; cases e; exact ho
    · rw [upd_ne z] at e; exact s.pp a u e
/-- a changing thing, made anew -/
theorem St.push (s : St Γ F P ι M H) {p : Addr} (h : H p = none) {m : MO} {o : HO} (r : RepO Γ F (ι ++ [p]) m o) : St Γ F P (ι ++ [p]) (M ++ [m]) (upd H p o) := by
  have hF := s.freshF h
  have hP := s.freshP h
  have x : Ext F ι F (ι ++ [p]) := ⟨fun _ _ e => e, [p], rfl⟩
  refine ⟨fun a u e => ?_, fun a u e => ?_, s.dj, by rw [List.length_append, List.length_append, s.len]; rfl, ?_, fun i a m' e1 e2 => ?_, tabs_fresh s.tb h, s.fp, s.pp⟩
  · rw [upd_ne (ne_of_none e hF)]; exact s.fr a u e
  · rw [upd_ne (ne_of_none e hP)]; exact s.pr a u e
  · rw [List.nodup_append]
    exact ⟨s.nd, by simp, fun a ha b hb z => by
      simp only [List.mem_singleton] at hb
      subst hb z
      exact s.freshI h ha⟩
  · by_cases hi : i < ι.length
    · rw [List.getElem?_append_left hi] at e1
      rw [List.getElem?_append_left (by rw [← s.len]; exact hi)] at e2
      obtain ⟨a1, a2, u, a3, a4⟩ := s.ob i a m' e1 e2
      exact ⟨a1, a2, u, by rw [upd_ne (ne_of_none a3 h)]; exact a3, RepO.ext x a4⟩
    · have hj : i = ι.length := by
        have := (List.getElem?_eq_some_iff.mp e1).1
        simp only [List.length_append, List.length_cons, List.length_nil] at this
        omega
      subst hj
      rw [List.getElem?_append_right (Nat.le_refl _)] at e1
      rw [s.len, List.getElem?_append_right (Nat.le_refl _)] at e2
      simp only [Nat.sub_self, List.getElem?_cons_zero, Option.some.injEq] at e1 e2
      subst e1 e2
      exact ⟨hF, hP, o, upd_same, r⟩
/-- a changing thing is changed -/
theorem St.write (s : St Γ F P ι M H) {n : Nat} {p : Addr} (hp : ι[n]? = some p) {m : MO} {o : HO} (r : RepO Γ F ι m o) : St Γ F P ι (M.set n m) (upd H p o) := by
  obtain ⟨m0, o0, em, hF, hP, hH, r0⟩ := s.there hp
  refine ⟨fun a u e => ?_, fun a u e => ?_, s.dj, by rw [List.length_set]; exact s.len, s.nd, fun i a m' e1 e2 => ?_, tabs_upd s.tb fun u e => by rw [hH] at e; cases e; exact repO_plain r0, s.fp, s.pp⟩
  · rw [upd_ne (ne_of_none e hF)]; exact s.fr a u e
  · rw [upd_ne (ne_of_none e hP)]; exact s.pr a u e
  · by_cases z : i = n
    · subst z
      rw [hp] at e1
      cases e1
      rw [List.getElem?_set_self (by rw [← s.len]; exact (List.getElem?_eq_some_iff.mp hp).1)] at e2
      cases e2
      exact ⟨hF, hP, o, upd_same, r⟩
    · rw [List.getElem?_set_ne (Ne.symm z)] at e2
      obtain ⟨a1, a2, u, a3, a4⟩ := s.ob i a m' e1 e2
      have ne : a ≠ p := fun q => by
        subst q
        exact z ((List.getElem?_inj (List.getElem?_eq_some_iff.mp e1).1 s.nd).mp (e1.trans hp.symm))
      exact ⟨a1, a2, u, by rw [upd_ne ne]; exact a3, a4⟩
end

/-! ### results -/
inductive Res (α : Type) where
  | ok (a : α) (M : Mem) | exc (c : Nat) (fs : List D) (M : Mem) | stuck
/-- an exception's class and its fields, as they lie -/
def RepX (Γ : Gam) (F : Hp) (ι : List Addr) (H : Hp) (c : Nat) (fs : List D) (cls : Value) (od : Option Addr) : Prop :=
  cls = .ref (Γ.cls c) ∧ ((fs = [] ∧ Γ.fld c = [] ∧ od = none) ∨ ∃ d xs, od = some d ∧ H d = some (.xd ((Γ.fld c).zip xs)) ∧ xs.length = (Γ.fld c).length ∧ RepL Γ F ι fs xs)
section
variable (Γ : Gam) (W : WX) (P : Hp) (F : Hp) (ι : List Addr) (σ : L2.St)
def Post {α β : Type} (Rp : Hp → List Addr → α → β → Prop) (r : Res α) (Q : β → Hp → Prop) : Prop :=
  match r with
  | .ok d M' => ∀ v H' F' ι', Ext F ι F' ι' → St Γ F' P ι' M' H' → Rp F' ι' d v → Q v H'
  | .exc c fs M' => ∀ cls od H' F' ι', Ext F ι F' ι' → St Γ F' P ι' M' H' → RepX Γ F' ι' H' c fs cls od → W cls od σ H'
  | .stuck => False
end
def Res.bind {α β : Type} (r : Res α) (f : α → Mem → Res β) : Res β :=
  match r with
  | .ok a M => f a M
  | .exc c fs M => .exc c fs M
  | .stuck => .stuck
section
variable {Γ : Gam} {W : WX} {P F F' : Hp} {ι ι' : List Addr} {σ : L2.St}
theorem Post.ext {α β : Type} {Rp : Hp → List Addr → α → β → Prop} {r : Res α} {Q : β → Hp → Prop} (x : Ext F ι F' ι') (h : Post Γ W P F ι σ Rp r Q) : Post Γ W P F' ι' σ Rp r Q := by
  cases r with
  | ok d M => exact fun v H' F2 i2 y => h v H' F2 i2 (x.trans y)
  | exc c fs M => exact fun v od H' F2 i2 y => h v od H' F2 i2 (x.trans y)
  | stuck => exact h
theorem Post.mono {α β : Type} {Rp : Hp → List Addr → α → β → Prop} {r : Res α} {Q Q' : β → Hp → Prop} (h : Post Γ W P F ι σ Rp r Q) (q : ∀ v H, Q v H → Q' v H) : Post Γ W P F ι σ Rp r Q' := by
  cases r with
  | ok d M => exact fun v H' F2 i2 y s r => q _ _ (h v H' F2 i2 y s r)
  | exc c fs M => exact h
  | stuck => exact h
/-- one after another -/
theorem Post.seq {α β α' β' : Type} {Rp : Hp → List Addr → α → β → Prop} {Rp' : Hp → List Addr → α' → β' → Prop} {r : Res α} {f : α → Mem → Res α'} {Q : β' → Hp → Prop} {Q1 : β → Hp → Prop}
    (h : Post Γ W P F ι σ Rp' (r.bind f) Q)
    (k : ∀ d M' v H' F' ι', r = .ok d M' → Ext F ι F' ι' → St Γ F' P ι' M' H' → Rp F' ι' d v → Post Γ W P F' ι' σ Rp' (f d M') Q → Q1 v H') : Post Γ W P F ι σ Rp r Q1 := by
  cases r with
  | ok d M => exact fun v H' F2 i2 y s r => k d M v H' F2 i2 rfl y s r (Post.ext y h)
  | exc c fs M => exact h
  | stuck => exact h
end

/-! ### expressions -/
abbrev Slots := List (Option D)
def RepS (Γ : Gam) (F : Hp) (ι : List Addr) (σd : Slots) (σ : L2.St) : Prop :=
  σd.length = σ.length ∧ ∀ (i : Nat) (d : D), σd[i]? = some (some d) → ∃ v, σ[i]? = some (some v) ∧ Rep Γ F ι d v
theorem RepS.ext {Γ : Gam} {F F' : Hp} {ι ι' : List Addr} (x : Ext F ι F' ι') {σd : Slots} {σ : L2.St} (h : RepS Γ F ι σd σ) : RepS Γ F' ι' σd σ :=
  ⟨h.1, fun i d e => by
    obtain ⟨v, e1, r⟩ := h.2 i d e
    exact ⟨v, e1, Rep.ext x d v r⟩⟩
theorem RepS.set {Γ : Gam} {F : Hp} {ι : List Addr} {σd : Slots} {σ : L2.St} {d : D} {v : V} (h : RepS Γ F ι σd σ) (r : Rep Γ F ι d v) (i : Nat) : RepS Γ F ι (σd.set i (some d)) (σ.set i (some v)) := by
  refine ⟨by rw [List.length_set, List.length_set]; exact h.1, fun j d' e => ?_⟩
  by_cases z : j = i
  · subst z
    have hj : j < σd.length := by
      have := (List.getElem?_eq_some_iff.mp e).1
      rw [List.length_set] at this
      exact this
    rw [List.getElem?_set_self hj] at e
    cases e
    exact ⟨v, by rw [List.getElem?_set_self (by rw [← h.1]; exact hj)], r⟩
  · rw [List.getElem?_set_ne (Ne.symm z)] at e ⊢
    exact h.2 j d' e
abbrev DM := Slots → Mem → Res D
/-- all is bound together -/
structure Now (Γ : Gam) (P : Hp) (σd : Slots) (M : Mem) (σ : L2.St) (H : Hp) (F : Hp) (ι : List Addr) : Prop where
  st : St Γ F P ι M H
  sl : RepS Γ F ι σd σ
def lift (Γ : Gam) (W : WX) (m : DM) : TE := fun σ H Q => ∃ F P ι M σd, Now Γ P σd M σ H F ι ∧ Post Γ W P F ι σ (Rep Γ) (m σd M) Q
/-- an expression does what m says -/
def DE (X : Cx) (Γ : Gam) (W : WX) (e : Expr) (m : DM) : Prop := PE X e (lift Γ W m)
theorem PE.imp {X : Cx} {e : Expr} {t t' : TE} (h : PE X e t) (q : ∀ σ H Q, t' σ H Q → t σ H Q) : PE X e t' := ⟨fun pins s σ H Q I z => h.run pins s σ H Q I (q σ H Q z)⟩
theorem PT.imp {X : Cx} {e : Expr} {t t' : TT} (h : PT X e t) (q : ∀ σ H Q, t' σ H Q → t σ H Q) : PT X e t' := ⟨fun pins s σ H Q I z => h.run pins s σ H Q I (q σ H Q z)⟩
theorem PA.imp {X : Cx} {e : List Expr} {t t' : TA} (h : PA X e t) (q : ∀ σ H Q, t' σ H Q → t σ H Q) : PA X e t' := ⟨fun pos pins s σ H Q I z => h.run pos pins s σ H Q I (q σ H Q z)⟩
theorem PSs.imp {X : Cx} {e : List Stmt} {t t' : TS} (h : PSs X e t) (q : ∀ D σ H, t' D σ H → t D σ H) : PSs X e t' := ⟨fun pins s σ H D I z => h.run pins s σ H D I (q D σ H z)⟩
theorem PS.imp {X : Cx} {e : Stmt} {t t' : TS} (h : PS X e t) (q : ∀ D σ H, t' D σ H → t D σ H) : PS X e t' := ⟨fun pins s σ H D I z => h.run pins s σ H D I (q D σ H z)⟩
/-- tests -/
abbrev DT := Slots → Mem → Res Bool
abbrev RepB : Hp → List Addr → Bool → Bool → Prop := fun _ _ b c => b = c
def liftT (Γ : Gam) (W : WX) (m : DT) : TT := fun σ H Q => ∃ F P ι M σd, Now Γ P σd M σ H F ι ∧ Post Γ W P F ι σ RepB (m σd M) Q
def DTe (X : Cx) (Γ : Gam) (W : WX) (e : Expr) (m : DT) : Prop := PT X e (liftT Γ W m)
/-- argument lists -/
abbrev DA := Slots → Mem → Res (List D)
def liftA (Γ : Gam) (W : WX) (m : DA) : TA := fun σ H Q => ∃ F P ι M σd, Now Γ P σd M σ H F ι ∧ Post Γ W P F ι σ (RepL Γ) (m σd M) Q
def DAs (X : Cx) (Γ : Gam) (W : WX) (es : List Expr) (m : DA) : Prop := PA X es (liftA Γ W m)
/-- statements -/
inductive Out where
  | nx (σ : Slots) (M : Mem) | rt (d : D) (M : Mem) | bk (σ : Slots) (M : Mem) | ct (σ : Slots) (M : Mem) | exc (c : Nat) (fs : List D) (σ : Slots) (M : Mem) | stuck
abbrev DSt := Slots → Mem → Out
def PostS (Γ : Gam) (W : WX) (P F : Hp) (ι : List Addr) (r : Out) (D : Ends) : Prop :=
  match r with
  | .nx σd' M' => ∀ σ' H' F' ι', Ext F ι F' ι' → Now Γ P σd' M' σ' H' F' ι' → D.nx σ' H'
  | .bk σd' M' => ∀ σ' H' F' ι', Ext F ι F' ι' → Now Γ P σd' M' σ' H' F' ι' → D.bk σ' H'
  | .ct σd' M' => ∀ σ' H' F' ι', Ext F ι F' ι' → Now Γ P σd' M' σ' H' F' ι' → D.ct σ' H'
  | .rt d M' => ∀ v H' F' ι', Ext F ι F' ι' → St Γ F' P ι' M' H' → Rep Γ F' ι' d v → D.rt v H'
  | .exc c fs σd' M' => ∀ cls od σ' H' F' ι', Ext F ι F' ι' → Now Γ P σd' M' σ' H' F' ι' → RepX Γ F' ι' H' c fs cls od → W cls od σ' H'
  | .stuck => False
def liftS (Γ : Gam) (W : WX) (m : DSt) : TS := fun D σ H => ∃ F P ι M σd, Now Γ P σd M σ H F ι ∧ PostS Γ W P F ι (m σd M) D
def DS (X : Cx) (Γ : Gam) (W : WX) (st : Stmt) (m : DSt) : Prop := PS X st (liftS Γ W m)
def DSs (X : Cx) (Γ : Gam) (W : WX) (st : List Stmt) (m : DSt) : Prop := PSs X st (liftS Γ W m)
theorem PostS.ext {Γ : Gam} {W : WX} {P F F' : Hp} {ι ι' : List Addr} {r : Out} {D : Ends} (x : Ext F ι F' ι') (h : PostS Γ W P F ι r D) : PostS Γ W P F' ι' r D := by
  cases r with
  | nx σ M => exact fun σ' H' F2 i2 y => h σ' H' F2 i2 (x.trans y)
  | bk σ M => exact fun σ' H' F2 i2 y => h σ' H' F2 i2 (x.trans y)
  | ct σ M => exact fun σ' H' F2 i2 y => h σ' H' F2 i2 (x.trans y)
  | rt d M => exact fun v H' F2 i2 y => h v H' F2 i2 (x.trans y)
  | exc c fs σ M => exact fun v od σ' H' F2 i2 y => h v od σ' H' F2 i2 (x.trans y)
  | stuck => exact h
/-- a statement that begins with an expression -/
def Res.out {α : Type} (r : Res α) (σ : Slots) (f : α → Mem → Out) : Out :=
  match r with
  | .ok a M => f a M
  | .exc c fs M => .exc c fs σ M
  | .stuck => .stuck
theorem PostS.begin {Γ : Gam} {W : WX} {P F : Hp} {ι : List Addr} {α β : Type} {Rp : Hp → List Addr → α → β → Prop} {r : Res α} {σd : Slots} {σ : L2.St} {f : α → Mem → Out} {D : Ends} {Q1 : β → Hp → Prop} (sl : RepS Γ F ι σd σ)
    (h : PostS Γ W P F ι (r.out σd f) D) (k : ∀ d M' v H' F' ι', r = .ok d M' → Ext F ι F' ι' → Now Γ P σd M' σ H' F' ι' → Rp F' ι' d v → PostS Γ W P F' ι' (f d M') D → Q1 v H') : Post Γ W P F ι σ Rp r Q1 := by
  cases r with
  | ok d M => exact fun v H' F2 i2 y s r => k d M v H' F2 i2 rfl y ⟨s, sl.ext y⟩ r (PostS.ext y h)
  | exc c fs M => exact fun cls od H' F2 i2 y s r => h cls od σ H' F2 i2 y ⟨s, sl.ext y⟩ r
  | stuck => exact h
theorem Post.here {Γ : Gam} {W : WX} {P F : Hp} {ι : List Addr} {σ : L2.St} {α β : Type} {Rp : Hp → List Addr → α → β → Prop} {d : α} {M : Mem} {H : Hp} {v : β} {Q : β → Hp → Prop} (h : Post Γ W P F ι σ Rp (.ok d M) Q) (s : St Γ F P ι M H) (r : Rp F ι d v) : Q v H :=
  h v H F ι Ext.refl s r
/-- what the rules ask of where they stand -/
structure Ok (X : Cx) (Γ : Gam) : Prop where
  k : X.K = Γ.K
  p : X.prog = Γ.P
  w : X.w = Γ.w
  u : X.A.units + 64 < cLine
end MT

set_option maxRecDepth 100000
/-! MtDct: dicts with text keys, made by the run or written in the text. -/
namespace MT
open PySem PySem.Spec PyProof.Rows L2
section
variable {X : Cx} {pins : List (Addr × Obj)} {σ : L2.St} {H : Hp} {s : Shared} {a : Addr} {kvs : List (Key × V)} {z : Str} {u : Value} {A : Around} {E : Value → Shared → Prop}
theorem dkt_ty (I : Inv X pins σ H s) (d : DkT X.K X.w H a kvs) : s.TypeIs (.ref a) "dict" ∧ (∀ b, Value.ref a = .ref b → ∃ ob, s.heap.get? b = some ob ∧ ob.dict = none) ∧ (a == sysModules) = false := by
  rcases d with d | ⟨es, n, hl, hk, low, hz⟩
  · exact isD_at I (.inl ⟨kvs, .inl d⟩)
  · have hm := PySem.W.mapOf_K (prog := X.prog) (w := X.w) I.kIn hl hk
    exact ⟨hm.typeIs, fun b e => by cases e; exact ⟨_, I.kIn _ _ hl, rfl⟩, low⟩
theorem dkt_get {v : V} {Q : Value → Shared → Prop} (hu : A.units + 1 < cLine) (I : Inv X pins σ H s) (d : DkT X.K X.w H a kvs) (e : valV kvs (.inr z) = some v) (ru : RelV (.str z) u) (h : ∀ w' s', Inv X pins σ H s' → RelV v w' → Q w' s') :
    wpAny (model X.prog X.w) A (getItem (.ref a) u) Q E s := by
  rcases d with d | ⟨es, n, hl, hk, low, hz⟩
  · exact d_getItem (y := .str z) hu I (.inl ⟨kvs, .inr z, .inl d, rfl, e.symm⟩) ru h
  · have hm := PySem.W.mapOf_K (prog := X.prog) (w := X.w) I.kIn hl hk
    obtain ⟨t, rfl⟩ := ru
    obtain ⟨r, h1, h2⟩ := hz z
    rw [e] at h2
    cases r with
    | none => exact h2.elim
    | some w' => exact wpAny_getItem_of (strKind_is X.prog X.w z t) hm (PySem.W.find_K hl h1) (h w' _ (I.tok _) h2)
theorem dkt_in {Q : Value → Shared → Prop} (hu : A.units + 1 < cLine) (I : Inv X pins σ H s) (d : DkT X.K X.w H a kvs) (ru : RelV (.str z) u) (h : ∀ s', Inv X pins σ H s' → Q (.bool (valV kvs (.inr z)).isSome) s') :
    wpAny (model X.prog X.w) A (compareOp .In u (.ref a)) Q E s := by
  rcases d with d | ⟨es, n, hl, hk, low, hz⟩
  · exact d_in (y := .str z) hu I (.inl ⟨kvs, .inr z, .inl d, rfl, rfl⟩) ru h
  · have hm := PySem.W.mapOf_K (prog := X.prog) (w := X.w) I.kIn hl hk
    obtain ⟨t, rfl⟩ := ru
    obtain ⟨r, h1, h2⟩ := hz z
    refine wpAny_in_of (strKind_is X.prog X.w z t) low hm ?_
    rw [PySem.W.find_K hl h1]
    have : r.isSome = (valV kvs (.inr z)).isSome := by
      cases r <;> cases hv : valV kvs (.inr z) <;> rw [hv] at h2 <;> first | rfl | exact h2.elim
    rw [this]
    exact h _ (I.tok _)
theorem dkt_notIn {Q : Value → Shared → Prop} (hu : A.units + 1 < cLine) (I : Inv X pins σ H s) (d : DkT X.K X.w H a kvs) (ru : RelV (.str z) u) (h : ∀ s', Inv X pins σ H s' → Q (.bool (!(valV kvs (.inr z)).isSome)) s') :
    wpAny (model X.prog X.w) A (compareOp .NotIn u (.ref a)) Q E s := by
  rcases d with d | ⟨es, n, hl, hk, low, hz⟩
  · exact d_notIn (y := .str z) hu I (.inl ⟨kvs, .inr z, .inl d, rfl, rfl⟩) ru h
  · have hm := PySem.W.mapOf_K (prog := X.prog) (w := X.w) I.kIn hl hk
    obtain ⟨t, rfl⟩ := ru
    obtain ⟨r, h1, h2⟩ := hz z
    refine wpAny_notIn_of (strKind_is X.prog X.w z t) low hm ?_
    rw [PySem.W.find_K hl h1]
    have : r.isSome = (valV kvs (.inr z)).isSome := by
      cases r <;> cases hv : valV kvs (.inr z) <;> rw [hv] at h2 <;> first | rfl | exact h2.elim
    rw [this]
    exact h _ (I.tok _)
theorem dkt_get2 {r : Value} {w : V} {Q : Value → Shared → Prop} (hu : A.units + 1 < cLine) (I : Inv X pins σ H s) (d : DkT X.K X.w H a kvs) (ru : RelV (.str z) u) (rw' : RelV w r) (h : ∀ w' s', Inv X pins σ H s' → RelV ((valV kvs (.inr z)).getD w) w' → Q w' s') :
    wpAny (model X.prog X.w) A (call (.builtin "dict.get") [.ref a, u, r]) Q E s := by
  rcases d with d | ⟨es, n, hl, hk, low, hz⟩
  · exact d_get2 (y := .str z) hu I (.inl ⟨kvs, .inr z, .inl d, rfl, rfl⟩) ru rw' h
  · have hm := PySem.W.mapOf_K (prog := X.prog) (w := X.w) I.kIn hl hk
    obtain ⟨t, rfl⟩ := ru
    obtain ⟨r', h1, h2⟩ := hz z
    refine call_meetsIn PySem.F.slot_dict_get hm.typeIs PySem.F.entry_dict_get (PySem.F.args_dict_get_3 _ _ _) (meets_dict_get_default (strKind X.prog X.w) a (strKind_is X.prog X.w z t) low r) ⟨_, hm, h _ _ (I.tok _) ?_⟩
    rw [PySem.W.find_K hl h1]
    cases r' <;> cases hv : valV kvs (.inr z) <;> rw [hv] at h2 <;> first | exact rw' | exact h2 | exact h2.elim
/-! ### rules -/
theorem ix_dic (hu : X.A.units + 1 < cLine) : IxR X (fun x y H Q => ∃ p z v kvs, x = .ref p ∧ y = .str z ∧ DkT X.K X.w H p kvs ∧ valV kvs (.inr z) = some v ∧ Q v H) := by
  intro value slice pins s σ H x y v u Q I rx ry h hs
  obtain ⟨p, z, w, kvs, rfl, rfl, d, e, q⟩ := h
  obtain rfl : v = Value.ref p := rx
  obtain ⟨t1, _, _⟩ := dkt_ty I d
  exact tail_any t1 slot_dict_getitem.lookup (dkt_get hu I d e ry fun w' s' I' r' => ⟨w, H, I', r', q⟩) hs
theorem op_in_dic (hu : X.A.units + 1 < cLine) : OpR X (compareOp .In) (fun x y H Q => ∃ p z kvs, x = .str z ∧ y = .ref p ∧ DkT X.K X.w H p kvs ∧ Q (.bl (valV kvs (.inr z)).isSome) H) := by
  intro pins s σ H x y v u Q I rx ry h
  obtain ⟨p, z, kvs, rfl, rfl, d, q⟩ := h
  obtain rfl : u = Value.ref p := ry
  exact dkt_in hu I d rx fun s' I' => ⟨.bl _, H, I', rfl, q⟩
theorem op_notIn_dic (hu : X.A.units + 1 < cLine) : OpR X (compareOp .NotIn) (fun x y H Q => ∃ p z kvs, x = .str z ∧ y = .ref p ∧ DkT X.K X.w H p kvs ∧ Q (.bl (!(valV kvs (.inr z)).isSome)) H) := by
  intro pins s σ H x y v u Q I rx ry h
  obtain ⟨p, z, kvs, rfl, rfl, d, q⟩ := h
  obtain rfl : u = Value.ref p := ry
  exact dkt_notIn hu I d rx fun s' I' => ⟨.bl _, H, I', rfl, q⟩
end
/-- d.get(k, e) -/
def tGet2 (td ty tx : TE) (K : PySem.W.Frag) (w : World) : TE := fun σ H Q => td σ H fun x H1 => (∃ a kvs, x = .ref a ∧ DkT K w H1 a kvs) ∧ ty σ H1 fun y H2 => tx σ H2 fun z H3 => ∃ a kvs k, x = .ref a ∧ y = .str k ∧ DkT K w H3 a kvs ∧ Q ((valV kvs (.inr k)).getD z) H3
theorem pe_get2 {X : Cx} {o e f : Expr} {apos cpos : Pos} {td ty tx : TE} (hu : X.A.units + 1 < cLine) (ho : PE X o td) (he : PE X e ty) (hf : PE X f tx) (m : M2 X o "get" apos e f cpos) : PE X (.Call (.Attribute o "get" apos) [e, f] [] cpos) (tGet2 td ty tx X.K X.w) := by
  refine ⟨fun pins s σ H Q I h => ?_⟩
  refine wpAny_Call_method m.base m.few m.line PySem.F.plainAttrs_dict PySem.F.slot_dict_get PySem.F.type_dict_get (thn (ho.run pins s σ H _ I h) fun u s1 ⟨x, H1, I1, rx, ⟨a0, kvs0, ex, d⟩, q1⟩ => ?_)
  subst ex
  obtain rfl : u = Value.ref a0 := rx
  obtain ⟨t1, t2, _⟩ := dkt_ty I1 d
  refine ⟨t1, t2, ?_⟩
  rw [m.trees]
  refine Calls.callWith_builtin rfl (Calls.evalArgs_plain (Calls.spliced_cons (thn (he.run pins s1 σ H1 _ I1 q1) fun iv s2 ⟨y, H2, I2, ry, q2⟩ =>
    Calls.spliced_cons (thn (hf.run pins s2 σ H2 _ I2 q2) fun fv s3 ⟨z, H3, I3, rz, a, kvs, k, ea, ey, d3, q3⟩ => Calls.spliced_nil ?_))))
  cases ea
  subst ey
  exact dkt_get2 hu I3 d3 ry rz fun w' s4 I4 rw' => ⟨_, H3, I4, rw', q3⟩
/-! ### of plain data -/
def keyD : D → Option Key
  | .int i => some (.inl i)
  | .str l => some (.inr (txt l))
  | _ => none
def lookD (k : Key) : List Key → List D → Option D
  | q :: ks, d :: ds => if q = k then some d else lookD k ks ds
  | _, _ => none
theorem lookD_V {Γ : Gam} {F : Hp} {ι : List Addr} {k : Key} : ∀ {ks : List Key} {vs : List D} {kvs : List (Key × V)}, kvs.map (·.1) = ks → RepL Γ F ι vs (kvs.map (·.2)) → match lookD k ks vs, valV kvs k with
    | some d, some v => Rep Γ F ι d v
    | none, none => True
    | _, _ => False
  | [], vs, kvs, e, r => by
    have : kvs = [] := List.map_eq_nil_iff.mp e
    subst this
    cases vs <;> simp [lookD, valV_nil]
  | q :: ks, vs, [], e, r => by simp at e
  | q :: ks, vs, kv :: kvs, e, r => by
    simp only [List.map_cons, List.cons.injEq] at e
    obtain ⟨rfl, e2⟩ := e
    cases vs with
    | nil => simp only [RepL, List.map_cons] at r; cases r
    | cons d ds =>
      simp only [RepL, List.map_cons] at r
      obtain ⟨x, xs, e3, r1, r2⟩ := r
      cases e3
      unfold lookD
      by_cases h : kv.1 = k
      · rw [if_pos h, valV_pos h]
        exact r1
      · rw [if_neg h, valV_neg h]
        exact lookD_V e2 r2
def asDic (M : Mem) (d : D) : Option (List Key × List D) := match d with
  | .dic ks vs => some (ks, vs)
  | .obj n => match M[n]? with
    | some (.dic ks vs) => some (ks, vs)
    | _ => none
  | _ => none
theorem asDic_at {Γ : Gam} {F P : Hp} {ι : List Addr} {M : Mem} {H : Hp} (s : St Γ F P ι M H) {d : D} {v : V} {p : List Key × List D} (r : Rep Γ F ι d v) (e : asDic M d = some p) : ∃ a kvs, v = .ref a ∧ DkT Γ.K Γ.w H a kvs ∧ kvs.map (·.1) = p.1 ∧ RepL Γ F ι p.2 (kvs.map (·.2)) := by
  unfold asDic at e
  split at e
  · cases e
    simp only [Rep] at r
    obtain ⟨a, kvs, rfl, h, e1, r⟩ := r
    exact ⟨a, kvs, rfl, h.ext s.fr, e1, r⟩
  · split at e
    · rename_i em
      cases e
      simp only [Rep] at r
      obtain ⟨a, ha, rfl⟩ := r
      obtain ⟨_, _, o, ho, kvs, rfl, e1, r⟩ := s.ob _ a _ ha em
      exact ⟨a, kvs, rfl, .inl ho, e1, r⟩
    · cases e
  · cases e
end MT

set_option maxRecDepth 100000
/-! MtOps: names, constants, operators, tests. -/
namespace MT
open PySem PySem.Spec PyProof.Rows L2
section
variable {X : Cx} {Γ : Gam} {W : WX} {pos : Pos}

def mVar (i : Nat) : DM := fun σ M => match σ[i]? with
  | some (some d) => .ok d M
  | _ => .stuck
theorem de_var {i : Nat} {x : Str} (hN : X.N[i]? = some x) (hv : Vis X.env.scope x) (hd : (x == ("__debug__" : Str)) = false) (hcd : (x == ("__classdict__" : Str)) = false) : DE X Γ W (.Name x pos) (mVar i) :=
  PE.imp (pe_var hN hv hd hcd) fun σ H Q ⟨F, P, ι, M, σd, n, p⟩ => by
    unfold mVar at p
    split at p
    · rename_i d e
      obtain ⟨v, e1, r⟩ := n.sl.2 i d e
      exact ⟨v, e1, p.here n.st r⟩
    · exact p.elim
def mC (d : D) : DM := fun _ M => .ok d M
theorem de_int {i : Int} {j : Nat} : DE X Γ W (.Constant (.int i) j pos) (mC (.int i)) :=
  PE.imp pe_int fun σ H Q ⟨F, P, ι, M, σd, n, p⟩ => p.here n.st (by simp only [Rep])
theorem de_bl {b : Bool} {j : Nat} : DE X Γ W (.Constant (.bool b) j pos) (mC (.bl b)) :=
  PE.imp pe_bl fun σ H Q ⟨F, P, ι, M, σd, n, p⟩ => p.here n.st (by simp only [Rep])
theorem de_non {j : Nat} : DE X Γ W (.Constant .none j pos) (mC .non) :=
  PE.imp pe_non fun σ H Q ⟨F, P, ι, M, σd, n, p⟩ => p.here n.st (by simp only [Rep])
theorem de_str {x : Str} {l : List Nat} {j : Nat} (e : x = txt l) : DE X Γ W (.Constant (.str x) j pos) (mC (.str l)) :=
  PE.imp pe_str fun σ H Q ⟨F, P, ι, M, σd, n, p⟩ => p.here n.st (by simp only [Rep, e])
/-- a constant of the module -/
theorem de_glob {x : Str} {v : V} {u : Value} {d : D} (hg : Gl X x) (hm : X.mg x = some u) (r : RelV v u) (hr : ∀ F ι, Rep Γ F ι d v) (hd : (x == ("__debug__" : Str)) = false) : DE X Γ W (.Name x pos) (mC d) :=
  PE.imp (pe_glob hg hm r hd) fun σ H Q ⟨F, P, ι, M, σd, n, p⟩ => p.here n.st (hr F ι)

/-! ### operators by values -/
def rD2 (Γ : Gam) (g : Mem → D → D → Option D) : R2 := fun x y H Q => ∃ F P ι M d e r, St Γ F P ι M H ∧ Rep Γ F ι d x ∧ Rep Γ F ι e y ∧ g M d e = some r ∧
  ∀ v H' F', Ext F ι F' ι → St Γ F' P ι M H' → Rep Γ F' ι r v → Q v H'
def OpD (X : Cx) (Γ : Gam) (f : Value → Value → Sem Value) (g : Mem → D → D → Option D) : Prop := OpR X f (rD2 Γ g)
theorem OpR.imp {f : Value → Value → Sem Value} {r r' : R2} (h : OpR X f r) (q : ∀ x y H Q, r' x y H Q → r x y H Q) : OpR X f r' :=
  fun pins s σ H x y v u Q I rx ry z => h pins s σ H x y v u Q I rx ry (q x y H Q z)
def ofOpt (o : Option D) (M : Mem) : Res D := match o with
  | some r => .ok r M
  | none => .stuck
def mOp (g : Mem → D → D → Option D) (ma mb : DM) : DM := fun σ M => (ma σ M).bind fun a M1 => (mb σ M1).bind fun b M2 => ofOpt (g M2 a b) M2
section
variable {a b c : Expr} {ma mb mc : DM} {g g' : Mem → D → D → Option D}
theorem two (g : Mem → D → D → Option D) {σ : L2.St} {H : Hp} {Q : VK} {F P : Hp} {ι : List Addr} {M : Mem} {σd : Slots} (n : Now Γ P σd M σ H F ι) (p : Post Γ W P F ι σ (Rep Γ) (mOp g ma mb σd M) Q) :
    lift Γ W ma σ H fun x H1 => lift Γ W mb σ H1 fun y H2 => rD2 Γ g x y H2 Q :=
  ⟨F, P, ι, M, σd, n, Post.seq p fun d M1 v H1 F1 ι1 _ x1 s1 r1 p1 => ⟨F1, P, ι1, M1, σd, ⟨s1, n.sl.ext x1⟩, Post.seq p1 fun e M2 u H2 F2 ι2 _ x2 s2 r2 p2 => by
    unfold ofOpt at p2
    split at p2
    · rename_i r er
      exact ⟨F2, P, ι2, M2, d, e, r, s2, Rep.ext x2 _ _ r1, r2, er, fun w H3 F3 x3 s3 r3 => p2 w H3 F3 ι2 x3 s3 r3⟩
    · exact p2.elim⟩⟩
theorem de_bin {op : Operator} (ho : OpD X Γ (binaryOp op) g) (ha : DE X Γ W a ma) (hb : DE X Γ W b mb) : DE X Γ W (.BinOp a op b pos) (mOp g ma mb) :=
  PE.imp (pe_op ho ha hb) fun σ H Q ⟨F, P, ι, M, σd, n, p⟩ => two g n p
theorem de_cmp {op : CmpOp} (ho : OpD X Γ (compareOp op) g) (ha : DE X Γ W a ma) (hb : DE X Γ W b mb) (hm : behindInMarks op b = false) : DE X Γ W (.Compare a [op] [b] pos) (mOp g ma mb) :=
  PE.imp (pe_cmpR ho ha hb hm) fun σ H Q ⟨F, P, ι, M, σd, n, p⟩ => two g n p
/-- a test of a value that is a bool -/
def tB1 (r : Res D) : Res Bool := r.bind fun d M => match d with
  | .bl b => .ok b M
  | _ => .stuck
theorem post_tB {F P : Hp} {ι : List Addr} {σ : L2.St} {r : Res D} {Q : Bool → Hp → Prop} (p : Post Γ W P F ι σ RepB (tB1 r) Q) : Post Γ W P F ι σ (Rep Γ) r fun x H1 => ∃ c, x = .bl c ∧ Q c H1 :=
  Post.seq p fun d M1 v H1 F1 ι1 _ x1 s1 r1 p1 => by
    cases d <;> first
      | (simp only [Rep] at r1; subst r1; exact ⟨_, rfl, p1.here s1 rfl⟩)
      | exact p1.elim
theorem dt_cmp {op : CmpOp} (ho : OpD X Γ (compareOp op) g) (ha : DE X Γ W a ma) (hb : DE X Γ W b mb) (hm : behindInMarks op b = false) : DTe X Γ W (.Compare a [op] [b] pos) (fun σ M => tB1 (mOp g ma mb σ M)) :=
  PT.imp (pt_cmpR ho ha hb hm) fun σ H Q ⟨F, P, ι, M, σd, n, p⟩ => two g n (post_tB p)
theorem dt_val {e : Expr} {m : DM} (h : DE X Γ W e m) (he : ∀ whole, isTrue e X.env whole = (do let v ← whole; standAt e.pos; holding [v] (truthy v))) : DTe X Γ W e (fun σ M => tB1 (m σ M)) :=
  PT.imp (pt_val h he) fun σ H Q ⟨F, P, ι, M, σd, n, p⟩ => ⟨F, P, ι, M, σd, n, post_tB p⟩
/-- a < b < c -/
def mChain (g g' : Mem → D → D → Option D) (ma mb mc : DM) : DM := fun σ M => (ma σ M).bind fun a M1 => (mb σ M1).bind fun b M2 => match g M2 a b with
  | some (.bl true) => (mc σ M2).bind fun c M3 => ofOpt (g' M3 b c) M3
  | some (.bl false) => .ok (.bl false) M2
  | _ => .stuck
theorem chain3 {σ : L2.St} {H : Hp} {Q : VK} {F P : Hp} {ι : List Addr} {M : Mem} {σd : Slots} (n : Now Γ P σd M σ H F ι) (p : Post Γ W P F ι σ (Rep Γ) (mChain g g' ma mb mc σd M) Q) :
    tChain (rD2 Γ g) (rD2 Γ g') (lift Γ W ma) (lift Γ W mb) (lift Γ W mc) σ H Q :=
  ⟨F, P, ι, M, σd, n, Post.seq p fun d M1 v H1 F1 ι1 _ x1 s1 r1 p1 => ⟨F1, P, ι1, M1, σd, ⟨s1, n.sl.ext x1⟩, Post.seq p1 fun e M2 u H2 F2 ι2 _ x2 s2 r2 p2 => by
    split at p2
    · rename_i er
      refine ⟨F2, P, ι2, M2, d, e, _, s2, Rep.ext x2 _ _ r1, r2, er, fun w H3 F3 x3 s3 r3 => ?_⟩
      simp only [Rep] at r3
      subst r3
      refine ⟨true, rfl, iteT ?_⟩
      refine ⟨F3, P, ι2, M2, σd, ⟨s3, (n.sl.ext x1).ext (x2.trans x3)⟩, Post.seq (Post.ext x3 p2) fun f M4 u4 H4 F4 ι4 _ x4 s4 r4 p4 => ?_⟩
      unfold ofOpt at p4
      split at p4
      · rename_i r er
        exact ⟨F4, P, ι4, M4, e, f, r, s4, Rep.ext (x3.trans x4) _ _ r2, r4, er, fun w H5 F5 x5 s5 r5 => p4 w H5 F5 ι4 x5 s5 r5⟩
      · exact p4.elim
    · rename_i er
      refine ⟨F2, P, ι2, M2, d, e, _, s2, Rep.ext x2 _ _ r1, r2, er, fun w H3 F3 x3 s3 r3 => ?_⟩
      have r3' := r3
      simp only [Rep] at r3
      subst r3
      exact ⟨false, rfl, iteF (p2 _ H3 F3 ι2 x3 s3 r3')⟩
    · exact p2.elim⟩⟩
theorem de_chain {op op' : CmpOp} (ho : OpD X Γ (compareOp op) g) (ho' : OpD X Γ (compareOp op') g') (ha : DE X Γ W a ma) (hb : DE X Γ W b mb) (hc : DE X Γ W c mc) (hm : lastMarks [op, op'] [b, c] = false) :
    DE X Γ W (.Compare a [op, op'] [b, c] pos) (mChain g g' ma mb mc) :=
  PE.imp (pe_chain ho ho' ha hb hc hm) fun σ H Q ⟨F, P, ι, M, σd, n, p⟩ => chain3 n p
theorem dt_chain {op op' : CmpOp} (ho : OpD X Γ (compareOp op) g) (ho' : OpD X Γ (compareOp op') g') (ha : DE X Γ W a ma) (hb : DE X Γ W b mb) (hc : DE X Γ W c mc) (hm : lastMarks [op, op'] [b, c] = false) :
    DTe X Γ W (.Compare a [op, op'] [b, c] pos) (fun σ M => tB1 (mChain g g' ma mb mc σ M)) :=
  PT.imp (pt_chain ho ho' ha hb hc hm) fun σ H Q ⟨F, P, ι, M, σd, n, p⟩ => chain3 n (post_tB p)

/-! ### and, or, not, if else -/
def DW (X : Cx) (Γ : Gam) (W : WX) (e : Expr) (m : DT) : Prop := PW X e (liftT Γ W m)
theorem PW.imp {e : Expr} {t t' : TT} (h : PW X e t) (q : ∀ σ H Q, t' σ H Q → t σ H Q) : PW X e t' := ⟨fun wh pins s σ H Q I z => h.run wh pins s σ H Q I (q σ H Q z)⟩
theorem DW.t {e : Expr} {m : DT} (h : DW X Γ W e m) : DTe X Γ W e m := PW.pt h
def mAnd (ma mb : DT) : DT := fun σ M => (ma σ M).bind fun c M1 => if c then mb σ M1 else .ok false M1
def mOr (ma mb : DT) : DT := fun σ M => (ma σ M).bind fun c M1 => if c then .ok true M1 else mb σ M1
def mNot (ma : DT) : DT := fun σ M => (ma σ M).bind fun c M1 => .ok (!c) M1
section
variable {a b c : Expr} {rest : List Expr} {ma mb mc : DT}
theorem dw_and1 (ha : DTe X Γ W a ma) : DW X Γ W (.BoolOp .And [a] pos) ma := pw_and1 ha
theorem dw_or1 (ha : DTe X Γ W a ma) : DW X Γ W (.BoolOp .Or [a] pos) ma := pw_or1 ha
theorem dw_and (ha : DTe X Γ W a ma) (hb : DW X Γ W (.BoolOp .And (b :: rest) pos) mb) : DW X Γ W (.BoolOp .And (a :: b :: rest) pos) (mAnd ma mb) :=
  PW.imp (pw_and ha hb) fun σ H Q ⟨F, P, ι, M, σd, n, p⟩ => ⟨F, P, ι, M, σd, n, Post.seq p fun d M1 v H1 F1 ι1 _ x1 s1 r1 p1 => by
    have r1 : d = v := r1
    subst r1
    cases d with
    | true => exact iteT ⟨F1, P, ι1, M1, σd, ⟨s1, n.sl.ext x1⟩, p1⟩
    | false => exact iteF (p1.here s1 rfl)⟩
theorem dw_or (ha : DTe X Γ W a ma) (hb : DW X Γ W (.BoolOp .Or (b :: rest) pos) mb) : DW X Γ W (.BoolOp .Or (a :: b :: rest) pos) (mOr ma mb) :=
  PW.imp (pw_or ha hb) fun σ H Q ⟨F, P, ι, M, σd, n, p⟩ => ⟨F, P, ι, M, σd, n, Post.seq p fun d M1 v H1 F1 ι1 _ x1 s1 r1 p1 => by
    have r1 : d = v := r1
    subst r1
    cases d with
    | true => exact iteT (p1.here s1 rfl)
    | false => exact iteF ⟨F1, P, ι1, M1, σd, ⟨s1, n.sl.ext x1⟩, p1⟩⟩
theorem dt_not (ha : DTe X Γ W a ma) : DTe X Γ W (.UnaryOp .Not a pos) (mNot ma) :=
  PT.imp (pt_not ha) fun σ H Q ⟨F, P, ι, M, σd, n, p⟩ => ⟨F, P, ι, M, σd, n, Post.seq p fun d M1 v H1 F1 ι1 _ x1 s1 r1 p1 => by
    have r1 : d = v := r1
    subst r1
    exact p1.here s1 rfl⟩
/-- .. as values -/
def vAnd (ma : DM) (mb : DM) : DM := fun σ M => (tB1 (ma σ M)).bind fun c M1 => if c then mb σ M1 else .ok (.bl false) M1
def vOr (ma : DM) (mb : DM) : DM := fun σ M => (tB1 (ma σ M)).bind fun c M1 => if c then .ok (.bl true) M1 else mb σ M1
def vNot (ma : DM) : DM := fun σ M => (tB1 (ma σ M)).bind fun c M1 => .ok (.bl (!c)) M1
theorem post_tB2 {F P : Hp} {ι : List Addr} {σ : L2.St} {r : Res D} {α β : Type} {Rp : Hp → List Addr → α → β → Prop} {f : Bool → Mem → Res α} {Q : β → Hp → Prop} {Q1 : V → Hp → Prop} (p : Post Γ W P F ι σ Rp ((tB1 r).bind f) Q)
    (k : ∀ c M' H' F' ι', Ext F ι F' ι' → St Γ F' P ι' M' H' → Post Γ W P F' ι' σ Rp (f c M') Q → Q1 (.bl c) H') : Post Γ W P F ι σ (Rep Γ) r Q1 := by
  cases r with
  | ok d M =>
    cases d with
    | bl c =>
      intro v H' F2 i2 y s rr
      simp only [Rep] at rr
      subst rr
      exact k c M H' F2 i2 y s (Post.ext y p)
    | _ => exact p.elim
  | exc c fs M => exact p
  | stuck => exact p
theorem de_one {op} {m : DM} (h : DE X Γ W a m) : DE X Γ W (.BoolOp op [a] pos) m := pe_one h
theorem de_and {ma mb : DM} (ha : DE X Γ W a ma) (hb : DE X Γ W (.BoolOp .And (b :: rest) pos) mb) : DE X Γ W (.BoolOp .And (a :: b :: rest) pos) (vAnd ma mb) :=
  PE.imp (pe_and ha hb) fun σ H Q ⟨F, P, ι, M, σd, n, p⟩ => ⟨F, P, ι, M, σd, n, post_tB2 p fun c M1 H1 F1 ι1 x1 s1 p1 => ⟨c, rfl, by
    cases c with
    | true => exact iteT ⟨F1, P, ι1, M1, σd, ⟨s1, n.sl.ext x1⟩, p1⟩
    | false => exact iteF (p1.here s1 (by simp only [Rep]))⟩⟩
theorem de_or {ma mb : DM} (ha : DE X Γ W a ma) (hb : DE X Γ W (.BoolOp .Or (b :: rest) pos) mb) : DE X Γ W (.BoolOp .Or (a :: b :: rest) pos) (vOr ma mb) :=
  PE.imp (pe_or ha hb) fun σ H Q ⟨F, P, ι, M, σd, n, p⟩ => ⟨F, P, ι, M, σd, n, post_tB2 p fun c M1 H1 F1 ι1 x1 s1 p1 => ⟨c, rfl, by
    cases c with
    | true => exact iteT (p1.here s1 (by simp only [Rep]))
    | false => exact iteF ⟨F1, P, ι1, M1, σd, ⟨s1, n.sl.ext x1⟩, p1⟩⟩⟩
theorem de_not {ma : DM} (ha : DE X Γ W a ma) : DE X Γ W (.UnaryOp .Not a pos) (vNot ma) :=
  PE.imp (pe_not ha) fun σ H Q ⟨F, P, ι, M, σd, n, p⟩ => ⟨F, P, ι, M, σd, n, post_tB2 p fun c M1 H1 F1 ι1 x1 s1 p1 => ⟨c, rfl, p1.here s1 (by simp only [Rep])⟩⟩
def mIf (mc : DT) (ma mb : DM) : DM := fun σ M => (mc σ M).bind fun c M1 => if c then ma σ M1 else mb σ M1
theorem de_if {mc : DT} {ma mb : DM} (hc : DTe X Γ W c mc) (ha : DE X Γ W a ma) (hb : DE X Γ W b mb) : DE X Γ W (.IfExp c a b pos) (mIf mc ma mb) :=
  PE.imp (pe_ifExp hc ha hb) fun σ H Q ⟨F, P, ι, M, σd, n, p⟩ => ⟨F, P, ι, M, σd, n, Post.seq p fun d M1 v H1 F1 ι1 _ x1 s1 r1 p1 => by
    have r1 : d = v := r1
    subst r1
    cases d with
    | true => exact iteT ⟨F1, P, ι1, M1, σd, ⟨s1, n.sl.ext x1⟩, p1⟩
    | false => exact iteF ⟨F1, P, ι1, M1, σd, ⟨s1, n.sl.ext x1⟩, p1⟩⟩
end

/-! ### argument lists, displays -/
def aNil : DA := fun _ M => .ok [] M
def aCons (m : DM) (r : DA) : DA := fun σ M => (m σ M).bind fun d M1 => (r σ M1).bind fun ds M2 => .ok (d :: ds) M2
section
variable {e : Expr} {es : List Expr} {m : DM} {r : DA}
theorem da_nil : DAs X Γ W [] aNil := PA.imp pa_nil fun σ H Q ⟨F, P, ι, M, σd, n, p⟩ => p.here n.st RepL.nil
theorem da_cons (ha : DE X Γ W e m) (hr : DAs X Γ W es r) (hs : starEach (e :: es) X.env = (false, eval e X.env) :: starEach es X.env) : DAs X Γ W (e :: es) (aCons m r) :=
  PA.imp (pa_cons ha hr hs) fun σ H Q ⟨F, P, ι, M, σd, n, p⟩ => ⟨F, P, ι, M, σd, n, Post.seq p fun d M1 v H1 F1 ι1 _ x1 s1 r1 p1 => ⟨F1, P, ι1, M1, σd, ⟨s1, n.sl.ext x1⟩, Post.seq p1 fun ds M2 vs H2 F2 ι2 _ x2 s2 r2 p2 =>
    p2.here s2 (.cons (Rep.ext x2 _ _ r1) r2)⟩⟩
def mTup (r : DA) : DM := fun σ M => (r σ M).bind fun ds M1 => if ds.length ≤ 1000 then .ok (.tup ds) M1 else .stuck
def mLst (r : DA) : DM := fun σ M => (r σ M).bind fun ds M1 => if ds.length ≤ 1000 then .ok (.lst ds) M1 else .stuck
/-- a list that will change -/
def mNew (r : DA) : DM := fun σ M => (r σ M).bind fun ds M1 => if ds.length ≤ 1000 then .ok (.obj M1.length) (M1 ++ [.lst ds]) else .stuck
theorem line1000 {n : Nat} (h : n ≤ 1000) : n ≤ sizeLine := Nat.le_of_lt (small1000 h)
theorem de_tup {k : Nat} (h : DAs X Γ W es r) : DE X Γ W (.Tuple es k pos) (mTup r) :=
  PE.imp (pe_tup h) fun σ H Q ⟨F, P, ι, M, σd, n, p⟩ => ⟨F, P, ι, M, σd, n, Post.seq p fun ds M1 vs H1 F1 ι1 _ x1 s1 r1 p1 => by
    split at p1
    · rename_i hl
      refine ⟨by rw [r1.length]; exact line1000 hl, fun a ha => ?_⟩
      refine p1 _ _ _ ι1 (ext_upd (s1.freshF ha)) (s1.laid ha _) ?_
      simp only [Rep]
      exact ⟨a, vs, rfl, SqT.of upd_same, RepL.ext (ext_upd (s1.freshF ha)) _ _ r1⟩
    · exact p1.elim⟩
theorem de_lst (h : DAs X Γ W es r) : DE X Γ W (.List es pos) (mLst r) :=
  PE.imp (pe_lst h) fun σ H Q ⟨F, P, ι, M, σd, n, p⟩ => ⟨F, P, ι, M, σd, n, Post.seq p fun ds M1 vs H1 F1 ι1 _ x1 s1 r1 p1 => by
    split at p1
    · rename_i hl
      refine ⟨by rw [r1.length]; exact line1000 hl, fun a ha => ?_⟩
      refine p1 _ _ _ ι1 (ext_upd (s1.freshF ha)) (s1.laid ha _) ?_
      simp only [Rep]
      exact ⟨a, vs, rfl, upd_same, RepL.ext (ext_upd (s1.freshF ha)) _ _ r1⟩
    · exact p1.elim⟩
theorem de_new (h : DAs X Γ W es r) : DE X Γ W (.List es pos) (mNew r) :=
  PE.imp (pe_lst h) fun σ H Q ⟨F, P, ι, M, σd, n, p⟩ => ⟨F, P, ι, M, σd, n, Post.seq p fun ds M1 vs H1 F1 ι1 _ x1 s1 r1 p1 => by
    split at p1
    · rename_i hl
      refine ⟨by rw [r1.length]; exact line1000 hl, fun a ha => ?_⟩
      have x : Ext F1 ι1 F1 (ι1 ++ [a]) := ⟨fun _ _ e => e, [a], rfl⟩
      refine p1 _ _ F1 (ι1 ++ [a]) x (s1.push ha (o := .lst vs) ⟨vs, rfl, RepL.ext x _ _ r1⟩) ?_
      simp only [Rep]
      exact ⟨a, by rw [← s1.len, List.getElem?_append_right (Nat.le_refl _)]; simp, rfl⟩
    · exact p1.elim⟩
end
end
end
end MT

set_option maxRecDepth 100000
/-! MtVals: what the operators do with data. -/
namespace MT
open PySem PySem.Spec PyProof.Rows L2
section
variable {X : Cx} {Γ : Gam}

theorem tx_len (l : List Nat) : (txt l).length = l.length := by
  show l.toArray.size = l.length
  exact List.size_toArray ..
theorem tx_app (a b : List Nat) : txt a ++ txt b = txt (a ++ b) := by
  show Str.mk (a.toArray ++ b.toArray) = Str.mk (a ++ b).toArray
  rw [List.append_toArray]
/-- a list that changes or not -/
def asLst (M : Mem) : D → Option (List D)
  | .lst ds => some ds
  | .obj n => match M[n]? with
    | some (.lst ds) => some ds
    | _ => none
  | _ => none
theorem asLst_at {F P : Hp} {ι : List Addr} {M : Mem} {H : Hp} (s : St Γ F P ι M H) {d : D} {v : V} {ds : List D} (r : Rep Γ F ι d v) (e : asLst M d = some ds) : ∃ a xs, v = .ref a ∧ H a = some (.lst xs) ∧ RepL Γ F ι ds xs := by
  cases d with
  | lst es =>
    simp only [asLst, Option.some.injEq] at e
    subst e
    simp only [Rep] at r
    obtain ⟨a, xs, e1, h, r⟩ := r
    exact ⟨a, xs, e1, s.fr _ _ h, r⟩
  | obj n =>
    simp only [asLst] at e
    split at e
    · rename_i es em
      simp only [Option.some.injEq] at e
      subst e
      simp only [Rep] at r
      obtain ⟨a, ha, e1⟩ := r
      obtain ⟨_, _, o, ho, xs, e2, r⟩ := s.ob n a _ ha em
      subst e2
      exact ⟨a, xs, e1, ho, r⟩
    · cases e
  | _ => cases e
/-- the result is a new list -/
theorem new_lst {F P : Hp} {ι : List Addr} {M : Mem} {H : Hp} (s : St Γ F P ι M H) {ds : List D} {xs : List V} (r : RepL Γ F ι ds xs) {Q : VK}
    (q : ∀ v H' F', Ext F ι F' ι → St Γ F' P ι M H' → Rep Γ F' ι (.lst ds) v → Q v H') : ∀ p, H p = none → Q (.ref p) (upd H p (.lst xs)) := fun p hp => by
  have x : Ext F ι (upd F p (.lst xs)) ι := ext_upd (s.freshF hp)
  refine q _ _ _ x (s.laid hp _) ?_
  simp only [Rep]
  exact ⟨p, xs, rfl, upd_same, RepL.ext x _ _ r⟩
theorem new_tup {F P : Hp} {ι : List Addr} {M : Mem} {H : Hp} (s : St Γ F P ι M H) {ds : List D} {xs : List V} (r : RepL Γ F ι ds xs) {Q : VK}
    (q : ∀ v H' F', Ext F ι F' ι → St Γ F' P ι M H' → Rep Γ F' ι (.tup ds) v → Q v H') : ∀ p, H p = none → Q (.ref p) (upd H p (.tup xs)) := fun p hp => by
  have x : Ext F ι (upd F p (.tup xs)) ι := ext_upd (s.freshF hp)
  refine q _ _ _ x (s.laid hp _) ?_
  simp only [Rep]
  exact ⟨p, xs, rfl, SqT.of upd_same, RepL.ext x _ _ r⟩
theorem SqT.fr {K : PySem.W.Frag} {F H : Hp} {a : Addr} {xs : List V} (e : ∀ a o, F a = some o → H a = some o) (h : SqT K F a xs) : SqT K H a xs := SqT.ext e h

/-! ### + -/
def gAdd (M : Mem) : D → D → Option D
  | .int i, .int j => some (.int (i + j))
  | .str a, .str b => if a.length + b.length ≤ sizeLine then some (.str (a ++ b)) else none
  | .tup a, .tup b => if a.length + b.length ≤ sizeLine then some (.tup (a ++ b)) else none
  | d, e => match asLst M d, asLst M e with
    | some a, some b => if a.length + b.length ≤ sizeLine then some (.lst (a ++ b)) else none
    | _, _ => none
theorem opd_add (g : Ok X Γ) : OpD X Γ (binaryOp .Add) gAdd := by
  have h : OpR X (binaryOp .Add) (fun x y H Q => (rI0 fun i j => .int (i + j)) x y H Q ∨ (∃ i j, x = .str i ∧ y = .str j ∧ i.length + j.length ≤ sizeLine ∧ Q (.str (i ++ j)) H) ∨ rCatA X.K x y H Q ∨ rCat x y H Q) := by
    intro pins s σ H x y v u Q I rx ry q
    rcases q with q | q | q | q
    · exact op_add pins s σ H x y v u Q I rx ry q
    · exact op_add_str pins s σ H x y v u Q I rx ry q
    · exact op_catA pins s σ H x y v u Q I rx ry q
    · exact op_cat pins s σ H x y v u Q I rx ry q
  refine OpR.imp h fun x y H Q ⟨F, P, ι, M, d, e, r, s, rd, re, eg, q⟩ => ?_
  have cat : ∀ {ds es : List D}, asLst M d = some ds → asLst M e = some es → ds.length + es.length ≤ sizeLine → r = .lst (ds ++ es) → rCat x y H Q := fun {ds es} h1 h2 hl er => by
    subst er
    obtain ⟨a, xs, rfl, ha, ra⟩ := asLst_at s rd h1
    obtain ⟨b, ys, rfl, hb, rb⟩ := asLst_at s re h2
    exact ⟨a, b, xs, ys, rfl, rfl, ha, hb, by rw [ra.length, rb.length]; exact hl, new_lst s (ra.app rb) q⟩
  unfold gAdd at eg
  split at eg
  · rename_i i j
    simp only [Option.some.injEq] at eg
    subst eg
    simp only [Rep] at rd re
    exact .inl ⟨i, j, rd, re, q _ _ F Ext.refl s (by simp only [Rep])⟩
  · rename_i a b
    split at eg
    · rename_i hl
      simp only [Option.some.injEq] at eg
      subst eg
      simp only [Rep] at rd re
      exact .inr (.inl ⟨_, _, rd, re, by rw [tx_len, tx_len]; exact hl, q _ _ F Ext.refl s (by simp only [Rep, tx_app])⟩)
    · cases eg
  · rename_i a b
    split at eg
    · rename_i hl
      simp only [Option.some.injEq] at eg
      subst eg
      have rd' := rd
      have re' := re
      simp only [Rep] at rd re
      obtain ⟨pa, xs, rfl, ha, ra⟩ := rd
      obtain ⟨pb, ys, rfl, hb, rb⟩ := re
      refine .inr (.inr (.inl ⟨pa, pb, xs, ys, rfl, rfl, by rw [g.k]; exact SqT.fr s.fr ha, by rw [g.k]; exact SqT.fr s.fr hb, by rw [ra.length, rb.length]; exact hl, fun h0 => ?_, fun h0 h1 => ?_, fun _ _ => new_tup s (ra.app rb) q⟩))
      · subst h0
        have : a = [] := by have := ra.length; cases a <;> simp at this ⊢
        subst this
        exact q _ _ F Ext.refl s re'
      · subst h1
        have : b = [] := by have := rb.length; cases b <;> simp at this ⊢
        subst this
        rw [List.append_nil] at q
        exact q _ _ F Ext.refl s rd'
    · cases eg
  · split at eg
    · rename_i h1 h2
      split at eg
      · rename_i hl
        simp only [Option.some.injEq] at eg
        exact .inr (.inr (.inr (cat h1 h2 hl eg.symm)))
      · cases eg
    · cases eg

/-! ### -, *, //, %, ** -/
def gSub (_ : Mem) : D → D → Option D
  | .int i, .int j => some (.int (i - j))
  | _, _ => none
theorem opd_sub : OpD X Γ (binaryOp .Sub) gSub :=
  OpR.imp op_sub fun x y H Q ⟨F, P, ι, M, d, e, r, s, rd, re, eg, q⟩ => by
    unfold gSub at eg
    split at eg
    · rename_i i j
      simp only [Option.some.injEq] at eg
      subst eg
      simp only [Rep] at rd re
      exact ⟨i, j, rd, re, q _ _ F Ext.refl s (by simp only [Rep])⟩
    · cases eg
def gMod (_ : Mem) : D → D → Option D
  | .int i, .int j => if j ≠ 0 then some (.int (i.fmod j)) else none
  | _, _ => none
theorem opd_mod : OpD X Γ (binaryOp .Mod) gMod :=
  OpR.imp op_modN fun x y H Q ⟨F, P, ι, M, d, e, r, s, rd, re, eg, q⟩ => by
    unfold gMod at eg
    split at eg
    · rename_i i j
      split at eg
      · rename_i hc
        simp only [Option.some.injEq] at eg
        subst eg
        simp only [Rep] at rd re
        exact ⟨i, j, rd, re, hc, q _ _ F Ext.refl s (by simp only [Rep])⟩
      · cases eg
    · cases eg
def gDiv (_ : Mem) : D → D → Option D
  | .int i, .int j => if j ≠ 0 ∧ j.natAbs < 1073741824 then some (.int (i.fdiv j)) else none
  | _, _ => none
theorem opd_div : OpD X Γ (binaryOp .FloorDiv) gDiv :=
  OpR.imp op_fdivN fun x y H Q ⟨F, P, ι, M, d, e, r, s, rd, re, eg, q⟩ => by
    unfold gDiv at eg
    split at eg
    · rename_i i j
      split at eg
      · rename_i hc
        simp only [Option.some.injEq] at eg
        subst eg
        simp only [Rep] at rd re
        exact ⟨i, j, rd, re, hc, q _ _ F Ext.refl s (by simp only [Rep])⟩
      · cases eg
    · cases eg
def gPow (_ : Mem) : D → D → Option D
  | .int i, .int j => if 0 ≤ j ∧ j ≤ 1000000 ∧ i.natAbs < 2 ^ 64 then some (.int (i ^ j.toNat)) else none
  | _, _ => none
theorem opd_pow : OpD X Γ (binaryOp .Pow) gPow :=
  OpR.imp op_pow fun x y H Q ⟨F, P, ι, M, d, e, r, s, rd, re, eg, q⟩ => by
    unfold gPow at eg
    split at eg
    · rename_i i j
      split at eg
      · rename_i hc
        simp only [Option.some.injEq] at eg
        subst eg
        simp only [Rep] at rd re
        exact ⟨i, j, rd, re, hc, q _ _ F Ext.refl s (by simp only [Rep])⟩
      · cases eg
    · cases eg
def gMul (M : Mem) : D → D → Option D
  | .int i, .int j => if (-(2 ^ 64) < i ∧ i < 2 ^ 64) ∨ (-(2 ^ 64) < j ∧ j < 2 ^ 64) then some (.int (i * j)) else none
  | d, .int k => match asLst M d with
    | some ds => if -(2 ^ 63) ≤ k ∧ k < 2 ^ 63 ∧ ds.length * k.toNat ≤ sizeLine then some (.lst (List.replicate k.toNat ds).flatten) else none
    | none => none
  | _, _ => none
theorem RepL.rep {F : Hp} {ι : List Addr} {ds : List D} {xs : List V} (h : RepL Γ F ι ds xs) : ∀ n : Nat, RepL Γ F ι (List.replicate n ds).flatten (List.replicate n xs).flatten
  | 0 => RepL.nil
  | n + 1 => by
    simp only [List.replicate_succ, List.flatten_cons]
    exact h.app (RepL.rep h n)
theorem opd_mul : OpD X Γ (binaryOp .Mult) gMul := by
  have h : OpR X (binaryOp .Mult) (fun x y H Q => (rI CMul fun i j => .int (i * j)) x y H Q ∨ rRep x y H Q) := by
    intro pins s σ H x y v u Q I rx ry q
    rcases q with q | q
    · exact op_mul pins s σ H x y v u Q I rx ry q
    · exact op_rep pins s σ H x y v u Q I rx ry q
  refine OpR.imp h fun x y H Q ⟨F, P, ι, M, d, e, r, s, rd, re, eg, q⟩ => ?_
  unfold gMul at eg
  split at eg
  · rename_i i j
    split at eg
    · rename_i hc
      simp only [Option.some.injEq] at eg
      subst eg
      simp only [Rep] at rd re
      exact .inl ⟨i, j, rd, re, hc, q _ _ F Ext.refl s (by simp only [Rep])⟩
    · cases eg
  · rename_i k _
    split at eg
    · rename_i ds hd
      split at eg
      · rename_i hc
        simp only [Option.some.injEq] at eg
        subst eg
        obtain ⟨a, xs, rfl, ha, ra⟩ := asLst_at s rd hd
        simp only [Rep] at re
        exact .inr ⟨a, k, xs, rfl, re, ha, hc.1, hc.2.1, by rw [ra.length]; exact hc.2.2, new_lst s (ra.rep _) q⟩
      · cases eg
    · cases eg
  · cases eg

/-! ### <, <=, >, >= -/
def gCmp (ki : Int → Int → Bool) (ks : List Nat → List Nat → Bool) (_ : Mem) : D → D → Option D
  | .int i, .int j => some (.bl (ki i j))
  | .str a, .str b => some (.bl (ks a b))
  | _, _ => none
theorem opd_cmp {op : CmpOp} {ki : Int → Int → Bool} {ks : List Nat → List Nat → Bool} (hi : OpR X (compareOp op) (rI0 fun i j => .bl (ki i j)))
    (hs : OpR X (compareOp op) (fun x y H Q => ∃ i j, x = .str i ∧ y = .str j ∧ Q (.bl (ks i.cps.toList j.cps.toList)) H)) : OpD X Γ (compareOp op) (gCmp ki ks) := by
  have h : OpR X (compareOp op) (fun x y H Q => (rI0 fun i j => .bl (ki i j)) x y H Q ∨ (∃ i j, x = .str i ∧ y = .str j ∧ Q (.bl (ks i.cps.toList j.cps.toList)) H)) := by
    intro pins s σ H x y v u Q I rx ry q
    rcases q with q | q
    · exact hi pins s σ H x y v u Q I rx ry q
    · exact hs pins s σ H x y v u Q I rx ry q
  refine OpR.imp h fun x y H Q ⟨F, P, ι, M, d, e, r, s, rd, re, eg, q⟩ => ?_
  unfold gCmp at eg
  split at eg
  · rename_i i j
    simp only [Option.some.injEq] at eg
    subst eg
    simp only [Rep] at rd re
    exact .inl ⟨i, j, rd, re, q _ _ F Ext.refl s (by simp only [Rep])⟩
  · rename_i a b
    simp only [Option.some.injEq] at eg
    subst eg
    simp only [Rep] at rd re
    exact .inr ⟨_, _, rd, re, q _ _ F Ext.refl s (by simp only [Rep])⟩
  · cases eg
abbrev gLt := gCmp (fun i j => decide (i < j)) (fun a b => decide (a < b))
abbrev gLe := gCmp (fun i j => decide (i ≤ j)) (fun a b => !decide (b < a))
abbrev gGt := gCmp (fun i j => decide (j < i)) (fun a b => decide (b < a))
abbrev gGe := gCmp (fun i j => decide (j ≤ i)) (fun a b => !decide (a < b))
theorem opd_lt : OpD X Γ (compareOp .Lt) gLt := opd_cmp op_lt op_lt_str
theorem opd_le : OpD X Γ (compareOp .LtE) gLe := opd_cmp op_le op_le_str
theorem opd_gt : OpD X Γ (compareOp .Gt) gGt := opd_cmp op_gt op_gt_str
theorem opd_ge : OpD X Γ (compareOp .GtE) gGe := opd_cmp op_ge op_ge_str

/-! ### ==, != of data -/
mutual
def toP : D → Option PyData
  | .non => some .none
  | .bl b => some (.bool b)
  | .int i => some (.int i)
  | .str l => some (.str (txt l))
  | .tup ds => (toPL ds).map .tuple
  | .lst ds => (toPL ds).map .list
  | _ => none
def toPL : List D → Option (List PyData)
  | [] => some []
  | d :: ds => (toP d).bind fun p => (toPL ds).map fun ps => p :: ps
end
mutual
theorem toP_dp {F P : Hp} {ι : List Addr} {M : Mem} {H : Hp} (s : St Γ F P ι M H) : ∀ (d : D) (v : V) (p : PyData), Rep Γ F ι d v → toP d = some p → Dp Γ.K H v p
  | .non, v, p, r, e => by
    simp only [Rep] at r; simp only [toP, Option.some.injEq] at e; subst r e; exact .non
  | .bl b, v, p, r, e => by
    simp only [Rep] at r; simp only [toP, Option.some.injEq] at e; subst r e; exact .bl b
  | .int i, v, p, r, e => by
    simp only [Rep] at r; simp only [toP, Option.some.injEq] at e; subst r e; exact .int i
  | .str l, v, p, r, e => by
    simp only [Rep] at r; simp only [toP, Option.some.injEq] at e; subst r e; exact .str _
  | .tup ds, v, p, r, e => by
    simp only [Rep] at r
    obtain ⟨a, xs, rfl, ha, ra⟩ := r
    simp only [toP, Option.map_eq_some_iff] at e
    obtain ⟨ps, e1, rfl⟩ := e
    exact .tup (SqT.fr s.fr ha) (toPL_dp s ds xs ps ra e1)
  | .lst ds, v, p, r, e => by
    simp only [Rep] at r
    obtain ⟨a, xs, rfl, ha, ra⟩ := r
    simp only [toP, Option.map_eq_some_iff] at e
    obtain ⟨ps, e1, rfl⟩ := e
    exact .lst (SqL.of (s.fr _ _ ha)) (toPL_dp s ds xs ps ra e1)
  | .flt _, _, _, _, e => by simp [toP] at e
  | .dic _ _, _, _, _, e => by simp [toP] at e
  | .obj _, _, _, _, e => by simp [toP] at e
  | .ins _ _, _, _, _, e => by simp [toP] at e
  | .clo _ _, _, _, _, e => by simp [toP] at e
  | .lam _, _, _, _, e => by simp [toP] at e
  | .exn _ _, _, _, _, e => by simp [toP] at e
  | .scr _, _, _, _, e => by simp [toP] at e
theorem toPL_dp {F P : Hp} {ι : List Addr} {M : Mem} {H : Hp} (s : St Γ F P ι M H) : ∀ (ds : List D) (vs : List V) (ps : List PyData), RepL Γ F ι ds vs → toPL ds = some ps → DpAll Γ.K H vs ps
  | [], vs, ps, r, e => by
    simp only [RepL] at r; simp only [toPL, Option.some.injEq] at e; subst r e; exact .nil
  | d :: ds, vs, ps, r, e => by
    simp only [RepL] at r
    obtain ⟨x, xs, rfl, h1, h2⟩ := r
    simp only [toPL, Option.bind_eq_some_iff, Option.map_eq_some_iff] at e
    obtain ⟨p, e1, qs, e2, rfl⟩ := e
    exact .cons (toP_dp s d x p h1 e1) (toPL_dp s ds xs qs h2 e2)
end
/-- a changing list, too -/
def toPM (M : Mem) : D → Option PyData
  | .obj n => match M[n]? with
    | some (.lst ds) => (toPL ds).map .list
    | _ => none
  | d => toP d
theorem toPM_dp {F P : Hp} {ι : List Addr} {M : Mem} {H : Hp} (s : St Γ F P ι M H) {d : D} {v : V} {p : PyData} (r : Rep Γ F ι d v) (e : toPM M d = some p) : Dp Γ.K H v p := by
  unfold toPM at e
  split at e
  · rename_i n
    split at e
    · rename_i ds em
      simp only [Option.map_eq_some_iff] at e
      obtain ⟨ps, e1, rfl⟩ := e
      simp only [Rep] at r
      obtain ⟨a, ha, rfl⟩ := r
      obtain ⟨_, _, o, ho, xs, rfl, r⟩ := s.ob n a _ ha em
      exact .lst (SqL.of ho) (toPL_dp s ds xs ps r e1)
    · cases e
  · exact toP_dp s _ _ _ r e
def gEqP (neg : Bool) (M : Mem) (d e : D) : Option D := match toPM M d, toPM M e with
  | some p, some q => if SeqAt.shaped p = true ∧ SeqAt.shaped q = true then some (.bl (if neg then !PyData.eqv p q else PyData.eqv p q)) else none
  | _, _ => none
def gEqN (neg : Bool) (M : Mem) : D → D → Option D
  | .str a, .str b => some (.bl (if neg then !(a == b) else (a == b)))
  | d, e => gEqP neg M d e
theorem txt_beq {a b : List Nat} : (txt a == txt b) = (a == b) := by
  rw [Bool.eq_iff_iff, beq_iff_eq, beq_iff_eq]
  constructor
  · intro h
    have := congrArg (fun s : Str => s.cps.toList) h
    simpa using this
  · intro h; rw [h]
abbrev gEq := gEqN false
abbrev gNe := gEqN true
theorem opd_eqP (g : Ok X Γ) : OpD X Γ (compareOp .Eq) (gEqP false) :=
  OpR.imp (op_eqD g.u) fun x y H Q ⟨F, P, ι, M, d, e, r, s, rd, re, eg, q⟩ => by
    unfold gEqP at eg
    split at eg
    · rename_i p p' e1 e2
      split at eg
      · rename_i hs
        simp only [Option.some.injEq] at eg
        subst eg
        exact ⟨p, p', by rw [g.k]; exact toPM_dp s rd e1, by rw [g.k]; exact toPM_dp s re e2, hs.1, hs.2, q _ _ F Ext.refl s (by simp [Rep])⟩
      · cases eg
    · cases eg
theorem opd_neP (g : Ok X Γ) : OpD X Γ (compareOp .NotEq) (gEqP true) :=
  OpR.imp (op_neD g.u) fun x y H Q ⟨F, P, ι, M, d, e, r, s, rd, re, eg, q⟩ => by
    unfold gEqP at eg
    split at eg
    · rename_i p p' e1 e2
      split at eg
      · rename_i hs
        simp only [Option.some.injEq] at eg
        subst eg
        exact ⟨p, p', by rw [g.k]; exact toPM_dp s rd e1, by rw [g.k]; exact toPM_dp s re e2, hs.1, hs.2, q _ _ F Ext.refl s (by simp [Rep])⟩
      · cases eg
    · cases eg
theorem opd_eq (g : Ok X Γ) : OpD X Γ (compareOp .Eq) gEq := by
  intro pins s σ H x y v u Q I rx ry ⟨F, P, ι, M, d, e, r, st, rd, re, eg, q⟩
  unfold gEq gEqN at eg
  split at eg
  · rename_i a b
    simp only [Option.some.injEq] at eg
    subst eg
    simp only [Rep] at rd re
    subst rd; subst re
    obtain ⟨t1, rfl⟩ := rx
    obtain ⟨t2, rfl⟩ := ry
    refine eq_str ?_
    rw [txt_beq]
    exact ⟨.bl (a == b), H, I, rfl, q _ _ F Ext.refl st (by simp [Rep])⟩
  · exact opd_eqP g pins s σ H x y v u Q I rx ry ⟨F, P, ι, M, _, _, r, st, rd, re, eg, q⟩
theorem opd_ne (g : Ok X Γ) : OpD X Γ (compareOp .NotEq) gNe := by
  intro pins s σ H x y v u Q I rx ry ⟨F, P, ι, M, d, e, r, st, rd, re, eg, q⟩
  unfold gNe gEqN at eg
  split at eg
  · rename_i a b
    simp only [Option.some.injEq] at eg
    subst eg
    simp only [Rep] at rd re
    subst rd; subst re
    obtain ⟨t1, rfl⟩ := rx
    obtain ⟨t2, rfl⟩ := ry
    refine ne_str ?_
    rw [show (txt a != txt b) = !(a == b) by rw [← txt_beq]; rfl]
    exact ⟨.bl (!(a == b)), H, I, rfl, q _ _ F Ext.refl st (by simp [Rep])⟩
  · exact opd_neP g pins s σ H x y v u Q I rx ry ⟨F, P, ι, M, _, _, r, st, rd, re, eg, q⟩
/-! ### is None -/
def isN : D → Bool
  | .non => true
  | _ => false
theorem isN_V {F : Hp} {ι : List Addr} {d : D} {v : V} (r : Rep Γ F ι d v) : decide (v = V.non) = isN d := by
  cases d <;> simp only [Rep] at r <;> first
    | (subst r; simp [isN]; done)
    | (obtain ⟨a, dx, xs, rfl, _⟩ := r; simp [isN]; done)
    | (obtain ⟨a, _, _, _, _, rfl, _⟩ := r; simp [isN]; done)
    | (obtain ⟨a, _, _, _, rfl, _⟩ := r; simp [isN]; done)
    | (obtain ⟨a, _, _, rfl, _⟩ := r; simp [isN]; done)
    | (obtain ⟨a, xs, rfl, _⟩ := r; simp [isN]; done)
    | (obtain ⟨a, _, rfl⟩ := r; simp [isN]; done)
    | (obtain ⟨a, rfl, _⟩ := r; simp [isN]; done)
def gIs (neg : Bool) (_ : Mem) (d e : D) : Option D := if isN e then some (.bl (if neg then !isN d else isN d)) else none
theorem opd_is : OpD X Γ (compareOp .Is) (gIs false) :=
  OpR.imp op_isN fun x y H Q ⟨F, P, ι, M, d, e, r, s, rd, re, eg, q⟩ => by
    unfold gIs at eg
    split at eg
    · rename_i hn
      simp only [Option.some.injEq] at eg
      subst eg
      have e1 : y = .non := by have := isN_V re; rw [hn] at this; exact of_decide_eq_true this
      exact ⟨e1, q _ _ F Ext.refl s (by simp [Rep, isN_V rd])⟩
    · cases eg
theorem opd_isnot : OpD X Γ (compareOp .IsNot) (gIs true) :=
  OpR.imp op_notN fun x y H Q ⟨F, P, ι, M, d, e, r, s, rd, re, eg, q⟩ => by
    unfold gIs at eg
    split at eg
    · rename_i hn
      simp only [Option.some.injEq] at eg
      subst eg
      have e1 : y = .non := by have := isN_V re; rw [hn] at this; exact of_decide_eq_true this
      exact ⟨e1, q _ _ F Ext.refl s (by simp [Rep, isN_V rd])⟩
    · cases eg
/-! ### in, not in -/
def flatD : D → Bool
  | .non => true
  | .bl _ => true
  | .int _ => true
  | .str _ => true
  | _ => false
/-- == of flat data: the first the item -/
def eqF : D → D → Bool
  | .non, .non => true
  | .bl a, .bl b => a == b
  | .bl a, .int b => (if a then 1 else 0) == b
  | .int a, .bl b => a == (if b then 1 else 0)
  | .int a, .int b => a == b
  | .str a, .str b => a == b
  | _, _ => false
theorem flat_V {F : Hp} {ι : List Addr} {d : D} {v : V} (r : Rep Γ F ι d v) (h : flatD d = true) : flatV v = true := by
  cases d <;> simp only [flatD] at h <;> first
    | (cases h; done)
    | (simp only [Rep] at r; subst r; rfl)
theorem eqF_V {F : Hp} {ι : List Addr} {d e : D} {v u : V} (r : Rep Γ F ι d v) (r' : Rep Γ F ι e u) (h : flatD d = true) (h' : flatD e = true) : eqV v u = eqF d e := by
  cases d <;> simp only [flatD] at h <;> first
    | (cases h; done)
    | (cases e <;> simp only [flatD] at h' <;> first
        | (cases h'; done)
        | (simp only [Rep] at r r'; subst r r'; first
            | rfl
            | (simp only [eqV, eqF]; rw [Bool.eq_iff_iff]; simp [txt])))
theorem flat_all {F : Hp} {ι : List Addr} : ∀ {ds : List D} {vs : List V}, RepL Γ F ι ds vs → ds.all flatD = true → vs.all flatV = true
  | [], _, r, _ => by simp only [RepL] at r; subst r; rfl
  | d :: ds, _, r, h => by
    simp only [RepL] at r
    obtain ⟨x, xs, rfl, h1, h2⟩ := r
    simp only [List.all_cons, Bool.and_eq_true] at h ⊢
    exact ⟨flat_V h1 h.1, flat_all h2 h.2⟩
theorem inF_V {F : Hp} {ι : List Addr} {e : D} {u : V} (r' : Rep Γ F ι e u) (h' : flatD e = true) : ∀ {ds : List D} {vs : List V}, RepL Γ F ι ds vs → ds.all flatD = true → inV u vs = ds.any fun d => eqF d e
  | [], _, r, _ => by simp only [RepL] at r; subst r; rfl
  | d :: ds, _, r, h => by
    simp only [RepL] at r
    obtain ⟨x, xs, rfl, h1, h2⟩ := r
    simp only [List.all_cons, Bool.and_eq_true] at h
    show (eqV x u || inV u xs) = _
    rw [List.any_cons, eqF_V h1 r' h.1 h', inF_V r' h' h2 h.2]
def asSeq (M : Mem) (d : D) : Option (List D) := match d with
  | .tup ds => some ds
  | d => asLst M d
theorem asSeq_at {F P : Hp} {ι : List Addr} {M : Mem} {H : Hp} (s : St Γ F P ι M H) {d : D} {v : V} {ds : List D} (r : Rep Γ F ι d v) (e : asSeq M d = some ds) : ∃ a xs, v = .ref a ∧ (SqL Γ.K H a xs ∨ SqT Γ.K H a xs) ∧ RepL Γ F ι ds xs := by
  unfold asSeq at e
  split at e
  · simp only [Option.some.injEq] at e
    subst e
    simp only [Rep] at r
    obtain ⟨a, xs, rfl, ha, ra⟩ := r
    exact ⟨a, xs, rfl, .inr (SqT.fr s.fr ha), ra⟩
  · obtain ⟨a, xs, rfl, ha, ra⟩ := asLst_at s r e
    exact ⟨a, xs, rfl, .inl (SqL.of ha), ra⟩
def gIn (neg : Bool) (M : Mem) (d e : D) : Option D := match d, e with
  | .str [c], .str l => some (.bl (if neg then !decide (c ∈ l) else decide (c ∈ l)))
  | d, e => match asSeq M e with
    | some ds => if flatD d = true ∧ ds.all flatD = true then some (.bl (if neg then !(ds.any fun x => eqF x d) else ds.any fun x => eqF x d)) else none
    | none => match d, asDic M e with
      | .str l, some p => some (.bl (if neg then !(lookD (.inr (txt l)) p.1 p.2).isSome else (lookD (.inr (txt l)) p.1 p.2).isSome))
      | _, _ => none
theorem opd_inN {op : CmpOp} {neg : Bool} (h1 : OpR X (compareOp op) (rIn X.K neg)) (h2 : OpR X (compareOp op) (fun x y H Q => ∃ (c : Nat) (z : Str), x = .str ⟨#[c]⟩ ∧ y = .str z ∧ Q (.bl (if neg then !decide (c ∈ z.cps.toList) else decide (c ∈ z.cps.toList))) H))
    (h3 : OpR X (compareOp op) (fun x y H Q => ∃ p z kvs, x = .str z ∧ y = .ref p ∧ DkT X.K X.w H p kvs ∧ Q (.bl (if neg then !(valV kvs (.inr z)).isSome else (valV kvs (.inr z)).isSome)) H)) (g : Ok X Γ) :
    OpD X Γ (compareOp op) (gIn neg) := by
  have h : OpR X (compareOp op) (fun x y H Q => rIn X.K neg x y H Q ∨ (∃ (c : Nat) (z : Str), x = .str ⟨#[c]⟩ ∧ y = .str z ∧ Q (.bl (if neg then !decide (c ∈ z.cps.toList) else decide (c ∈ z.cps.toList))) H) ∨
      (∃ p z kvs, x = .str z ∧ y = .ref p ∧ DkT X.K X.w H p kvs ∧ Q (.bl (if neg then !(valV kvs (.inr z)).isSome else (valV kvs (.inr z)).isSome)) H)) := by
    intro pins s σ H x y v u Q I rx ry q
    rcases q with q | q | q
    · exact h1 pins s σ H x y v u Q I rx ry q
    · exact h2 pins s σ H x y v u Q I rx ry q
    · exact h3 pins s σ H x y v u Q I rx ry q
  refine OpR.imp h fun x y H Q ⟨F, P, ι, M, d, e, r, s, rd, re, eg, q⟩ => ?_
  unfold gIn at eg
  split at eg
  · rename_i c l
    simp only [Option.some.injEq] at eg
    subst eg
    simp only [Rep] at rd re
    exact .inr (.inl ⟨c, txt l, rd, re, q _ _ F Ext.refl s (by simp [Rep, txt])⟩)
  · split at eg
    · rename_i ds hd
      split at eg
      · rename_i hf
        simp only [Option.some.injEq] at eg
        subst eg
        obtain ⟨a, xs, rfl, ha, ra⟩ := asSeq_at s re hd
        refine .inl ⟨a, xs, rfl, by rw [g.k]; exact ha, flat_V rd hf.1, flat_all ra hf.2, ?_⟩
        rw [inF_V rd hf.1 ra hf.2]
        exact q _ _ F Ext.refl s (by simp only [Rep])
      · cases eg
    · split at eg
      · rename_i l p hp _
        simp only [Option.some.injEq] at eg
        subst eg
        simp only [Rep] at rd
        obtain ⟨a, kvs, rfl, ha, e1, ra⟩ := asDic_at s re hp
        refine .inr (.inr ⟨a, txt l, kvs, rd, rfl, by rw [g.k, g.w]; exact ha, ?_⟩)
        have hl := lookD_V (k := .inr (txt l)) e1 ra
        have e2 : (lookD (.inr (txt l)) p.1 p.2).isSome = (valV kvs (.inr (txt l))).isSome := by
          cases h1 : lookD (.inr (txt l)) p.1 p.2 <;> cases h2 : valV kvs (.inr (txt l)) <;> rw [h1, h2] at hl <;> first | rfl | exact hl.elim
        rw [← e2]
        exact q _ _ F Ext.refl s (by simp only [Rep])
      · cases eg
theorem opd_in (g : Ok X Γ) : OpD X Γ (compareOp .In) (gIn false) := opd_inN op_in_seq (by simpa using op_in_sign) (by simpa using op_in_dic (by have := g.u; omega)) g
theorem opd_notin (g : Ok X Γ) : OpD X Γ (compareOp .NotIn) (gIn true) := opd_inN op_notIn_seq (by simpa using op_notIn_sign) (by simpa using op_notIn_dic (by have := g.u; omega)) g
end
end MT

set_option maxRecDepth 100000
/-! MtStm: statements, loops, calls of defs. -/
namespace MT
open PySem PySem.Spec PyProof.Rows L2
section
variable {X : Cx} {Γ : Gam} {W : WX} {pos : Pos}

/-! ### blocks -/
def sNil : DSt := fun σ M => .nx σ M
def sSeq (a b : DSt) : DSt := fun σ M => match a σ M with
  | .nx σ' M' => b σ' M'
  | r => r
theorem ds_nil : DSs X Γ W [] sNil := PSs.imp pss_nil fun D σ H ⟨F, P, ι, M, σd, n, p⟩ => p σ H F ι Ext.refl n
section
variable {st : Stmt} {rest : List Stmt} {a b : DSt}
theorem ds_cons (h1 : DS X Γ W st a) (h2 : DSs X Γ W rest b) : DSs X Γ W (st :: rest) (sSeq a b) :=
  PSs.imp (pss_cons h1 h2) fun D σ H ⟨F, P, ι, M, σd, n, p⟩ => ⟨F, P, ι, M, σd, n, by
    unfold sSeq at p
    cases e : a σd M with
    | nx σ' M' =>
      rw [e] at p
      exact fun σ2 H2 F2 ι2 x n2 => ⟨F2, P, ι2, M', σ', n2, PostS.ext x p⟩
    | bk σ' M' => rw [e] at p; exact p
    | ct σ' M' => rw [e] at p; exact p
    | rt d M' => rw [e] at p; exact p
    | exc c fs σ' M' => rw [e] at p; exact p
    | stuck => rw [e] at p; exact p⟩
theorem ds_one (h1 : DS X Γ W st a) : DSs X Γ W [st] a := pss_one h1
end
def sBrk : DSt := fun σ M => .bk σ M
def sCnt : DSt := fun σ M => .ct σ M
theorem ds_pass : DS X Γ W (.Pass pos) sNil := PS.imp ps_pass fun D σ H ⟨F, P, ι, M, σd, n, p⟩ => p σ H F ι Ext.refl n
theorem ds_break : DS X Γ W (.Break pos) sBrk := PS.imp ps_break fun D σ H ⟨F, P, ι, M, σd, n, p⟩ => p σ H F ι Ext.refl n
theorem ds_continue : DS X Γ W (.Continue pos) sCnt := PS.imp ps_continue fun D σ H ⟨F, P, ι, M, σd, n, p⟩ => p σ H F ι Ext.refl n
/-! ### small statements -/
def sRet (m : DM) : DSt := fun σ M => (m σ M).out σ fun d M' => .rt d M'
def sRetN : DSt := fun _ M => .rt .non M
def sExpr (m : DM) : DSt := fun σ M => (m σ M).out σ fun _ M' => .nx σ M'
def sSet (i : Nat) (m : DM) : DSt := fun σ M => (m σ M).out σ fun d M' => .nx (σ.set i (some d)) M'
def sIf (c : DT) (a b : DSt) : DSt := fun σ M => (c σ M).out σ fun k M' => if k then a σ M' else b σ M'
section
variable {e : Expr} {m : DM}
theorem ds_ret (he : DE X Γ W e m) : DS X Γ W (.Return (some e) pos) (sRet m) :=
  PS.imp (ps_ret he) fun D σ H ⟨F, P, ι, M, σd, n, p⟩ => ⟨F, P, ι, M, σd, n, PostS.begin n.sl p fun d M' v H' F' ι' _ x n' r p' => p' v H' F' ι' Ext.refl n'.st r⟩
theorem ds_retN : DS X Γ W (.Return none pos) sRetN :=
  PS.imp ps_retN fun D σ H ⟨F, P, ι, M, σd, n, p⟩ => p _ H F ι Ext.refl n.st (by simp only [Rep])
theorem ds_expr (he : DE X Γ W e m) (hs : swapsWith e none pos.line X.env = pure false) : DS X Γ W (.Expr e pos) (sExpr m) :=
  PS.imp (ps_expr he hs) fun D σ H ⟨F, P, ι, M, σd, n, p⟩ => ⟨F, P, ι, M, σd, n, PostS.begin n.sl p fun d M' v H' F' ι' _ x n' r p' => p' σ H' F' ι' Ext.refl n'⟩
theorem Now.set {P : Hp} {σd : Slots} {M : Mem} {σ : L2.St} {H F : Hp} {ι : List Addr} {d : D} {v : V} (n : Now Γ P σd M σ H F ι) (r : Rep Γ F ι d v) (i : Nat) : Now Γ P (σd.set i (some d)) M (σ.set i (some v)) H F ι := ⟨n.st, n.sl.set r i⟩
theorem ds_set {i : Nat} {x : Str} {pos' : Pos} (hN : X.N.Nodup) (hi : X.N[i]? = some x) (hx : Loc X.env.scope x) (he : DE X Γ W e m) (hs : swapsWith e (some (.Name x pos')) pos.line X.env = pure false) (hf : X.fn x = true ∨ X.env.scope.names.lookup x = some .local) :
    DS X Γ W (.Assign [.Name x pos'] e pos) (sSet i m) :=
  PS.imp (ps_set hN hi hx he hs hf) fun D σ H ⟨F, P, ι, M, σd, n, p⟩ => ⟨F, P, ι, M, σd, n, PostS.begin n.sl p fun d M' v H' F' ι' _ x n' r p' => p' _ H' F' ι' Ext.refl (n'.set r i)⟩
theorem ds_if {c : Expr} {ta tb : List Stmt} {mc : DT} {a b : DSt} (hc : DTe X Γ W c mc) (ha : DSs X Γ W ta a) (hb : DSs X Γ W tb b) : DS X Γ W (.If c ta tb pos) (sIf mc a b) :=
  PS.imp (ps_if hc ha hb) fun D σ H ⟨F, P, ι, M, σd, n, p⟩ => ⟨F, P, ι, M, σd, n, PostS.begin n.sl p fun d M' v H' F' ι' _ x n' r p' => by
    have r : d = v := r
    subst r
    cases d with
    | true => exact iteT ⟨F', P, ι', M', σd, n', p'⟩
    | false => exact iteF ⟨F', P, ι', M', σd, n', p'⟩⟩
end
/-! ### targets -/
abbrev DGt := D → Slots → Mem → Option (Slots × Mem)
/-- the slots agree but for some -/
def Agree (ts : List Nat) (σ σ' : L2.St) : Prop := σ'.length = σ.length ∧ ∀ i, i ∉ ts → σ'[i]? = σ[i]?
theorem Agree.refl {ts : List Nat} {σ : L2.St} : Agree ts σ σ := ⟨rfl, fun _ _ => rfl⟩
theorem Agree.trans {ts us : List Nat} {σ σ1 σ2 : L2.St} (a : Agree ts σ σ1) (b : Agree us σ1 σ2) : Agree (ts ++ us) σ σ2 :=
  ⟨b.1.trans a.1, fun i h => by
    simp only [List.mem_append, not_or] at h
    exact (b.2 i h.2).trans (a.2 i h.1)⟩
def liftG (Γ : Gam) (ts : List Nat) (g : DGt) : TG := fun v σ H Q => ∃ F P ι M σd d σd' M', Now Γ P σd M σ H F ι ∧ Rep Γ F ι d v ∧ g d σd M = some (σd', M') ∧ ∀ σ' H' F' ι', Ext F ι F' ι' → Now Γ P σd' M' σ' H' F' ι' → Agree ts σ σ' → Q σ' H'
def DG (X : Cx) (Γ : Gam) (ts : List Nat) (tg : Expr) (g : DGt) : Prop := PG X tg (liftG Γ ts g)
theorem PG.imp {tg : Expr} {t t' : TG} (h : PG X tg t) (q : ∀ v σ H Q, t' v σ H Q → t v σ H Q) : PG X tg t' := ⟨fun pins s σ H v u Q I r z => h.run pins s σ H v u Q I r (q v σ H Q z)⟩
theorem PGs.imp {tg : List Expr} {t t' : TGs} (h : PGs X tg t) (q : ∀ v σ H Q, t' v σ H Q → t v σ H Q) : PGs X tg t' := ⟨fun pins s σ H v u Q I r z => h.run pins s σ H v u Q I r (q v σ H Q z)⟩
def gtName (i : Nat) : DGt := fun d σ M => some (σ.set i (some d), M)
theorem dg_name {i : Nat} {x : Str} (hN : X.N.Nodup) (hi : X.N[i]? = some x) (hx : Loc X.env.scope x) (hf : X.fn x = true ∨ X.env.scope.names.lookup x = some .local) : DG X Γ [i] (.Name x pos) (gtName i) :=
  PG.imp (pg_name hN hi hx hf) fun v σ H Q ⟨F, P, ι, M, σd, d, σd', M', n, r, e, q⟩ => by
    cases e
    exact q _ H F ι Ext.refl (n.set r i) ⟨List.length_set .., fun j hj => by
      simp only [List.mem_singleton] at hj
      rw [List.getElem?_set_ne (Ne.symm hj)]⟩
abbrev DGs := List D → Slots → Mem → Option (Slots × Mem)
def liftGs (Γ : Gam) (ts : List Nat) (g : DGs) : TGs := fun vs σ H Q => ∃ F P ι M σd ds σd' M', Now Γ P σd M σ H F ι ∧ RepL Γ F ι ds vs ∧ g ds σd M = some (σd', M') ∧ ∀ σ' H' F' ι', Ext F ι F' ι' → Now Γ P σd' M' σ' H' F' ι' → Agree ts σ σ' → Q σ' H'
def DGsP (X : Cx) (Γ : Gam) (ts : List Nat) (tg : List Expr) (g : DGs) : Prop := PGs X tg (liftGs Γ ts g)
def gtNil : DGs := fun ds σ M => match ds with
  | [] => some (σ, M)
  | _ => none
def gtCons (g : DGt) (gs : DGs) : DGs := fun ds σ M => match ds with
  | d :: r => (g d σ M).bind fun p => gs r p.1 p.2
  | [] => none
theorem dgs_nil : DGsP X Γ [] [] gtNil :=
  PGs.imp pgs_nil fun vs σ H Q ⟨F, P, ι, M, σd, ds, σd', M', n, r, e, q⟩ => by
    unfold gtNil at e
    split at e
    · cases e
      simp only [RepL] at r
      exact ⟨r, q σ H F ι Ext.refl n Agree.refl⟩
    · cases e
theorem dgs_cons {tg : Expr} {tgs : List Expr} {ts us : List Nat} {g : DGt} {gs : DGs} (h1 : DG X Γ ts tg g) (h2 : DGsP X Γ us tgs gs) (hs : (assignEach (tg :: tgs) X.env).map (·.2) = assign tg X.env :: (assignEach tgs X.env).map (·.2)) : DGsP X Γ (ts ++ us) (tg :: tgs) (gtCons g gs) :=
  PGs.imp (pgs_cons h1 h2 hs) fun vs σ H Q ⟨F, P, ι, M, σd, ds, σd', M', n, r, e, q⟩ => by
    unfold gtCons at e
    split at e
    · rename_i d ds
      simp only [RepL] at r
      obtain ⟨v, vr, rfl, r1, r2⟩ := r
      simp only [Option.bind_eq_some_iff] at e
      obtain ⟨⟨σ1, M1⟩, e1, e2⟩ := e
      refine ⟨v, vr, rfl, F, P, ι, M, σd, d, σ1, M1, n, r1, e1, fun σ' H' F' ι' x n' a' => ?_⟩
      exact ⟨F', P, ι', M1, σ1, ds, σd', M', n', RepL.ext x _ _ r2, e2, fun σ2 H2 F2 ι2 x2 n2 a2 => q σ2 H2 F2 ι2 (x.trans x2) n2 (a'.trans a2)⟩
    · cases e
def gtTup (k : Nat) (gs : DGs) : DGt := fun d σ M => match d with
  | .tup ds => if ds.length = k then gs ds σ M else none
  | _ => none
theorem dg_tup (g : Ok X Γ) (hc : X.calm = true) {es : List Expr} {ts : List Nat} {k j : Nat} {gs : DGs} (h : DGsP X Γ ts es gs) (hn : (assignEach es X.env).length = k) (hst : (assignEach es X.env).findIdx? (·.1) = none) : DG X Γ ts (.Tuple es j pos) (gtTup k gs) :=
  PG.imp (pg_tup hc h hn hst) fun v σ H Q ⟨F, P, ι, M, σd, d, σd', M', n, r, e, q⟩ => by
    unfold gtTup at e
    split at e
    · split at e
      · rename_i ds hl
        simp only [Rep] at r
        obtain ⟨a, xs, rfl, ha, ra⟩ := r
        exact ⟨a, xs, rfl, by rw [g.k]; exact SqT.fr n.st.fr ha, by rw [ra.length]; exact hl, F, P, ι, M, σd, ds, σd', M', n, ra, e, q⟩
      · cases e
    · cases e
def sAsg (m : DM) (g : DGt) : DSt := fun σ M => (m σ M).out σ fun d M1 => match g d σ M1 with
  | some p => .nx p.1 p.2
  | none => .stuck
theorem ds_asg {tg e : Expr} {ts : List Nat} {m : DM} {g : DGt} (he : DE X Γ W e m) (hg : DG X Γ ts tg g) (hs : swapsWithSole [tg] e pos.line X.env = pure false) (hw : swappedStores [tg] e X.env = pure none) (h1 : (assignEach [tg] X.env).map (·.2) = [assign tg X.env]) :
    DS X Γ W (.Assign [tg] e pos) (sAsg m g) :=
  PS.imp (ps_asg he hg hs hw h1) fun D σ H ⟨F, P, ι, M, σd, n, p⟩ => ⟨F, P, ι, M, σd, n, PostS.begin n.sl p fun d M' v H' F' ι' _ x n' r p' => by
    split at p'
    · rename_i q e
      exact ⟨F', P, ι', M', σd, d, q.1, q.2, n', r, e, fun σ2 H2 F2 ι2 x2 n2 _ => p' σ2 H2 F2 ι2 x2 n2⟩
    · exact p'.elim⟩
/-- a, b = x, y at local names -/
def sPar (i j : Nat) (r : DA) : DSt := fun σ M => (r σ M).out σ fun ds M1 => match ds with
  | [d, e] => .nx ((σ.set i (some d)).set j (some e)) M1
  | _ => .stuck
theorem ds_par (g : Ok X Γ) (hc : X.calm = true) {i j : Nat} {x y : Str} {a b : Expr} {r : DA} {px py pt : Pos} {kt k2 : Nat} {pt2 : Pos} (hN : X.N.Nodup) (hi : X.N[i]? = some x) (hj : X.N[j]? = some y) (hij : i ≠ j)
    (hx : X.env.scope.names.lookup x = some .local) (hy : X.env.scope.names.lookup y = some .local) (ha : DAs X Γ W [a, b] r)
    (hw : swappedStores [.Tuple [.Name x px, .Name y py] kt pt] (.Tuple [a, b] k2 pt2) X.env = pure (some [x, y]))
    (hs : swapsWithSole [.Tuple [.Name x px, .Name y py] kt pt] (.Tuple [a, b] k2 pt2) pos.line X.env = pure false) :
    DS X Γ W (.Assign [.Tuple [.Name x px, .Name y py] kt pt] (.Tuple [a, b] k2 pt2) pos) (sPar i j r) :=
  PS.imp (ps_par hc hN hi hj hij hx hy ha hw hs) fun D σ H ⟨F, P, ι, M, σd, n, p⟩ => ⟨F, P, ι, M, σd, n, PostS.begin n.sl p fun ds M' vs H' F' ι' _ x n' r p' => by
    split at p'
    · simp only [RepL] at r
      obtain ⟨v, _, rfl, r1, w, _, rfl, r2, rfl⟩ := r
      exact ⟨v, w, rfl, p' _ H' F' ι' Ext.refl ((n'.set r1 i).set r2 j)⟩
    · exact p'.elim⟩

/-! ### what is walked -/
structure Its where
  items : List D
  ok : Mem → Prop
abbrev DIt := Slots → Mem → Res Its
def ItOk (Γ : Gam) (F : Hp) (ι : List Addr) (its : Its) (J : It) : Prop :=
  ∃ (G : Hp → Prop) (Y : Nat → Hp → V → Hp → Prop), Walk J its.items.length G Y ∧
    (∀ F2 P2 ι2 M2 H2, Ext F ι F2 ι2 → St Γ F2 P2 ι2 M2 H2 → its.ok M2 → G H2) ∧
    ∀ i x H1 H2 F2 P2 ι2 M2, i < its.items.length → Y i H1 x H2 → Ext F ι F2 ι2 → St Γ F2 P2 ι2 M2 H1 → its.ok M2 → ∃ F3 d, its.items[i]? = some d ∧ Ext F2 ι2 F3 ι2 ∧ St Γ F3 P2 ι2 M2 H2 ∧ Rep Γ F3 ι2 d x
def liftI (Γ : Gam) (W : WX) (m : DIt) : TI := fun σ H R => ∃ F P ι M σd, Now Γ P σd M σ H F ι ∧ Post Γ W P F ι σ (ItOk Γ) (m σd M) R
def DI (X : Cx) (Γ : Gam) (W : WX) (tg iter : Expr) (m : DIt) : Prop := PI X tg iter (liftI Γ W m)
theorem PI.imp {tg iter : Expr} {t t' : TI} (h : PI X tg iter t) (q : ∀ σ H R, t' σ H R → t σ H R) : PI X tg iter t' := ⟨fun pins s σ H R I z => h.run pins s σ H R I (q σ H R z)⟩
section
variable {tg l : Expr} {m : DM}
/-- a list, changing or not; a tuple -/
def iSeq (m : DM) : DIt := fun σ M => (m σ M).bind fun d M1 => match asSeq M1 d with
  | some ds => .ok ⟨ds, fun M2 => asSeq M2 d = some ds⟩ M1
  | none => .stuck
def YL (K : PySem.W.Frag) (a : Addr) : Nat → Hp → V → Hp → Prop := fun i H x H' => H' = H ∧ ∀ xs, SqL K H a xs → xs[i]? = some x
def YT (K : PySem.W.Frag) (a : Addr) : Nat → Hp → V → Hp → Prop := fun i H x H' => H' = H ∧ ∀ xs, SqT K H a xs → xs[i]? = some x
theorem walkL (K : PySem.W.Frag) (a : Addr) (n : Nat) : Walk (Itl K a) n (fun H => ∃ xs, SqL K H a xs ∧ xs.length = n) (YL K a) :=
  ⟨fun i H hi ⟨xs, h, e⟩ => ⟨xs, xs[i]'(by omega), h, by simp [e, hi]⟩, fun H ⟨xs, h, e⟩ => ⟨xs, h, by omega⟩, fun _ _ _ _ _ _ y => y⟩
theorem walkT (K : PySem.W.Frag) (a : Addr) (n : Nat) : Walk (Itt K a) n (fun H => ∃ xs, SqT K H a xs ∧ xs.length = n) (YT K a) :=
  ⟨fun i H hi ⟨xs, h, e⟩ => ⟨xs, xs[i]'(by omega), h, by simp [e, hi]⟩, fun H ⟨xs, h, e⟩ => ⟨xs, h, by omega⟩, fun _ _ _ _ _ _ y => y⟩
theorem di_lst (g : Ok X Γ) (h : DE X Γ W l m) : DI X Γ W tg l (fun σ M => (m σ M).bind fun d M1 => match asLst M1 d with
  | some ds => .ok ⟨ds, fun M2 => asLst M2 d = some ds⟩ M1
  | none => .stuck) :=
  PI.imp (pi_list h) fun σ H R ⟨F, P, ι, M, σd, n, p⟩ => ⟨F, P, ι, M, σd, n, Post.seq p fun d M1 v H1 F1 ι1 er x1 s1 r1 p1 => by
    split at p1
    · rename_i ds hd
      obtain ⟨a, xs, rfl, ha, ra⟩ := asLst_at s1 r1 hd
      refine ⟨a, rfl, ⟨xs, SqL.of ha⟩, p1.here s1 ⟨_, _, walkL X.K a ds.length, fun F2 P2 ι2 M2 H2 x2 s2 hk => ?_, fun i x H2 H3 F2 P2 ι2 M2 hi y x2 s2 hk => ?_⟩⟩
      · obtain ⟨b, ys, e, hb, rb⟩ := asLst_at s2 (Rep.ext x2 _ _ r1) hk
        cases e
        exact ⟨ys, SqL.of hb, rb.length⟩
      · obtain ⟨b, ys, e, hb, rb⟩ := asLst_at s2 (Rep.ext x2 _ _ r1) hk
        cases e
        obtain ⟨rfl, y⟩ := y
        obtain ⟨d', e1, rd⟩ := RepL.get' rb (y _ (SqL.of hb))
        exact ⟨F2, d', e1, Ext.refl, s2, rd⟩
    · exact p1.elim⟩
theorem di_tup (g : Ok X Γ) (h : DE X Γ W l m) : DI X Γ W tg l (fun σ M => (m σ M).bind fun d M1 => match d with
  | .tup ds => .ok ⟨ds, fun _ => True⟩ M1
  | _ => .stuck) :=
  PI.imp (pi_tup h) fun σ H R ⟨F, P, ι, M, σd, n, p⟩ => ⟨F, P, ι, M, σd, n, Post.seq p fun d M1 v H1 F1 ι1 er x1 s1 r1 p1 => by
    split at p1
    · rename_i ds
      have r1' := r1
      simp only [Rep] at r1
      obtain ⟨a, xs, rfl, ha, ra⟩ := r1
      have hK : ∀ {F2 : Hp} {ι2 : List Addr} {P2 : Hp} {M2 : Mem} {H2 : Hp}, Ext F1 ι1 F2 ι2 → St Γ F2 P2 ι2 M2 H2 → SqT X.K H2 a xs := fun x2 s2 => by
        rw [g.k]
        exact SqT.fr s2.fr (SqT.ext x2.f ha)
      refine ⟨a, rfl, ⟨xs, hK Ext.refl s1⟩, p1.here s1 ⟨_, _, walkT X.K a ds.length, fun F2 P2 ι2 M2 H2 x2 s2 hk => ⟨xs, hK x2 s2, ra.length⟩, fun i x H2 H3 F2 P2 ι2 M2 hi y x2 s2 hk => ?_⟩⟩
      obtain ⟨rfl, y⟩ := y
      obtain ⟨d', e1, rd⟩ := RepL.get' ra (y _ (hK x2 s2))
      exact ⟨F2, d', e1, Ext.refl, s2, Rep.ext x2 _ _ rd⟩
    · exact p1.elim⟩
def intsFrom (lo : Int) : Nat → List D
  | 0 => []
  | n + 1 => .int lo :: intsFrom (lo + 1) n
theorem intsFrom_len (lo : Int) (n : Nat) : (intsFrom lo n).length = n := by
  induction n generalizing lo with
  | zero => rfl
  | succ n ih => simp [intsFrom, ih]
theorem intsFrom_at (lo : Int) (n i : Nat) (h : i < n) : (intsFrom lo n)[i]? = some (.int (lo + i)) := by
  induction n generalizing lo i with
  | zero => omega
  | succ n ih =>
    cases i with
    | zero => simp [intsFrom]
    | succ i =>
      simp only [intsFrom, List.getElem?_cons_succ]
      rw [ih (lo + 1) i (by omega)]
      congr 2
      omega
theorem it_range {F : Hp} {ι : List Addr} {lo : Int} {n : Nat} : ItOk Γ F ι ⟨intsFrom lo n, fun _ => True⟩ (Itr lo n) := by
  refine ⟨fun _ => True, YFn fun i => .int (lo + i), ?_, fun _ _ _ _ _ _ _ _ => trivial, fun i x H2 H3 F2 P2 ι2 M2 hi y x2 s2 hk => ?_⟩
  · have w := walk_range (lo := lo) (n := n)
    show Walk _ (intsFrom lo n).length _ _
    rw [intsFrom_len]
    exact w
  · obtain ⟨rfl, rfl⟩ := y
    simp only [intsFrom_len] at hi
    exact ⟨F2, _, intsFrom_at lo n i hi, Ext.refl, s2, by simp only [Rep]⟩
def iRange1 (r : DA) : DIt := fun σ M => (r σ M).bind fun ds M1 => match ds with
  | [.int j] => if -(2 ^ 62) ≤ j ∧ j < 2 ^ 62 then .ok ⟨intsFrom 0 j.toNat, fun _ => True⟩ M1 else .stuck
  | _ => .stuck
theorem di_range1 {a : Expr} {r : DA} {p : Pos} (hg : Gl X "range") (hm : X.mg "range" = none) (ha : DAs X Γ W [a] r) (hs : starEach [a] X.env = [(false, eval a X.env)]) : DI X Γ W tg (.Call (.Name "range" p) [a] [] pos) (iRange1 r) :=
  PI.imp (pi_range1 hg hm ha hs) fun σ H R ⟨F, P, ι, M, σd, n, p⟩ => ⟨F, P, ι, M, σd, n, Post.seq p fun ds M1 vs H1 F1 ι1 er x1 s1 r1 p1 => by
    split at p1
    · rename_i j
      split at p1
      · rename_i hj
        simp only [RepL, Rep] at r1
        obtain ⟨v, _, rfl, rfl, rfl⟩ := r1
        exact ⟨j, rfl, hj.1, hj.2, p1.here s1 it_range⟩
      · exact p1.elim
    · exact p1.elim⟩
def iRange2 (r : DA) : DIt := fun σ M => (r σ M).bind fun ds M1 => match ds with
  | [.int i, .int j] => if -(2 ^ 62) ≤ i ∧ i < 2 ^ 62 ∧ -(2 ^ 62) ≤ j ∧ j < 2 ^ 62 then .ok ⟨intsFrom i (j - i).toNat, fun _ => True⟩ M1 else .stuck
  | _ => .stuck
theorem di_range2 {a b : Expr} {r : DA} {p : Pos} (hg : Gl X "range") (hm : X.mg "range" = none) (ha : DAs X Γ W [a, b] r) (hs : starEach [a, b] X.env = [(false, eval a X.env), (false, eval b X.env)]) (hs2 : starEach [b] X.env = [(false, eval b X.env)]) : DI X Γ W tg (.Call (.Name "range" p) [a, b] [] pos) (iRange2 r) :=
  PI.imp (pi_range2 hg hm ha hs hs2) fun σ H R ⟨F, P, ι, M, σd, n, p⟩ => ⟨F, P, ι, M, σd, n, Post.seq p fun ds M1 vs H1 F1 ι1 er x1 s1 r1 p1 => by
    split at p1
    · rename_i i j
      split at p1
      · rename_i hj
        simp only [RepL, Rep] at r1
        obtain ⟨v, _, rfl, rfl, w, _, rfl, rfl, rfl⟩ := r1
        exact ⟨i, j, rfl, hj, p1.here s1 it_range⟩
      · exact p1.elim
    · exact p1.elim⟩
/-- a text, sign by sign -/
def iStr (m : DM) : DIt := fun σ M => (m σ M).bind fun d M1 => match d with
  | .str l => .ok ⟨l.map fun c => .str [c], fun _ => True⟩ M1
  | _ => .stuck
theorem di_str (h : DE X Γ W l m) : DI X Γ W tg l (iStr m) :=
  PI.imp (pi_str h) fun σ H R ⟨F, P, ι, M, σd, n, p⟩ => ⟨F, P, ι, M, σd, n, Post.seq p fun d M1 v H1 F1 ι1 er x1 s1 r1 p1 => by
    split at p1
    · rename_i z
      simp only [Rep] at r1
      subst r1
      refine ⟨txt z, rfl, p1.here s1 ⟨fun _ => True, fun i H v H' => H' = H ∧ ∃ c, (txt z).cps[i]? = some c ∧ v = .str ⟨#[c]⟩, ?_, fun _ _ _ _ _ _ _ _ => trivial, fun i x H2 H3 F2 P2 ι2 M2 hi y x2 s2 hk => ?_⟩⟩
      · have w := walk_str (z := txt z)
        show Walk _ (z.map fun c => D.str [c]).length _ _
        rw [List.length_map]
        have e : (txt z).cps.size = z.length := List.size_toArray ..
        rw [e] at w
        exact w
      · obtain ⟨rfl, c, e, rfl⟩ := y
        have e' : z[i]? = some c := by simpa [txt] using e
        exact ⟨F2, .str [c], by simp [e'], Ext.refl, s2, by simp only [Rep]⟩
    · exact p1.elim⟩
end

/-! ### for -/
open Classical in
/-- the turns -/
noncomputable def runFor (g : DGt) (b : DSt) (ok : Mem → Prop) : List D → Slots → Mem → Out
  | [], σ, M => if ok M then .nx σ M else .stuck
  | d :: ds, σ, M => if ok M then match g d σ M with
    | some p => match b p.1 p.2 with
      | .nx σ2 M2 => runFor g b ok ds σ2 M2
      | .ct σ2 M2 => runFor g b ok ds σ2 M2
      | .bk σ2 M2 => .nx σ2 M2
      | r => r
    | none => .stuck
    else .stuck
noncomputable def sFor (m : DIt) (g : DGt) (b : DSt) : DSt := fun σ M => (m σ M).out σ fun its M1 => runFor g b its.ok its.items σ M1
theorem ds_for (g : Ok X Γ) (hc : X.calm = true) {tg iter : Expr} {ts : List Nat} {body : List Stmt} {m : DIt} {gt : DGt} {b : DSt} (hp : PassesOwn (model X.prog X.w) X.A X.env X.xe) (hi : DI X Γ W tg iter m) (hg : DG X Γ ts tg gt) (hb : DSs X Γ W body b)
    (hs : ∀ x, foldedSetIterable iter X.env x = pure x) : DS X Γ W (.For tg iter body [] pos) (sFor m gt b) :=
  PS.imp (ps_for hp hc hi hg hb hs) fun D σ H ⟨F, P, ι, M, σd, n, p⟩ => ⟨F, P, ι, M, σd, n, PostS.begin n.sl p fun its M1 J H1 F1 ι1 _ x1 n1 it p1 => by
    obtain ⟨G, Y, w, hG, hY⟩ := it
    refine for_it w (fun i σ H => ∃ F2 ι2 σd2 M2, Ext F1 ι1 F2 ι2 ∧ Now Γ P σd2 M2 σ H F2 ι2 ∧ PostS Γ W P F2 ι2 (runFor gt b its.ok (its.items.drop i) σd2 M2) D) ⟨F1, ι1, σd, M1, Ext.refl, n1, p1⟩ ?_ ?_ ?_
    · rintro i σ H hi ⟨F2, ι2, σd2, M2, x2, n2, p2⟩
      refine hG F2 P ι2 M2 H x2 n2.st ?_
      cases e : its.items.drop i with
      | nil =>
        rw [e] at p2
        unfold runFor at p2
        split at p2
        · assumption
        · exact p2.elim
      | cons d ds =>
        rw [e] at p2
        unfold runFor at p2
        split at p2
        · assumption
        · exact p2.elim
    · rintro i x σ H H' hi ⟨F2, ι2, σd2, M2, x2, n2, p2⟩ y
      have ed : its.items.drop i = its.items[i] :: its.items.drop (i + 1) := List.drop_eq_getElem_cons hi
      rw [ed] at p2
      unfold runFor at p2
      split at p2
      · rename_i hok
        obtain ⟨F3, d, e1, x3, s3, r3⟩ := hY i x H H' F2 P ι2 M2 hi y x2 n2.st hok
        rw [List.getElem?_eq_getElem hi] at e1
        cases e1
        split at p2
        · rename_i q eq
          refine ⟨F3, P, ι2, M2, σd2, _, q.1, q.2, ⟨s3, n2.sl.ext x3⟩, r3, eq, fun σ4 H4 F4 ι4 x4 n4 _ => ?_⟩
          refine ⟨F4, P, ι4, q.2, q.1, n4, ?_⟩
          have x14 := x2.trans (x3.trans x4)
          have p2 := PostS.ext (x3.trans x4) p2
          cases eb : b q.1 q.2 with
          | nx σ5 M5 =>
            rw [eb] at p2
            exact fun σ6 H6 F6 ι6 x6 n6 => ⟨F6, ι6, σ5, M5, x14.trans x6, n6, PostS.ext x6 p2⟩
          | ct σ5 M5 =>
            rw [eb] at p2
            exact fun σ6 H6 F6 ι6 x6 n6 => ⟨F6, ι6, σ5, M5, x14.trans x6, n6, PostS.ext x6 p2⟩
          | bk σ5 M5 => rw [eb] at p2; exact p2
          | rt d M5 => rw [eb] at p2; exact p2
          | exc c fs σ5 M5 => rw [eb] at p2; exact p2
          | stuck => rw [eb] at p2; exact p2
        · exact p2.elim
      · exact p2.elim
    · rintro σ H ⟨F2, ι2, σd2, M2, x2, n2, p2⟩
      rw [List.drop_length] at p2
      unfold runFor at p2
      split at p2
      · exact p2 σ H F2 ι2 Ext.refl n2
      · exact p2.elim⟩

/-! ### while -/
def runWhile (c : DT) (b : DSt) : Nat → Slots → Mem → Out
  | 0, _, _ => .stuck
  | k + 1, σ, M => match c σ M with
    | .ok true M1 => match b σ M1 with
      | .nx σ2 M2 => runWhile c b k σ2 M2
      | .ct σ2 M2 => runWhile c b k σ2 M2
      | .bk σ2 M2 => .nx σ2 M2
      | r => r
    | .ok false M1 => .nx σ M1
    | .exc e fs M1 => .exc e fs σ M1
    | .stuck => .stuck
theorem ds_while {c : Expr} {body : List Stmt} {mc : DT} {b : DSt} (k : Nat) (hp : PassesOwn (model X.prog X.w) X.A X.env X.xe) (hc : DTe X Γ W c mc) (hb : DSs X Γ W body b) : DS X Γ W (.While c body [] pos) (runWhile mc b k) :=
  PS.imp (ps_while hp hc hb) fun D σ H ⟨F, P, ι, M, σd, n, p⟩ => by
    refine ⟨fun k σ H => ∃ F2 ι2 σd2 M2, Now Γ P σd2 M2 σ H F2 ι2 ∧ PostS Γ W P F2 ι2 (runWhile mc b k σd2 M2) D, ⟨k, F, ι, σd, M, n, p⟩, ?_⟩
    rintro k σ H ⟨F2, ι2, σd2, M2, n2, p2⟩
    cases k with
    | zero => exact p2.elim
    | succ k =>
      unfold runWhile at p2
      refine ⟨F2, P, ι2, M2, σd2, n2, ?_⟩
      cases ec : mc σd2 M2 with
      | ok t M3 =>
        rw [ec] at p2
        intro v H3 F3 ι3 x3 s3 ev
        have ev : t = v := ev
        subst ev
        have n3 : Now Γ P σd2 M3 σ H3 F3 ι3 := ⟨s3, n2.sl.ext x3⟩
        have p2 := PostS.ext x3 p2
        cases t with
        | false => exact iteF (p2 σ H3 F3 ι3 Ext.refl n3)
        | true =>
          refine iteT ⟨fun σ' H' => ∃ F4 ι4 σd4 M4, Now Γ P σd4 M4 σ' H' F4 ι4 ∧ PostS Γ W P F4 ι4 (runWhile mc b k σd4 M4) D, fun σ' H' h => ⟨k, Nat.lt_succ_self k, h⟩, F3, P, ι3, M3, σd2, n3, ?_⟩
          cases eb : b σd2 M3 with
          | nx σ5 M5 =>
            simp only [eb] at p2
            exact fun σ6 H6 F6 ι6 x6 n6 => ⟨F6, ι6, σ5, M5, n6, PostS.ext x6 p2⟩
          | ct σ5 M5 =>
            simp only [eb] at p2
            exact fun σ6 H6 F6 ι6 x6 n6 => ⟨F6, ι6, σ5, M5, n6, PostS.ext x6 p2⟩
          | bk σ5 M5 => simp only [eb] at p2; exact p2
          | rt d M5 => simp only [eb] at p2; exact p2
          | exc c fs σ5 M5 => simp only [eb] at p2; exact p2
          | stuck => simp only [eb] at p2; exact p2
      | exc c fs M3 =>
        rw [ec] at p2
        exact fun cls od H3 F3 ι3 x3 s3 r3 => p2 cls od σ H3 F3 ι3 x3 ⟨s3, n2.sl.ext x3⟩ r3
      | stuck => rw [ec] at p2; exact p2
end
end MT

set_option maxRecDepth 100000
/-! MtSub: subscripts, slices, calls of built-ins, methods of built-in types. -/
namespace MT
open PySem PySem.Spec PyProof.Rows L2
section
variable {X : Cx} {Γ : Gam} {W : WX} {pos : Pos}

/-! ### xs[i] -/
theorem atI_rep {F : Hp} {ι : List Addr} {ds : List D} {xs : List V} {i : Int} {d : D} (r : RepL Γ F ι ds xs) (e : atI ds i = some d) : ∃ v, atI xs i = some v ∧ Rep Γ F ι d v := by
  unfold atI at e ⊢
  rw [r.length]
  cases h : ixN ds.length i with
  | none => rw [h] at e; cases e
  | some j =>
    rw [h] at e
    exact r.get e
def gIx (M : Mem) (d e : D) : Option D := match d, e with
  | .str l, .int i => if l.length ≤ sizeLine then (atI l i).map fun c => .str [c] else none
  | .scr ns, .int i => (atI ns i).map .int
  | d, .int i => (asSeq M d).bind fun ds => atI ds i
  | d, .str l => (asDic M d).bind fun p => lookD (.inr (txt l)) p.1 p.2
  | _, _ => none
theorem atI_map {α β : Type} (f : α → β) (xs : List α) (i : Int) : atI (xs.map f) i = (atI xs i).map f := by
  unfold atI
  rw [List.length_map]
  cases ixN xs.length i with
  | none => rfl
  | some j => simp
theorem ix_D (g : Ok X Γ) : IxR X (rD2 Γ gIx) := by
  intro value slice pins s σ H x y v u Q I rx ry h hs
  obtain ⟨F, P, ι, M, d, e, r, st, rd, re, eg, q⟩ := h
  unfold gIx at eg
  split at eg
  · rename_i l i
    refine ix_seq value slice pins s σ H x y v u Q I rx ry ?_ hs
    split at eg
    · rename_i hl
      simp only [Option.map_eq_some_iff] at eg
      obtain ⟨c, e1, rfl⟩ := eg
      simp only [Rep] at rd re
      exact .inr (.inr ⟨txt l, i, c, rd, re, by rw [tx_len]; exact hl, by simpa [txt] using e1, q _ _ F Ext.refl st (by simp only [Rep])⟩)
    · cases eg
  · rename_i ns i
    refine ix_seq value slice pins s σ H x y v u Q I rx ry ?_ hs
    simp only [Option.map_eq_some_iff] at eg
    obtain ⟨k, e1, rfl⟩ := eg
    simp only [Rep] at rd re
    obtain ⟨a, rfl, ha⟩ := rd
    exact .inl ⟨a, _, i, .int k, rfl, re, by rw [g.k]; exact SqL.ext st.fr ha, by rw [atI_map, e1]; rfl, q _ _ F Ext.refl st (by simp only [Rep])⟩
  · rename_i i _ _
    refine ix_seq value slice pins s σ H x y v u Q I rx ry ?_ hs
    simp only [Option.bind_eq_some_iff] at eg
    obtain ⟨ds, e1, e2⟩ := eg
    obtain ⟨a, xs, rfl, ha, ra⟩ := asSeq_at st rd e1
    obtain ⟨w, e3, rw'⟩ := atI_rep ra e2
    simp only [Rep] at re
    rcases ha with ha | ha
    · exact .inl ⟨a, xs, i, w, rfl, re, by rw [g.k]; exact ha, e3, q _ _ F Ext.refl st rw'⟩
    · exact .inr (.inl ⟨a, xs, i, w, rfl, re, by rw [g.k]; exact ha, e3, q _ _ F Ext.refl st rw'⟩)
  · rename_i l
    simp only [Option.bind_eq_some_iff] at eg
    obtain ⟨p, e1, e2⟩ := eg
    obtain ⟨a, kvs, rfl, ha, ek, ra⟩ := asDic_at st rd e1
    have hl := lookD_V (k := .inr (txt l)) ek ra
    rw [e2] at hl
    simp only [Rep] at re
    refine ix_dic (by have := g.u; omega) value slice pins s σ H _ y v u Q I rx ry ?_ hs
    cases h2 : valV kvs (.inr (txt l)) with
    | none => rw [h2] at hl; exact hl.elim
    | some w =>
      rw [h2] at hl
      exact ⟨a, txt l, w, kvs, rfl, re, by rw [g.k, g.w]; exact ha, h2, q _ _ F Ext.refl st hl⟩
  · cases eg
theorem de_ix (g : Ok X Γ) {a b : Expr} {ma mb : DM} (ha : DE X Γ W a ma) (hb : DE X Γ W b mb) (hs : PlainIx b) : DE X Γ W (.Subscript a b pos) (mOp gIx ma mb) :=
  PE.imp (pe_ix (ix_D g) ha hb hs) fun σ H Q ⟨F, P, ι, M, σd, n, p⟩ => two gIx n p

/-! ### slices -/
abbrev DO := Slots → Mem → Res (Option Int)
abbrev RepI : Hp → List Addr → Option Int → Option Int → Prop := fun _ _ a b => a = b
def liftO (Γ : Gam) (W : WX) (m : DO) : TO := fun σ H Q => ∃ F P ι M σd, Now Γ P σd M σ H F ι ∧ Post Γ W P F ι σ RepI (m σd M) Q
def DP (X : Cx) (Γ : Gam) (W : WX) (e : Option Expr) (m : DO) : Prop := PO X e (liftO Γ W m)
theorem PO.imp {e : Option Expr} {t t' : TO} (h : PO X e t) (q : ∀ σ H Q, t' σ H Q → t σ H Q) : PO X e t' := ⟨fun pins s σ H Q I z => h.run pins s σ H Q I (q σ H Q z)⟩
def oNone : DO := fun _ M => .ok none M
def oSome (m : DM) : DO := fun σ M => (m σ M).bind fun d M1 => match d with
  | .int i => .ok (some i) M1
  | _ => .stuck
theorem dp_none : DP X Γ W none oNone := PO.imp po_none fun σ H Q ⟨F, P, ι, M, σd, n, p⟩ => p.here n.st rfl
theorem dp_some {e : Expr} {m : DM} (h : DE X Γ W e m) : DP X Γ W (some e) (oSome m) :=
  PO.imp (po_some h) fun σ H Q ⟨F, P, ι, M, σd, n, p⟩ => ⟨F, P, ι, M, σd, n, Post.seq p fun d M1 v H1 F1 ι1 er x1 s1 r1 p1 => by
    cases d with
    | int i =>
      simp only [Rep] at r1
      exact ⟨i, r1, p1.here s1 rfl⟩
    | _ => exact p1.elim⟩
def cut {α : Type} (xs : List α) (lo hi : Option Int) : List α := (xs.drop (HT.sIx xs.length 0 lo)).take (HT.sIx xs.length xs.length hi - HT.sIx xs.length 0 lo)
theorem cut_rep {F : Hp} {ι : List Addr} {ds : List D} {xs : List V} (r : RepL Γ F ι ds xs) (lo hi : Option Int) : RepL Γ F ι (cut ds lo hi) (cutV xs lo hi) := by
  unfold cut cutV
  rw [r.length]
  exact (r.drop _).take _
def gSl (M : Mem) (d : D) (lo hi : Option Int) : Option D := match d with
  | .str l => if l.length ≤ sizeLine then some (.str (cut l lo hi)) else none
  | .tup ds => some (.tup (cut ds lo hi))
  | d => (asLst M d).map fun ds => .lst (cut ds lo hi)
def mSl (m : DM) (lo hi : DO) : DM := fun σ M => (m σ M).bind fun d M1 => (lo σ M1).bind fun a M2 => (hi σ M2).bind fun b M3 => ofOpt (gSl M3 d a b) M3
theorem cut_all {α : Type} {xs : List α} {lo hi : Option Int} (h : HT.sIx xs.length 0 lo = 0 ∧ HT.sIx xs.length xs.length hi = xs.length) : cut xs lo hi = xs := by
  unfold cut
  rw [h.1, h.2]
  simp
theorem de_sl (g : Ok X Γ) {e : Expr} {lo hi : Option Expr} {m : DM} {ml mh : DO} {p2 : Pos} (he : DE X Γ W e m) (hl : DP X Γ W lo ml) (hh : DP X Γ W hi mh) : DE X Γ W (.Subscript e (.Slice lo hi none p2) pos) (mSl m ml mh) :=
  PE.imp (pe_slice (sl_str.or (sl_tupA.or sl_list)) he hl hh) fun σ H Q ⟨F, P, ι, M, σd, n, p⟩ => ⟨F, P, ι, M, σd, n, Post.seq p fun d M1 v H1 F1 ι1 er x1 s1 r1 p1 => ⟨F1, P, ι1, M1, σd, ⟨s1, n.sl.ext x1⟩, Post.seq p1 fun a M2 a' H2 F2 ι2 er2 x2 s2 r2 p2 =>
    ⟨F2, P, ι2, M2, σd, ⟨s2, (n.sl.ext x1).ext x2⟩, Post.seq p2 fun b M3 b' H3 F3 ι3 er3 x3 s3 r3 p3 => by
      have r2 : a = a' := r2
      have r3 : b = b' := r3
      subst r2 r3
      have rd := Rep.ext (x2.trans x3) _ _ r1
      unfold ofOpt at p3
      split at p3
      · rename_i r eg
        have q : ∀ v H' F', Ext F3 ι3 F' ι3 → St Γ F' P ι3 M3 H' → Rep Γ F' ι3 r v → Q v H' := fun v H' F' x s r => p3 v H' F' ι3 x s r
        unfold gSl at eg
        split at eg
        · rename_i l
          split at eg
          · rename_i hl
            simp only [Option.some.injEq] at eg
            subst eg
            simp only [Rep] at rd
            refine .inl ⟨txt l, rd, by rw [tx_len]; exact hl, q _ _ F3 Ext.refl s3 ?_⟩
            simp only [Rep]
            unfold cutS cut
            rw [tx_len]
          · cases eg
        · rename_i ds
          simp only [Option.some.injEq] at eg
          subst eg
          have rd' := rd
          simp only [Rep] at rd
          obtain ⟨p, xs, rfl, hp, rp⟩ := rd
          refine .inr (.inl ⟨p, xs, rfl, by rw [g.k]; exact SqT.fr s3.fr hp, fun h => ?_, fun _ => new_tup s3 (cut_rep rp a b) q⟩)
          rw [rp.length] at h
          rw [cut_all h] at q
          exact q _ _ F3 Ext.refl s3 rd'
        · simp only [Option.map_eq_some_iff] at eg
          obtain ⟨ds, e1, rfl⟩ := eg
          obtain ⟨p, xs, rfl, hp, rp⟩ := asLst_at s3 rd e1
          exact .inr (.inr ⟨p, xs, rfl, SqL.of hp, new_lst s3 (cut_rep rp a b) q⟩)
      · exact p3.elim⟩⟩⟩

/-! ### calls of built-ins -/
def rDn (Γ : Gam) (g : Mem → List D → Option D) : List V → Hp → VK → Prop := fun xs H Q => ∃ F P ι M ds r, St Γ F P ι M H ∧ RepL Γ F ι ds xs ∧ g M ds = some r ∧
  ∀ v H' F', Ext F ι F' ι → St Γ F' P ι M H' → Rep Γ F' ι r v → Q v H'
theorem CallR.imp {f : Value} {r r' : List V → Hp → VK → Prop} (h : CallR X f r) (q : ∀ xs H Q, r' xs H Q → r xs H Q) : CallR X f r' := fun pins s σ H xs us Q I rx z => h pins s σ H xs us Q I rx (q xs H Q z)
theorem CallR.or {f : Value} {r r' : List V → Hp → VK → Prop} (h : CallR X f r) (h' : CallR X f r') : CallR X f (fun xs H Q => r xs H Q ∨ r' xs H Q) := fun pins s σ H xs us Q I rx z => by
  rcases z with z | z
  · exact h pins s σ H xs us Q I rx z
  · exact h' pins s σ H xs us Q I rx z
def mB (g : Mem → List D → Option D) (a : DA) : DM := fun σ M => (a σ M).bind fun ds M1 => ofOpt (g M1 ds) M1
section
variable {x : Str} {p : Pos} {e : Expr} {es : List Expr} {a : DA} {g : Mem → List D → Option D} {id T : String}
theorem many {σ : L2.St} {H : Hp} {Q : VK} {F P : Hp} {ι : List Addr} {M : Mem} {σd : Slots} (n : Now Γ P σd M σ H F ι) (p : Post Γ W P F ι σ (Rep Γ) (mB g a σd M) Q) : tCB (rDn Γ g) (liftA Γ W a) σ H Q :=
  ⟨F, P, ι, M, σd, n, Post.seq p fun ds M1 vs H1 F1 ι1 er x1 s1 r1 p1 => by
    unfold ofOpt at p1
    split at p1
    · rename_i r eg
      exact ⟨F1, P, ι1, M1, ds, r, s1, r1, eg, fun v H' F' x s r => p1 v H' F' ι1 x s r⟩
    · exact p1.elim⟩
theorem de_B (hc : CallR X (.builtin id) (rDn Γ g)) (hg : Gl X x) (hm : X.mg x = none) (hv : bootBuiltins x = some (.builtin id)) (ha : DAs X Γ W (e :: es) a) (hn : x ≠ "__name__") (hdb : (x == ("__debug__" : Str)) = false)
    (he : starEach (e :: es) X.env = (false, eval e X.env) :: starEach es X.env) (hpl : (backTo pos (starEach es X.env)).any (·.1) = false) : DE X Γ W (.Call (.Name x p) (e :: es) [] pos) (mB g a) :=
  PE.imp (pe_callB hc hg hm hv ha hn hdb he hpl) fun σ H Q ⟨F, P, ι, M, σd, n, p⟩ => many n p
theorem de_T (hc : CallR X (.type T) (rDn Γ g)) (hg : Gl X x) (hm : X.mg x = none) (hv : bootBuiltins x = some (.type T)) (ha : DAs X Γ W (e :: es) a) (hn : x ≠ "__name__") (hdb : (x == ("__debug__" : Str)) = false)
    (he : starEach (e :: es) X.env = (false, eval e X.env) :: starEach es X.env) (hpl : (backTo pos (starEach es X.env)).any (·.1) = false) : DE X Γ W (.Call (.Name x p) (e :: es) [] pos) (mB g a) :=
  PE.imp (pe_callTy hc hg hm hv ha hn hdb he hpl) fun σ H Q ⟨F, P, ι, M, σd, n, p⟩ => many n p
end
/-- len -/
def gLen (M : Mem) : List D → Option D
  | [.str l] => if l.length ≤ sizeLine then some (.int l.length) else none
  | [.scr ns] => some (.int ns.length)
  | [.dic ks _] => none
  | [d] => (asSeq M d).map fun ds => .int ds.length
  | _ => none
theorem cal_len (g : Ok X Γ) : CallR X (.builtin "len") (rDn Γ gLen) :=
  CallR.imp call_len fun xs H Q ⟨F, P, ι, M, ds, r, s, rd, eg, q⟩ => by
    unfold gLen at eg
    split at eg
    · rename_i l
      split at eg
      · rename_i hl
        simp only [Option.some.injEq] at eg
        subst eg
        simp only [RepL, Rep] at rd
        obtain ⟨v, _, rfl, rfl, rfl⟩ := rd
        exact ⟨_, _, rfl, ⟨by rw [tx_len]; exact hl, rfl⟩, q _ _ F Ext.refl s (by simp only [Rep, tx_len])⟩
      · cases eg
    · rename_i ns
      simp only [Option.some.injEq] at eg
      subst eg
      simp only [RepL, Rep] at rd
      obtain ⟨v, _, rfl, ⟨a, rfl, ha⟩, rfl⟩ := rd
      exact ⟨_, _, rfl, .inl ⟨_, by rw [g.k]; exact SqL.ext s.fr ha, rfl⟩, q _ _ F Ext.refl s (by simp only [Rep, List.length_map])⟩
    · cases eg
    · simp only [Option.map_eq_some_iff] at eg
      obtain ⟨ds, e1, rfl⟩ := eg
      simp only [RepL] at rd
      obtain ⟨v, _, rfl, r1, rfl⟩ := rd
      obtain ⟨a, xs, rfl, ha, ra⟩ := asSeq_at s r1 e1
      refine ⟨_, xs.length, rfl, ?_, q _ _ F Ext.refl s (by simp only [Rep, ← ra.length])⟩
      rcases ha with ha | ha
      · exact .inl ⟨xs, by rw [g.k]; exact ha, rfl⟩
      · exact .inr ⟨xs, by rw [g.k]; exact ha, rfl⟩
    · cases eg
/-- int of an int, of a bool, of a text -/
def gInt (_ : Mem) : List D → Option D
  | [.int i] => some (.int i)
  | [.bl b] => some (.int (if b then 1 else 0))
  | [.str l] => if l.length ≤ 640 then (PySem.intText? (txt l)).map .int else none
  | _ => none
theorem cal_int : CallR X (.type "int") (rDn Γ gInt) :=
  CallR.imp (call_int1.or call_int_str) fun xs H Q ⟨F, P, ι, M, ds, r, s, rd, eg, q⟩ => by
    unfold gInt at eg
    split at eg
    · rename_i i
      simp only [Option.some.injEq] at eg
      subst eg
      simp only [RepL, Rep] at rd
      obtain ⟨v, _, rfl, rfl, rfl⟩ := rd
      exact .inl (.inl ⟨i, rfl, q _ _ F Ext.refl s (by simp only [Rep])⟩)
    · rename_i b
      simp only [Option.some.injEq] at eg
      subst eg
      simp only [RepL, Rep] at rd
      obtain ⟨v, _, rfl, rfl, rfl⟩ := rd
      exact .inl (.inr ⟨b, rfl, q _ _ F Ext.refl s (by simp only [Rep])⟩)
    · rename_i l
      split at eg
      · rename_i hl
        simp only [Option.map_eq_some_iff] at eg
        obtain ⟨n, e1, rfl⟩ := eg
        simp only [RepL, Rep] at rd
        obtain ⟨v, _, rfl, rfl, rfl⟩ := rd
        exact .inr ⟨_, n, rfl, e1, by rw [tx_len]; exact hl, q _ _ F Ext.refl s (by simp only [Rep])⟩
      · cases eg
    · cases eg
/-- str of an int -/
def digits (i : Int) : List Nat := (Str.ofString (toString i)).cps.toList
def gStr (_ : Mem) : List D → Option D
  | [.int i] => if i.natAbs.log2 < 1920 then some (.str (digits i)) else none
  | _ => none
theorem cal_str : CallR X (.type "str") (rDn Γ gStr) :=
  CallR.imp call_str_int fun xs H Q ⟨F, P, ι, M, ds, r, s, rd, eg, q⟩ => by
    unfold gStr at eg
    split at eg
    · rename_i i
      split at eg
      · rename_i hl
        simp only [Option.some.injEq] at eg
        subst eg
        simp only [RepL, Rep] at rd
        obtain ⟨v, _, rfl, rfl, rfl⟩ := rd
        exact ⟨i, rfl, hl, q _ _ F Ext.refl s (by simp only [Rep, digits, txt])⟩
      · cases eg
    · cases eg
/-- all of a list of bools -/
def asBl : List D → Option (List Bool)
  | [] => some []
  | .bl b :: r => (asBl r).map (b :: ·)
  | _ => none
theorem asBl_rep {F : Hp} {ι : List Addr} : ∀ {ds : List D} {bs : List Bool} {xs : List V}, asBl ds = some bs → RepL Γ F ι ds xs → xs = bs.map V.bl
  | [], _, _, e, r => by simp only [asBl, Option.some.injEq] at e; simp only [RepL] at r; subst e r; rfl
  | d :: ds, _, _, e, r => by
    cases d with
    | bl b =>
      simp only [asBl, Option.map_eq_some_iff] at e
      obtain ⟨bs, e1, rfl⟩ := e
      simp only [RepL, Rep] at r
      obtain ⟨x, xs, rfl, rfl, r2⟩ := r
      rw [asBl_rep e1 r2]
      rfl
    | _ => simp [asBl] at e
def gAll (M : Mem) : List D → Option D
  | [d] => (asLst M d).bind fun ds => (asBl ds).map fun bs => .bl (bs.all id)
  | _ => none
theorem cal_all (g : Ok X Γ) (hc : X.calm = true) : CallR X (.builtin "all") (rDn Γ gAll) :=
  CallR.imp (cr_all hc) fun xs H Q ⟨F, P, ι, M, ds, r, s, rd, eg, q⟩ => by
    unfold gAll at eg
    split at eg
    · simp only [Option.bind_eq_some_iff, Option.map_eq_some_iff] at eg
      obtain ⟨ds, e1, bs, e2, rfl⟩ := eg
      simp only [RepL] at rd
      obtain ⟨v, _, rfl, r1, rfl⟩ := rd
      obtain ⟨a, xs, rfl, ha, ra⟩ := asLst_at s r1 e1
      have ex := asBl_rep e2 ra
      subst ex
      exact ⟨a, bs, rfl, SqL.of ha, q _ _ F Ext.refl s (by simp only [Rep])⟩
    · cases eg
def gAny (M : Mem) : List D → Option D
  | [d] => (asLst M d).bind fun ds => (asBl ds).map fun bs => .bl (bs.any id)
  | _ => none
theorem cal_any (g : Ok X Γ) (hc : X.calm = true) : CallR X (.builtin "any") (rDn Γ gAny) :=
  CallR.imp (cr_any hc) fun xs H Q ⟨F, P, ι, M, ds, r, s, rd, eg, q⟩ => by
    unfold gAny at eg
    split at eg
    · simp only [Option.bind_eq_some_iff, Option.map_eq_some_iff] at eg
      obtain ⟨ds, e1, bs, e2, rfl⟩ := eg
      simp only [RepL] at rd
      obtain ⟨v, _, rfl, r1, rfl⟩ := rd
      obtain ⟨a, xs, rfl, ha, ra⟩ := asLst_at s r1 e1
      have ex := asBl_rep e2 ra
      subst ex
      exact ⟨a, bs, rfl, SqL.of ha, q _ _ F Ext.refl s (by simp only [Rep])⟩
    · cases eg
/-- tuple(..), list(..) -/
def gTuple (M : Mem) : List D → Option D
  | [.tup ds] => some (.tup ds)
  | [d] => (asLst M d).map .tup
  | _ => none
theorem cal_tuple (g : Ok X Γ) : CallR X (.type "tuple") (rDn Γ gTuple) :=
  CallR.imp call_tuple_of fun xs H Q ⟨F, P, ι, M, ds, r, s, rd, eg, q⟩ => by
    unfold gTuple at eg
    split at eg
    · rename_i ds
      simp only [Option.some.injEq] at eg
      subst eg
      simp only [RepL] at rd
      obtain ⟨v, _, rfl, r1, rfl⟩ := rd
      have r1' := r1
      simp only [Rep] at r1
      obtain ⟨a, xs, rfl, ha, ra⟩ := r1
      exact ⟨a, xs, rfl, .inr ⟨by rw [g.k]; exact SqT.fr s.fr ha, q _ _ F Ext.refl s r1'⟩⟩
    · simp only [Option.map_eq_some_iff] at eg
      obtain ⟨ds, e1, rfl⟩ := eg
      simp only [RepL] at rd
      obtain ⟨v, _, rfl, r1, rfl⟩ := rd
      obtain ⟨a, xs, rfl, ha, ra⟩ := asLst_at s r1 e1
      exact ⟨a, xs, rfl, .inl ⟨SqL.of ha, new_tup s ra q⟩⟩
    · cases eg
def gList (M : Mem) : List D → Option D
  | [d] => (asSeq M d).map .lst
  | _ => none
theorem cal_list (g : Ok X Γ) : CallR X (.type "list") (rDn Γ gList) :=
  CallR.imp call_list_of fun xs H Q ⟨F, P, ι, M, ds, r, s, rd, eg, q⟩ => by
    unfold gList at eg
    split at eg
    · simp only [Option.map_eq_some_iff] at eg
      obtain ⟨ds, e1, rfl⟩ := eg
      simp only [RepL] at rd
      obtain ⟨v, _, rfl, r1, rfl⟩ := rd
      obtain ⟨a, xs, rfl, ha, ra⟩ := asSeq_at s r1 e1
      refine ⟨a, xs, rfl, ?_, new_lst s ra q⟩
      rw [g.k]
      exact ha
    · cases eg
/-! ### isinstance of plain data -/
inductive Ty where
  | int | bool | str | tup | lst
def Ty.name : Ty → String
  | .int => "int" | .bool => "bool" | .str => "str" | .tup => "tuple" | .lst => "list"
def tyOf (M : Mem) (d : D) : Option String := match d with
  | .non => some "NoneType"
  | .bl _ => some "bool"
  | .int _ => some "int"
  | .str _ => some "str"
  | .flt _ => some "float"
  | .tup _ => some "tuple"
  | .dic _ _ => some "dict"
  | d => (asLst M d).map fun _ => "list"
def isTy : Ty → String → Bool
  | .int, n => n = "int" || n = "bool"
  | .bool, n => n = "bool"
  | .str, n => n = "str"
  | .tup, n => n = "tuple"
  | .lst, n => n = "list"
theorem kit_tab {n : String} (h : n ∈ ["NoneType", "bool", "int", "str", "float", "tuple", "dict", "list"]) : ∀ T : Ty, kitB n T.name = some (isTy T n) := by
  intro T
  simp only [List.mem_cons, List.mem_nil_iff, or_false] at h
  rcases h with rfl | rfl | rfl | rfl | rfl | rfl | rfl | rfl <;> cases T <;> decide +kernel
theorem ty_at (g : Ok X Γ) {F P : Hp} {ι : List Addr} {M : Mem} {H : Hp} (s : St Γ F P ι M H) {d : D} {v : V} {n : String} (r : Rep Γ F ι d v) (e : tyOf M d = some n) : TyX X.K H v (.type n) ∧ n ∈ ["NoneType", "bool", "int", "str", "float", "tuple", "dict", "list"] := by
  unfold tyOf at e
  split at e
  · cases e; simp only [Rep] at r; subst r; exact ⟨.base .non, by decide⟩
  · cases e; simp only [Rep] at r; subst r; exact ⟨.base (.bl _), by decide⟩
  · cases e; simp only [Rep] at r; subst r; exact ⟨.base (.int _), by decide⟩
  · cases e; simp only [Rep] at r; subst r; exact ⟨.base (.str _), by decide⟩
  · cases e; simp only [Rep] at r; subst r; exact ⟨.base (.flt _), by decide⟩
  · cases e
    simp only [Rep] at r
    obtain ⟨a, xs, rfl, ha, _⟩ := r
    refine ⟨?_, by decide⟩
    rcases SqT.fr s.fr ha with (h | ⟨o, h⟩) | ⟨o, its, k, h, c, _⟩
    · exact .base (.tup h)
    · exact .fTuple h
    · rw [g.k]; exact .kTuple h c
  · cases e
    simp only [Rep] at r
    obtain ⟨a, kvs, rfl, ha, _⟩ := r
    rcases ha with ha | ⟨es, k, hl, _⟩
    · exact ⟨.base (.dK (s.fr _ _ ha)), by decide⟩
    · exact ⟨.kDict (by rw [g.k]; exact hl) rfl, by decide⟩
  · simp only [Option.map_eq_some_iff] at e
    obtain ⟨ds, e1, rfl⟩ := e
    obtain ⟨a, xs, rfl, ha, _⟩ := asLst_at s r e1
    exact ⟨.base (.lst ha), by decide⟩
def mIsi (T : Ty) (m : DM) : DM := fun σ M => (m σ M).bind fun d M1 => ofOpt ((tyOf M1 d).map fun n => .bl (isTy T n)) M1
theorem de_isi (g : Ok X Γ) {x t : Str} {p p2 : Pos} {e : Expr} {m : DM} (T : Ty) (hg : Gl X x) (hm : X.mg x = none) (hv : bootBuiltins x = some (.builtin "isinstance")) (hn : x ≠ "__name__") (hdb : (x == ("__debug__" : Str)) = false) (ha : DE X Γ W e m)
    (hgt : Gl X t) (hmt : X.mg t = none) (hvt : bootBuiltins t = some (.type T.name)) (hnt : t ≠ "__name__") (hdt : (t == ("__debug__" : Str)) = false)
    (he : starEach [e, .Name t p2] X.env = (false, eval e X.env) :: starEach [.Name t p2] X.env) (he2 : starEach [.Name t p2] X.env = (false, eval (.Name t p2) X.env) :: starEach [] X.env) (hpl : (backTo pos (starEach [.Name t p2] X.env)).any (·.1) = false) :
    DE X Γ W (.Call (.Name x p) [e, .Name t p2] [] pos) (mIsi T m) :=
  PE.imp (pe_callB call_isi hg hm hv (pa_cons ha (pa_cons (pe_bltn (v := .ty T.name) hgt hmt hvt rfl hnt hdt) pa_nil he2) he) hn hdb he hpl) fun σ H Q ⟨F, P, ι, M, σd, n, p⟩ => ⟨F, P, ι, M, σd, n, Post.seq p fun d M1 v H1 F1 ι1 er x1 s1 r1 p1 => by
    unfold ofOpt at p1
    split at p1
    · rename_i r eg
      simp only [Option.map_eq_some_iff] at eg
      obtain ⟨k, e1, rfl⟩ := eg
      obtain ⟨ty, hk⟩ := ty_at g s1 r1 e1
      exact ⟨v, .ty T.name, .type k, .type T.name, isTy T k, rfl, .ty _, ty, kit_ty (kit_tab hk T), p1.here s1 (by simp only [Rep])⟩
    · exact p1.elim⟩
end
end MT

set_option maxRecDepth 100000
/-! MtCall: defs that are called, what they promise; comprehensions. -/
namespace MT
open PySem PySem.Spec PyProof.Rows L2
/-! ### what lies behind a call, without what cannot be come to any more -/
mutual
def below (n : Nat) : D → Bool
  | .obj m => decide (m < n)
  | .tup ds => belowL n ds
  | .lst ds => belowL n ds
  | .dic _ ds => belowL n ds
  | .ins _ ds => belowL n ds
  | .clo _ ds => belowL n ds
  | .exn _ ds => belowL n ds
  | _ => true
def belowL (n : Nat) : List D → Bool
  | [] => true
  | d :: ds => below n d && belowL n ds
end
def belowO (n : Nat) : MO → Bool
  | .lst ds => belowL n ds
  | .ins _ _ ds => belowL n ds
  | .dic _ ds => belowL n ds
section
variable {Γ : Gam} {F : Hp} {ι : List Addr}
mutual
theorem below_rep {n : Nat} : ∀ (d : D) (v : V), Rep Γ F ι d v → below n d = true → Rep Γ F (ι.take n) d v
  | .non, _, r, _ => by simpa only [Rep] using r
  | .bl _, _, r, _ => by simpa only [Rep] using r
  | .int _, _, r, _ => by simpa only [Rep] using r
  | .str _, _, r, _ => by simpa only [Rep] using r
  | .flt _, _, r, _ => by simpa only [Rep] using r
  | .lam _, _, r, _ => by simpa only [Rep] using r
  | .exn c ds, _, r, h => by
    simp only [Rep] at r ⊢
    obtain ⟨a, d, e1, e2, r⟩ := r
    refine ⟨a, d, e1, e2, ?_⟩
    rcases r with r | ⟨dd, xs, h1, h2, h3, h4⟩
    · exact .inl r
    · exact .inr ⟨dd, xs, h1, h2, h3, belowL_rep ds xs h4 (by simpa only [below] using h)⟩
  | .clo k ds, _, r, h => by
    simp only [Rep] at r ⊢
    obtain ⟨f, cl, c, dV, ws, e, s, q, r⟩ := r
    exact ⟨f, cl, c, dV, ws, e, s, q, belowL_rep ds ws r (by simpa only [below] using h)⟩
  | .scr _, _, r, _ => by simpa only [Rep] using r
  | .tup ds, _, r, h => by
    simp only [Rep] at r ⊢
    obtain ⟨a, xs, e, s, r⟩ := r
    exact ⟨a, xs, e, s, belowL_rep ds xs r (by simpa only [below] using h)⟩
  | .lst ds, _, r, h => by
    simp only [Rep] at r ⊢
    obtain ⟨a, xs, e, s, r⟩ := r
    exact ⟨a, xs, e, s, belowL_rep ds xs r (by simpa only [below] using h)⟩
  | .dic ks ds, _, r, h => by
    simp only [Rep] at r ⊢
    obtain ⟨a, kvs, e, s, q, r⟩ := r
    exact ⟨a, kvs, e, s, q, belowL_rep ds _ r (by simpa only [below] using h)⟩
  | .ins c ds, _, r, h => by
    simp only [Rep] at r ⊢
    obtain ⟨a, dx, xs, e, s, q, r⟩ := r
    exact ⟨a, dx, xs, e, s, q, belowL_rep ds _ r (by simpa only [below] using h)⟩
  | .obj m, _, r, h => by
    simp only [Rep] at r ⊢
    obtain ⟨a, e, q⟩ := r
    simp only [below, decide_eq_true_eq] at h
    exact ⟨a, by rw [List.getElem?_take_of_lt h]; exact e, q⟩
theorem belowL_rep {n : Nat} : ∀ (ds : List D) (vs : List V), RepL Γ F ι ds vs → belowL n ds = true → RepL Γ F (ι.take n) ds vs
  | [], _, r, _ => by simpa only [RepL] using r
  | d :: ds, _, r, h => by
    simp only [RepL] at r ⊢
    obtain ⟨x, xs, e, r1, r2⟩ := r
    simp only [belowL, Bool.and_eq_true] at h
    exact ⟨x, xs, e, below_rep d x r1 h.1, belowL_rep ds xs r2 h.2⟩
end
theorem belowO_rep {n : Nat} {m : MO} {o : HO} (r : RepO Γ F ι m o) (h : belowO n m = true) : RepO Γ F (ι.take n) m o := by
  cases m with
  | lst ds => obtain ⟨xs, e, r⟩ := r; exact ⟨xs, e, belowL_rep _ _ r h⟩
  | ins c ns ds => obtain ⟨dx, xs, e, l, r⟩ := r; exact ⟨dx, xs, e, l, belowL_rep _ _ r h⟩
  | dic ks ds => obtain ⟨kvs, e, l, r⟩ := r; exact ⟨kvs, e, l, belowL_rep _ _ r h⟩
theorem St.take {P : Hp} {M : Mem} {H : Hp} (s : St Γ F P ι M H) (n : Nat) (h : (M.take n).all (belowO n) = true) : St Γ F P (ι.take n) (M.take n) H := by
  refine ⟨s.fr, s.pr, s.dj, by rw [List.length_take, List.length_take, s.len], s.nd.sublist (List.take_sublist _ _), fun i a m e1 e2 => ?_, s.tb, s.fp, s.pp⟩
  have hi : i < n := by
    have := (List.getElem?_eq_some_iff.mp e1).1
    rw [List.length_take] at this
    omega
  have hm : m ∈ M.take n := List.mem_of_getElem? e2
  rw [List.getElem?_take_of_lt hi] at e1 e2
  obtain ⟨a1, a2, o, a3, a4⟩ := s.ob i a m e1 e2
  exact ⟨a1, a2, o, a3, belowO_rep a4 (List.all_eq_true.mp h m hm)⟩
end
/-- forget what was made within -/
def trim (n : Nat) (ds : List D) (M : Mem) : Mem := if M.length ≤ n then M else if belowL n ds && (M.take n).all (belowO n) then M.take n else M

/-- a def's run: the parameters, then the other names -/
def runDef (np nn : Nat) (b : DSt) (ds : List D) (M : Mem) : Res D :=
  match b (ds.map some ++ List.replicate (nn - np) none) M with
  | .nx _ M' => .ok .non (trim M.length [] M')
  | .rt d M' => .ok d (trim M.length [d] M')
  | .exc c fs _ M' => .exc c fs (trim M.length fs M')
  | _ => .stuck
def spR (Γ : Gam) (np : Nat) (r : List D → Mem → Res D) : Sp := fun vs H Q E => ∃ F P ι M ds, St Γ F P ι M H ∧ RepL Γ F ι ds vs ∧ ds.length = np ∧ Post Γ (fun cls od _ H' => E cls od H') P F ι [] (Rep Γ) (r ds M) Q
theorem ext_take {F F' : Hp} {ι ι' : List Addr} (x : Ext F ι F' ι') : Ext F ι F' (ι'.take ι.length) := ⟨x.f, [], by
  obtain ⟨t, e⟩ := x.i
  rw [e, List.append_nil, List.take_left]⟩
section
variable {Γ : Gam} {F P : Hp} {ι : List Addr} {M : Mem} {H : Hp}
theorem trim_ok (s : St Γ F P ι M H) {F' : Hp} {ι' : List Addr} {M' : Mem} {H' : Hp} {ds : List D} {vs : List V} (x : Ext F ι F' ι') (s' : St Γ F' P ι' M' H') (r : RepL Γ F' ι' ds vs) :
    ∃ ι2, Ext F ι F' ι2 ∧ St Γ F' P ι2 (trim M.length ds M') H' ∧ RepL Γ F' ι2 ds vs := by
  unfold trim
  split
  · exact ⟨ι', x, s', r⟩
  · split
    · rename_i h
      simp only [Bool.and_eq_true] at h
      rw [← s.len] at h ⊢
      exact ⟨ι'.take ι.length, ext_take x, s'.take _ h.2, belowL_rep _ _ r h.1⟩
    · exact ⟨ι', x, s', r⟩
end

/-- f keeps its promise where A is around it -/
structure FnA (P : Program) (w : World) (K : PySem.W.Frag) (mg : Str → Option Value) (base : Heap) (CX : CXT) (A : Around) (f : Addr) (fd : FuncData) (ps : List Str) (sp : Sp) : Prop where
  size : ∀ vs H Q E, sp vs H Q E → vs.length = ps.length
  go : ∀ (up : List Env) (st : Shared) (H : Hp) (as : Args) (us : List Value) (vs : List V) (Q : VK) (E : XK), Env0 P w K mg base A up st H → BindsTo st fd as (ps.zip us) → Vals vs us → sp vs H Q E → codeAny (model P w) A (.call (.ref f) as) (CR CX up P w H st Q E) st
theorem fnA_of {P : Program} {w : World} {K : PySem.W.Frag} {mg : Str → Option Value} {base : Heap} {CX : CXT} {k : Nat} {A : Around} {f : Addr} {fd : FuncData} {ps : List Str} {sp : Sp} (F : FnOk P w K mg base CX k f fd ps sp) (hr : Room k A) : FnA P w K mg base CX A f fd ps sp :=
  ⟨F.len, fun up st H as us vs Q E => F.run A up st H as us vs Q E hr⟩
theorem fnOk_of {P : Program} {w : World} {K : PySem.W.Frag} {mg : Str → Option Value} {base : Heap} {CX : CXT} {k : Nat} {f : Addr} {fd : FuncData} {ps : List Str} {sp : Sp} (hs : ∀ vs H Q E, sp vs H Q E → vs.length = ps.length) (F : ∀ A, Room k A → FnA P w K mg base CX A f fd ps sp) : FnOk P w K mg base CX k f fd ps sp :=
  ⟨hs, fun A up st H as us vs Q E hr => (F A hr).go up st H as us vs Q E⟩
/-- a def's body keeps the promise, where A is around -/
theorem fn_ofA {CX : CXT} {P : Program} {w : World} {K : PySem.W.Frag} {mg : Str → Option Value} {base : Heap} {k : Nat} {f : Addr} {nm qual : Str} {prm : Arguments} {body : List Stmt} {sc : Scope} {dV kV doc pm cdv ct oc : Value} {an od : Option Addr} {osl : Array (Option Value)} {N ps : List Str} {sp : Sp} {A : Around}
    (lk : K.lookup f = some ⟨oc, od, .func (PySem.W.fnOf nm qual prm body sc dV kV doc pm an cdv ct), osl⟩) (hcd : PySem.W.codeIn K cdv qual = true) (S : FnScope N ps sc) (hs : ∀ vs H Q E, sp vs H Q E → vs.length = ps.length) (room : Room (k + 1) A)
    (hb : ∀ (up : List Env) (st : Shared) (H : Hp) (vs : List V) (Q : VK) (E : XK), Room k (A.deeper (envOfC qual sc st.heap.objs.size f cdv)) → sp vs H Q E → ∃ t, PSs (cxOf CX P w K mg base N qual sc f cdv A up st H E) body t ∧ t { nx := fun _ H' => Q .non H', rt := Q } (L2.start N vs) H) :
    FnA P w K mg base CX A f (PySem.W.fnOf nm qual prm body sc dV kV doc pm an cdv ct) ps sp := by
  refine ⟨hs, fun up st H as us vs Q E e0 bd rv q => ?_⟩
  have size := hs _ _ _ _ q
  have inK : K.In st.heap := e0.mod.kin.keeps fun b o z => (e0.bs b o z).1
  have nolim : st.heap.NoLimit := e0.mod.nolimit.keeps fun b o z => (e0.bs b o z).1
  have kinds : ∀ y ∈ ps.zip us, sc.names.lookup y.1 = some .local ∨ (sc.names.lookup y.1 = some .cell ∧ ((cellsFrom (st.heap.objs.size + 1) sc.names []).lookup y.1).isSome = true) := fun ⟨y, u⟩ hy => by
    rcases S.par y (List.of_mem_zip hy).1 with z | z
    · exact .inl z
    · exact .inr ⟨z, PySem.W.cellsFrom_some _ _ _ (.inl z)⟩
  refine codeAny_call_function room.depth (inK _ _ lk) rfl S.co S.gen rfl (PySem.W.codeRec_of inK hcd) (bd _ _ _ _ ?_)
  refine wpAny_newFunctionEnv_cells S.kind kinds fun ev hev st1 xc => ?_
  subst hev
  refine ⟨nolim.keeps xc.toInCall.keep, codeAny_func ?_⟩
  obtain ⟨t, ht, hq⟩ := hb up st H vs Q E (room.deeper _) q
  have J0 : Inv (cxOf CX P w K mg base N qual sc f cdv A up st H E) [] (L2.start N vs) H st1 := inv_start S room.hd e0 size rv xc
  refine wpAny_mono (ht.run [] st1 (L2.start N vs) H _ J0 hq) (fun fl st2 z => ?_) fun u st2 z => z
  cases fl with
  | ret u =>
    obtain ⟨v, τ, H', J, rr, z⟩ := z
    exact ⟨v, H', J.os, J.bare, J.base, J.hok, rr, z⟩
  | next =>
    obtain ⟨τ, H', J, z⟩ := z
    exact ⟨V.non, H', J.os, J.bare, J.base, J.hok, rfl, z⟩
  | brk =>
    obtain ⟨_, _, _, z⟩ := z
    exact z.elim
  | cont =>
    obtain ⟨_, _, _, z⟩ := z
    exact z.elim
theorem spR_size {Γ : Gam} {ps : List Str} {r : List D → Mem → Res D} : ∀ vs H Q E, spR Γ ps.length r vs H Q E → vs.length = ps.length := fun vs H Q E h => by
  obtain ⟨_, _, _, _, ds, _, r, e, _⟩ := h
  rw [r.length, e]
/-- a def of the program, its body's meaning: it keeps the promise of its run, where A is around -/
theorem fn_runA {P : Program} {w : World} {K : PySem.W.Frag} {mg : Str → Option Value} {base : Heap} {Γ : Gam} {x qual : Str} {st : Stmt} {f : Addr} {fd : FuncData} {N ps : List Str} {k : Nat} {A : Around} (F : Fun K x qual st f fd) (S : FnScope N ps (defScope st)) (room : Room (k + 1) A) {b : DSt}
    (hb : ∀ (cdv : Value) (outer : List Env) (s : Shared) (H : Hp) (E : XK), Room k (A.deeper (envOfC qual (defScope st) s.heap.objs.size f cdv)) →
      DSs (cxOf (L2N.CX P w) P w K mg base N qual (defScope st) f cdv A outer s H E) Γ (fun cls d _ H' => E cls d H') (defBody st) b) :
    FnA P w K mg base (L2N.CX P w) A f fd ps (spR Γ ps.length (runDef ps.length N.length b)) := by
  obtain ⟨oc, od, kV, doc, pm, an, cdv, ct, osl, rfl, lk, hcd⟩ := F.ex
  refine fn_ofA lk hcd S spR_size room fun outer s H vs Q E hr hsp => ⟨_, hb cdv outer s H E hr, ?_⟩
  · obtain ⟨F, P', ι, M, ds, st', r, e, p⟩ := hsp
    refine ⟨F, P', ι, M, ds.map some ++ List.replicate (N.length - ps.length) none, ⟨st', ?_⟩, ?_⟩
    · have hl := r.length
      refine ⟨by unfold L2.start; rw [List.length_append, List.length_append, List.length_map, List.length_map, List.length_replicate, List.length_replicate, hl, e], fun i d h => ?_⟩
      have hi : i < ds.length := by
        by_cases hi : i < ds.length
        · exact hi
        · rw [List.getElem?_append_right (by simpa using hi), List.getElem?_replicate] at h
          split at h <;> cases h
      rw [List.getElem?_append_left (by simpa using hi), List.getElem?_map, List.getElem?_eq_getElem hi] at h
      cases h
      obtain ⟨v, e1, rv⟩ := r.get (List.getElem?_eq_getElem hi)
      refine ⟨v, ?_, rv⟩
      unfold L2.start
      rw [List.getElem?_append_left (by rw [List.length_map, hl]; exact hi), List.getElem?_map, e1]
      rfl
    · unfold runDef at p
      cases eb : b (ds.map some ++ List.replicate (N.length - ps.length) none) M with
      | nx σ' M' =>
        rw [eb] at p
        intro σ2 H2 F2 ι2 x2 n2
        obtain ⟨ι3, x3, s3, _⟩ := trim_ok st' x2 n2.st (ds := []) (vs := []) RepL.nil
        exact p .non H2 F2 ι3 x3 s3 (by simp only [Rep])
      | rt d M' =>
        rw [eb] at p
        intro v H2 F2 ι2 x2 s2 r2
        obtain ⟨ι3, x3, s3, r3⟩ := trim_ok st' x2 s2 (RepL.one r2)
        simp only [RepL] at r3
        obtain ⟨y, _, e', r3, _⟩ := r3
        cases e'
        exact p v H2 F2 ι3 x3 s3 r3
      | exc c fs σ' M' =>
        rw [eb] at p
        intro cls od2 σ2 H2 F2 ι2 x2 n2 rx
        obtain ⟨ec, rx⟩ := rx
        rcases rx with ⟨rfl, h0⟩ | ⟨dd, xs, e1, e2, e3, r2⟩
        · obtain ⟨ι3, x3, s3, _⟩ := trim_ok st' x2 n2.st (ds := []) (vs := []) RepL.nil
          exact p cls od2 H2 F2 ι3 x3 s3 ⟨ec, .inl ⟨rfl, h0⟩⟩
        · obtain ⟨ι3, x3, s3, r3⟩ := trim_ok st' x2 n2.st r2
          exact p cls od2 H2 F2 ι3 x3 s3 ⟨ec, .inr ⟨dd, xs, e1, e2, e3, r3⟩⟩
      | bk σ' M' => rw [eb] at p; exact p.elim
      | ct σ' M' => rw [eb] at p; exact p.elim
      | stuck => rw [eb] at p; exact p.elim

theorem fn_run {P : Program} {w : World} {K : PySem.W.Frag} {mg : Str → Option Value} {base : Heap} {Γ : Gam} {x qual : Str} {st : Stmt} {f : Addr} {fd : FuncData} {N ps : List Str} {k : Nat} (F : Fun K x qual st f fd) (S : FnScope N ps (defScope st)) {b : DSt}
    (hb : ∀ (cdv : Value) (A : Around) (outer : List Env) (s : Shared) (H : Hp) (E : XK), Room k (A.deeper (envOfC qual (defScope st) s.heap.objs.size f cdv)) →
      DSs (cxOf (L2N.CX P w) P w K mg base N qual (defScope st) f cdv A outer s H E) Γ (fun cls d _ H' => E cls d H') (defBody st) b) :
    FnOk P w K mg base (L2N.CX P w) (k + 1) f fd ps (spR Γ ps.length (runDef ps.length N.length b)) := fnOk_of spR_size fun A hr => fn_runA F S hr fun cdv outer s H E => hb cdv A outer s H E

/-! ### the call -/
theorem run_A {X : Cx} {CX : CXT} {f : Addr} {fd : FuncData} {ps : List Str} {sp : Sp} {E : L2.St → XK} {pn : List (Addr × Obj)} {τ : L2.St} {H : Hp} {st : Shared} {Q : VK} {us : List Value} {vs : List V} (F : FnA X.prog X.w X.K X.mg X.base CX X.A f fd ps sp) (hb : Binds X.K fd ps []) (hx : PassesAt CX X τ (E τ))
    (I : Inv X pn τ H st) (r : Vals vs us) (q : sp vs H Q (E τ)) : wpAny (model X.prog X.w) X.A (call (.ref f) us) (EP X pn τ Q) X.xe st := by
  have e1 : us.length = ps.length := by rw [← r.length]; exact F.size _ _ _ _ q
  have e2 := hb st us I.kIn (by rw [List.append_nil]; exact e1)
  rw [List.append_nil] at e2
  refine wpAny_call (codeAny_mono (F.go X.stack st H ⟨us, []⟩ us vs Q (E τ) I.env0 e2 r q) fun res st2 z => ?_)
  cases res with
  | error u => exact hx pn H st u st2 I z
  | ok fl =>
    cases fl with
    | ret u => exact I.after z
    | next => exact z.elim
    | brk => exact z.elim
    | cont => exact z.elim
def tCallA (sp : Sp) (E : L2.St → XK) (t : TA) : TE := fun τ H Q => t τ H fun vs H1 => sp vs H1 Q (E τ)
theorem pe_callA {X : Cx} {CX : CXT} {f : Addr} {fd : FuncData} {ps : List Str} {sp : Sp} {E : L2.St → XK} {x : Str} {p pos : Pos} {e : Expr} {es : List Expr} {t : TA} (F : FnA X.prog X.w X.K X.mg X.base CX X.A f fd ps sp) (hg : Gl X x) (hm : X.mg x = some (.ref f)) (hk : PySem.W.keepIn X.K (.ref f) = true) (hb : Binds X.K fd ps []) (hx : ∀ τ, PassesAt CX X τ (E τ))
    (ha : PA X (e :: es) t) (hdb : (x == ("__debug__" : Str)) = false) (he : starEach (e :: es) X.env = (false, eval e X.env) :: starEach es X.env) (hpl : (backTo pos (starEach es X.env)).any (·.1) = false) : PE X (.Call (.Name x p) (e :: es) [] pos) (tCallA sp E t) := by
  refine ⟨fun pn st τ H Q I q => ?_⟩
  refine wpAny_Call_Name_kw (ld_glob I hg hm ?_ hdb)
  exact PySem.W.callWith_K (h₀ := X.base) I.ok.mod.kin hk (thn (ha.run pos pn st τ H _ I q) fun us st1 ⟨vs, H1, I1, r, z⟩ => ⟨I1.kIn, run_A F hb (hx τ) I1 r z⟩) he hpl
/-- at x stands a def that does what r says, with np parameters -/
structure Cal (X : Cx) (Γ : Gam) (x : Str) (np : Nat) (r : List D → Mem → Res D) : Prop where
  ex : ∃ f fd ps, FnA X.prog X.w X.K X.mg X.base (L2N.CX X.prog X.w) X.A f fd ps (spR Γ np r) ∧ X.mg x = some (.ref f) ∧ PySem.W.keepIn X.K (.ref f) = true ∧ Binds X.K fd ps []
def mCall (np : Nat) (r : List D → Mem → Res D) (a : DA) : DM := fun σ M => (a σ M).bind fun ds M1 => if ds.length = np then r ds M1 else .stuck
section
variable {X : Cx} {Γ : Gam} {W : WX} {pos p : Pos} {x : Str} {e : Expr} {es : List Expr} {a : DA} {np : Nat} {r : List D → Mem → Res D}
theorem sp_of {vs : List V} {H : Hp} {Q : VK} {F P : Hp} {ι : List Addr} {M : Mem} {ds : List D} {σ : L2.St} (s : St Γ F P ι M H) (rd : RepL Γ F ι ds vs) (hl : ds.length = np) (p : Post Γ W P F ι σ (Rep Γ) (r ds M) Q) :
    spR Γ np r vs H Q (WE W σ) := by
  refine ⟨F, P, ι, M, ds, s, rd, hl, ?_⟩
  cases er : r ds M with
  | ok d M' => rw [er] at p; exact p
  | exc c fs M' => rw [er] at p; exact p
  | stuck => rw [er] at p; exact p
theorem de_call (c : Cal X Γ x np r) (tk : L2N.Takes X W) (hg : Gl X x) (ha : DAs X Γ W (e :: es) a) (hdb : (x == ("__debug__" : Str)) = false) (he : starEach (e :: es) X.env = (false, eval e X.env) :: starEach es X.env)
    (hpl : (backTo pos (starEach es X.env)).any (·.1) = false) : DE X Γ W (.Call (.Name x p) (e :: es) [] pos) (mCall np r a) := by
  obtain ⟨f, fd, ps, F, hm, hk, hb⟩ := c.ex
  refine PE.imp (pe_callA (E := WE W) F hg hm hk hb (L2N.passAt tk) ha hdb he hpl) fun σ H Q ⟨F, P, ι, M, σd, n, p⟩ => ⟨F, P, ι, M, σd, n, Post.seq p fun ds M1 vs H1 F1 ι1 er x1 s1 r1 p1 => ?_⟩
  split at p1
  · rename_i hl
    exact sp_of s1 r1 hl p1
  · exact p1.elim
end

/-! ### comprehensions, of which nothing is raised -/
abbrev WF : WX := fun _ _ _ _ => False
def wipeD (σ : Slots) : List Nat → Slots
  | [] => σ
  | v :: vs => (wipeD σ vs).set v none
def runComp (g : DGt) (c : DT) (m : DM) (ok : Mem → Prop) : List D → Slots → Mem → Res (List D)
  | [], _, M => .ok [] M
  | d :: ds, σ, M => match g d σ M with
    | some p => match c p.1 p.2 with
      | .ok true M1 => match m p.1 M1 with
        | .ok r M2 => match runComp g c m ok ds σ M2 with
          | .ok rs M3 => .ok (r :: rs) M3
          | _ => .stuck
        | _ => .stuck
      | .ok false M1 => runComp g c m ok ds σ M1
      | _ => .stuck
    | none => .stuck
/-- what is walked stays -/
def StayOk (g : DGt) (c : DT) (m : DM) (ok : Mem → Prop) : List D → Slots → Mem → Prop
  | [], _, M => ok M
  | d :: ds, σ, M => ok M ∧ match g d σ M with
    | some p => match c p.1 p.2 with
      | .ok true M1 => match m p.1 M1 with
        | .ok r M2 => StayOk g c m ok ds σ M2
        | _ => True
      | .ok false M1 => StayOk g c m ok ds σ M1
      | _ => True
    | none => True
open Classical in
noncomputable def mComp (mi : DIt) (g : DGt) (c : DT) (m : DM) (vs : List Nat) : DM := fun σ M => (mi σ M).bind fun its M1 =>
  if StayOk g c m its.ok its.items (wipeD σ vs) M1 ∧ its.items.length ≤ 1000000 then match runComp g c m its.ok its.items (wipeD σ vs) M1 with
    | .ok rs M2 => .ok (.lst rs) M2
    | _ => .stuck
  else .stuck
theorem wipeD_len (σ : Slots) : ∀ vs, (wipeD σ vs).length = σ.length
  | [] => rfl
  | v :: vs => by unfold wipeD; rw [List.length_set, wipeD_len σ vs]
theorem wipe_rep {Γ : Gam} {F : Hp} {ι : List Addr} {σd : Slots} {σ : L2.St} (h : RepS Γ F ι σd σ) : ∀ vs, RepS Γ F ι (wipeD σd vs) (wipe σ vs)
  | [] => h
  | v :: vs => by
    have ih := wipe_rep h vs
    unfold wipeD wipe
    refine ⟨by rw [List.length_set, List.length_set]; exact ih.1, fun i d e => ?_⟩
    by_cases z : i = v
    · subst z
      by_cases hl : i < (wipeD σd vs).length
      · rw [List.getElem?_set_self hl] at e; cases e
      · rw [List.getElem?_eq_none (by rw [List.length_set]; omega)] at e; cases e
    · rw [List.getElem?_set_ne (Ne.symm z)] at e ⊢
      exact ih.2 i d e
theorem wipe_in {σ : L2.St} {i : Nat} : ∀ {vs : List Nat}, i ∈ vs → i < σ.length → (wipe σ vs)[i]? = some none
  | v :: vs, h, hl => by
    unfold wipe
    by_cases z : i = v
    · subst z
      rw [List.getElem?_set_self (by rw [wipe_length]; exact hl)]
    · rw [List.getElem?_set_ne (Ne.symm z)]
      exact wipe_in ((List.mem_cons.mp h).resolve_left z) hl
theorem wipe_agree {σ σ2 : L2.St} {ts vs : List Nat} (hs : ∀ i ∈ ts, i ∈ vs) (a : Agree ts (wipe σ vs) σ2) : wipe σ2 vs = wipe σ vs := by
  apply List.ext_getElem?
  intro i
  have hl : σ2.length = σ.length := by rw [a.1, wipe_length]
  by_cases hi : i ∈ vs
  · by_cases h : i < σ.length
    · rw [wipe_in hi (by omega), wipe_in hi h]
    · rw [List.getElem?_eq_none (by rw [wipe_length]; omega), List.getElem?_eq_none (by rw [wipe_length]; omega)]
  · rw [wipe_out hi, a.2 i (fun z => hi (hs i z))]
section
variable {Γ : Gam} {F P : Hp} {ι : List Addr} {M : Mem} {H : Hp}
/-- the pinned thing is another one now -/
theorem St.repin {p : Addr} {o o' : HO} (s : St Γ F (upd P p o) ι M H) (ho' : Plain o') : St Γ F (upd P p o') ι M (upd H p o') := by
  have hF : F p = none := by
    rcases s.dj p with h | h
    · exact h
    · rw [upd_same] at h; cases h
  have hH : H p = some o := s.pr p o upd_same
  have ho : Plain o := s.pp p o upd_same
  refine ⟨fun a u e => ?_, fun a u e => ?_, fun a => ?_, s.len, s.nd, fun i a m e1 e2 => ?_, tabs_upd s.tb fun u e => by rw [hH] at e; cases e; exact ho, s.fp, fun a u e => ?_⟩
  · rw [upd_ne (ne_of_none e hF)]; exact s.fr a u e
  · by_cases z : a = p
    · subst z; rw [upd_same] at e ⊢; exact e
    · rw [upd_ne z] at e ⊢
      exact s.pr a u (by rw [upd_ne z]; exact e)
  · by_cases z : a = p
    · subst z; exact .inl hF
    · rcases s.dj a with h | h
      · exact .inl h
      · rw [upd_ne z] at h ⊢; exact .inr h
  · obtain ⟨a1, a2, u, a3, a4⟩ := s.ob i a m e1 e2
    have z : a ≠ p := fun z => by subst z; rw [upd_same] at a2; cases a2
    rw [upd_ne z] at a2
    exact ⟨a1, by rw [upd_ne z]; exact a2, u, by rw [upd_ne z]; exact a3, a4⟩
  · by_cases z : a = p
    · subst z; rw [upd_same] at e; cases e; exact ho'
    · rw [upd_ne z] at e; exact s.pp a u (by rw [upd_ne z]; exact e)
/-- the pinned thing changes no more -/
theorem St.freeze {p : Addr} {o : HO} (s : St Γ F (upd P p o) ι M H) (hP : P p = none) : St Γ (upd F p o) P ι M H ∧ Ext F ι (upd F p o) ι := by
  have hF : F p = none := by
    rcases s.dj p with h | h
    · exact h
    · rw [upd_same] at h; cases h
  have x : Ext F ι (upd F p o) ι := ext_upd hF
  refine ⟨⟨fun a u e => ?_, fun a u e => ?_, fun a => ?_, s.len, s.nd, fun i a m e1 e2 => ?_, s.tb, fun a u e => ?_, fun a u e => s.pp a u ?_⟩, x⟩
  · by_cases z : a = p
    · subst z; exact s.pr a u (by rw [upd_same] at e ⊢; exact e)
    · rw [upd_ne z] at e; exact s.fr a u e
  · exact s.pr a u (by rw [upd_ne (ne_of_none e hP)]; exact e)
  · by_cases z : a = p
    · subst z; exact .inr hP
    · rcases s.dj a with h | h
      · exact .inl (by rw [upd_ne z]; exact h)
      · rw [upd_ne z] at h; exact .inr h
  · obtain ⟨a1, a2, u, a3, a4⟩ := s.ob i a m e1 e2
    have z : a ≠ p := fun z => by subst z; rw [upd_same] at a2; cases a2
    rw [upd_ne z] at a2
    exact ⟨by rw [upd_ne z]; exact a1, a2, u, a3, RepO.ext x a4⟩
  · by_cases z : a = p
    · subst z; rw [upd_same] at e; cases e; exact (s.pp _ _ upd_same).1
    · rw [upd_ne z] at e; exact s.fp a u e
  · rw [upd_ne (ne_of_none e hP)]; exact e
end
def DTs (X : Cx) (Γ : Gam) (W : WX) (ifs : List Expr) (m : DT) : Prop := PTs X ifs (liftT Γ W m)
def tTrue : DT := fun _ M => .ok true M
section
variable {X : Cx} {Γ : Gam} {W : WX} {pos : Pos}
theorem PTs.imp {ifs : List Expr} {t t' : TT} (h : PTs X ifs t) (q : ∀ σ H Q, t' σ H Q → t σ H Q) : PTs X ifs t' := ⟨fun pins s σ H Q I z => h.run pins s σ H Q I (q σ H Q z)⟩
theorem dts_nil : DTs X Γ W [] tTrue := PTs.imp pts_nil fun σ H Q ⟨F, P, ι, M, σd, n, p⟩ => p.here n.st rfl
theorem dts_one {c : Expr} {m : DT} (h : DTe X Γ W c m) : DTs X Γ W [c] m := pts_one h
abbrev blkX (X : Cx) (scope : Scope) (s : Shared) (H : Hp) (C : Addr) (cl : List (Str × Addr)) (fp : List Addr) : Cx := X.blk s H scope (compEnvC scope cl C X.env) fp
theorem Ok.blk (g : Ok X Γ) {scope : Scope} {s : Shared} {H : Hp} {C : Addr} {cl : List (Str × Addr)} {fp : List Addr} : Ok (blkX X scope s H C cl fp) Γ := ⟨g.k, g.p, g.w, g.u⟩
theorem tlc_of {its : Its} {J : It} {gt : DGt} {mt : DT} {me : DM} {vs ts : List Nat} {σ : L2.St} {σd : Slots} {F P : Hp} {ι : List Addr} {M : Mem} {H : Hp} {rs : List D} {Mz : Mem} {Q : VK} (hts : ∀ i ∈ ts, i ∈ vs) (n : Now Γ P σd M σ H F ι) (it : ItOk Γ F ι its J)
    (hst : StayOk gt mt me its.ok its.items (wipeD σd vs) M) (hl : its.items.length ≤ 1000000) (e : runComp gt mt me its.ok its.items (wipeD σd vs) M = .ok rs Mz)
    (q : ∀ v H' F' ι', Ext F ι F' ι' → St Γ F' P ι' Mz H' → Rep Γ F' ι' (.lst rs) v → Q v H') :
    ∀ D, H D = none → ∃ W : Nat → Nat → Hp → Prop, (∃ m, W 0 m (upd H D (.lst []))) ∧ ∀ i m H, W i m H →
      (J.stop i H ∧ Q (.ref D) H) ∨ (J.go i H ∧ ∃ Nx : Hp → Prop, (∀ H', Nx H' → ∃ m', m' < m ∧ W (i + 1) m' H') ∧ ∀ x H', J.yld i H x H' → liftG Γ ts gt x (wipe σ vs) H' fun σ2 H2 => wipe σ2 vs = wipe σ vs ∧ liftT Γ WF mt σ2 H2 fun b H3 =>
        if b = true then lift Γ WF me σ2 H3 fun y H4 => ∃ acc, H4 D = some (.lst acc) ∧ acc.length < sizeLine ∧ Nx (upd H4 D (.lst (acc ++ [y]))) else Nx H3) := by
  intro D hD
  obtain ⟨G, Y, w, hG, hY⟩ := it
  have hPD := n.st.freshP hD
  have slw := wipe_rep n.sl vs
  refine lc_it w (fun i H => ∃ F2 ι2 M2 acc xs rest, Ext F ι F2 ι2 ∧ St Γ F2 (upd P D (.lst xs)) ι2 M2 H ∧ RepL Γ F2 ι2 acc xs ∧ runComp gt mt me its.ok (its.items.drop i) (wipeD σd vs) M2 = .ok rest Mz ∧ rs = acc ++ rest ∧
    StayOk gt mt me its.ok (its.items.drop i) (wipeD σd vs) M2 ∧ acc.length ≤ i) ⟨F, ι, M, [], [], rs, Ext.refl, n.st.pin hD lst_plain, RepL.nil, e, rfl, hst, Nat.le_refl _⟩ ?_ ?_ ?_
  · rintro i H2 hi ⟨F2, ι2, M2, acc, xs, rest, x2, s2, r2, e2, ers, st2, hla⟩
    refine hG F2 _ ι2 M2 H2 x2 s2 ?_
    cases ed : its.items.drop i with
    | nil => rw [ed] at st2; exact st2
    | cons d ds => rw [ed] at st2; exact st2.1
  · rintro i x H2 H3 hi ⟨F2, ι2, M2, acc, xs, rest, x2, s2, r2, e2, ers, st2, hla⟩ y
    have ed : its.items.drop i = its.items[i] :: its.items.drop (i + 1) := List.drop_eq_getElem_cons hi
    rw [ed] at e2 st2
    obtain ⟨hok, st2⟩ := st2
    obtain ⟨F3, d, e1, x3, s3, r3⟩ := hY i x H2 H3 F2 _ ι2 M2 hi y x2 s2 hok
    rw [List.getElem?_eq_getElem hi] at e1
    cases e1
    unfold runComp at e2
    cases eg : gt its.items[i] (wipeD σd vs) M2 with
    | none => rw [eg] at e2; cases e2
    | some pg =>
      simp only [eg] at e2 st2
      refine ⟨F3, _, ι2, M2, wipeD σd vs, _, pg.1, pg.2, ⟨s3, slw.ext (x2.trans x3)⟩, r3, eg, fun σ4 H4 F4 ι4 x4 n4 a4 => ⟨wipe_agree hts a4, ?_⟩⟩
      refine ⟨F4, _, ι4, pg.2, pg.1, n4, ?_⟩
      cases ec : mt pg.1 pg.2 with
      | stuck => simp only [ec] at e2; cases e2
      | exc c fs M5 => simp only [ec] at e2; cases e2
      | ok b M5 =>
        intro v5 H5 F5 ι5 x5 s5 ev
        have ev : b = v5 := ev
        subst ev
        have x25 := x2.trans (x3.trans (x4.trans x5))
        cases b with
        | false =>
          simp only [ec] at e2 st2
          exact iteF ⟨F5, ι5, M5, acc, xs, rest, x25, s5, RepL.ext (x3.trans (x4.trans x5)) _ _ r2, e2, ers, st2, by omega⟩
        | true =>
          simp only [ec] at e2 st2
          refine iteT ⟨F5, _, ι5, M5, pg.1, ⟨s5, n4.sl.ext x5⟩, ?_⟩
          cases em : me pg.1 M5 with
          | stuck => simp only [em] at e2; cases e2
          | exc c fs M6 => simp only [em] at e2; cases e2
          | ok r M6 =>
            simp only [em] at e2 st2
            intro v6 H6 F6 ι6 x6 s6 r6
            have ra := RepL.ext (x3.trans (x4.trans (x5.trans x6))) _ _ r2
            refine ⟨xs, s6.pr D _ upd_same, ?_, ?_⟩
            · rw [r2.length]
              have : (sizeLine : Nat) = 16777216 := sizeLine_eq
              omega
            · cases er : runComp gt mt me its.ok (its.items.drop (i + 1)) (wipeD σd vs) M6 with
              | stuck => rw [er] at e2; cases e2
              | exc c fs M7 => rw [er] at e2; cases e2
              | ok rs' M7 =>
                rw [er] at e2
                cases e2
                exact ⟨F6, ι6, M6, acc ++ [r], xs ++ [v6], rs', x25.trans x6, (s6.repin lst_plain), ra.app (RepL.one r6), er, by rw [ers, List.append_assoc]; rfl, st2, by rw [List.length_append]; simp; omega⟩
  · rintro H2 ⟨F2, ι2, M2, acc, xs, rest, x2, s2, r2, e2, ers, st2, hla⟩
    rw [List.drop_length] at e2
    cases e2
    rw [List.append_nil] at ers
    subst ers
    obtain ⟨s3, x3⟩ := s2.freeze hPD
    refine q _ H2 _ ι2 (x2.trans x3) s3 ?_
    simp only [Rep]
    exact ⟨D, xs, rfl, upd_same, RepL.ext x3 _ _ r2⟩
section
variable {elt tg iter : Expr} {ifs : List Expr} {scope : Scope} {own : List (Str × Nat)} {ts : List Nat} {mi : DIt} {gt : DGt} {mt : DT} {me : DM}
theorem lc_read {σ : L2.St} {H : Hp} {Q : VK} {F P : Hp} {ι : List Addr} {M : Mem} {σd : Slots} (hts : ∀ i ∈ ts, i ∈ own.map (·.2)) (n : Now Γ P σd M σ H F ι) (p : Post Γ W P F ι σ (Rep Γ) (mComp mi gt mt me (own.map (·.2)) σd M) Q) :
    tLc (liftI Γ W mi) (liftG Γ ts gt) (liftT Γ WF mt) (lift Γ WF me) (own.map (·.2)) σ H Q :=
  ⟨F, P, ι, M, σd, n, Post.seq p fun its M1 J H1 F1 ι1 er x1 s1 it p1 => by
    split at p1
    · rename_i hh
      split at p1
      · rename_i rs M2 e2
        exact tlc_of hts ⟨s1, n.sl.ext x1⟩ it hh.1 hh.2 e2 fun v H' F' ι' x s r => p1 v H' F' ι' x s r
      · exact p1.elim
    · exact p1.elim⟩
theorem de_lc (g : Ok X Γ) (hc : X.calm = true) (hN : X.N.Nodup) (hi : DI X Γ W tg iter mi) (ok : BlkOk X.N X.env.scope scope own) (hts : ∀ i ∈ ts, i ∈ own.map (·.2))
    (hg : ∀ (s : Shared) (H : Hp) (C : Addr) (cl : List (Str × Addr)) (fp : List Addr), DG (blkX X scope s H C cl fp) Γ ts tg gt) (ht : ∀ (s : Shared) (H : Hp) (C : Addr) (cl : List (Str × Addr)) (fp : List Addr), DTs (blkX X scope s H C cl fp) Γ WF ifs mt)
    (he : ∀ (s : Shared) (H : Hp) (C : Addr) (cl : List (Str × Addr)) (fp : List Addr), DE (blkX X scope s H C cl fp) Γ WF elt me) (hs : ∀ x, foldedSetIterable iter X.env x = pure x) :
    DE X Γ W (.ListComp elt [⟨tg, iter, ifs, 0⟩] scope pos) (mComp mi gt mt me (own.map (·.2))) :=
  PE.imp (pe_lc hc hN hi ok hg ht he hs) fun σ H Q ⟨F, P, ι, M, σd, n, p⟩ => lc_read hts n p
theorem ds_setLc (g : Ok X Γ) (hc : X.calm = true) {i : Nat} {y : Str} {py spos : Pos} (hN : X.N.Nodup) (hy : X.N[i]? = some y) (hyl : X.env.scope.names.lookup y = some .local)
    (hsw : swapsWith (.ListComp elt [⟨tg, iter, ifs, 0⟩] scope pos) (some (.Name y py)) spos.line X.env = pure true) (hi : DI X Γ W tg iter mi) (ok : BlkOk X.N X.env.scope scope own) (hts : ∀ i ∈ ts, i ∈ own.map (·.2))
    (hg : ∀ (s : Shared) (H : Hp) (C : Addr) (cl : List (Str × Addr)) (fp : List Addr), DG (blkX X scope s H C cl fp) Γ ts tg gt) (ht : ∀ (s : Shared) (H : Hp) (C : Addr) (cl : List (Str × Addr)) (fp : List Addr), DTs (blkX X scope s H C cl fp) Γ WF ifs mt)
    (he : ∀ (s : Shared) (H : Hp) (C : Addr) (cl : List (Str × Addr)) (fp : List Addr), DE (blkX X scope s H C cl fp) Γ WF elt me) (hs : ∀ x, foldedSetIterable iter X.env x = pure x) :
    DS X Γ W (.Assign [.Name y py] (.ListComp elt [⟨tg, iter, ifs, 0⟩] scope pos) spos) (sSet i (mComp mi gt mt me (own.map (·.2)))) :=
  PS.imp (ps_setLc hc hN hy hyl hsw hi ok hg ht he hs) fun D σ H ⟨F, P, ι, M, σd, n, p⟩ =>
    lc_read (W := W) hts n (PostS.begin n.sl p fun d M' v H' F' ι' _ x n' r p' => p' _ H' F' ι' Ext.refl (n'.set r i))
end
end
end MT

set_option maxRecDepth 100000
/-! MtMeth: methods of lists and texts, o[i] = v, dicts. -/
namespace MT
open PySem PySem.Spec PyProof.Rows L2 TL
/-! ### methods of built-ins -/
def rMt (Γ : Gam) (g : Mem → D → List D → Option (D × Mem)) : V → List V → Hp → VK → Prop := fun x xs H Q => ∃ F P ι M d ds r M', St Γ F P ι M H ∧ Rep Γ F ι d x ∧ RepL Γ F ι ds xs ∧ g M d ds = some (r, M') ∧
  ∀ v H' F', Ext F ι F' ι → St Γ F' P ι M' H' → Rep Γ F' ι r v → Q v H'
def MtD (X : Cx) (Γ : Gam) (id : String) (g : Mem → D → List D → Option (D × Mem)) : Prop := MtR X id (rMt Γ g)
theorem MtR.imp {X : Cx} {id : String} {r r' : V → List V → Hp → VK → Prop} (h : MtR X id r) (q : ∀ x xs H Q, r' x xs H Q → r x xs H Q) : MtR X id r' := fun pins s σ H x xs v us Q I rx rs z => h pins s σ H x xs v us Q I rx rs (q x xs H Q z)
/-- the receiver is a list, a text -/
def tyM (T : String) (M : Mem) (d : D) : Bool := match d with
  | .str _ => T = "str"
  | d => T = "list" && (asLst M d).isSome
section
variable {X : Cx} {Γ : Gam} {W : WX} {pos : Pos}
theorem tyM_V (g : Ok X Γ) {F P : Hp} {ι : List Addr} {M : Mem} {H : Hp} (s : St Γ F P ι M H) {T : String} {d : D} {v : V} (r : Rep Γ F ι d v) (e : tyM T M d = true) : tyV X.K T v H := by
  unfold tyM at e
  split at e
  · simp only [Rep] at r
    subst r
    exact (of_decide_eq_true e : T = "str")
  · simp only [Bool.and_eq_true, decide_eq_true_eq, Option.isSome_iff_exists] at e
    obtain ⟨e1, ds, e2⟩ := e
    obtain ⟨a, xs, rfl, ha, ra⟩ := asLst_at s r e2
    exact .inl ⟨e1, xs, SqL.of ha⟩
def mMt (T : String) (g : Mem → D → List D → Option (D × Mem)) (m : DM) (a : DA) : DM := fun σ M => (m σ M).bind fun d M1 => if tyM T M1 d then (a σ M1).bind fun ds M2 => match g M2 d ds with
    | some p => .ok p.1 p.2
    | none => .stuck
  else .stuck
variable {o e : Expr} {es : List Expr} {name : Str} {apos cpos : Pos} {T id : String} {m : DM} {a : DA} {g : Mem → D → List D → Option (D × Mem)}
theorem de_mt (gk : Ok X Γ) (pa : PlainAttrs T) (slot : Slot T name id) (hty : typeOf (.builtin id) = pure (.type "method_descriptor")) (hm : MtD X Γ id g) (ho : DE X Γ W o m) (ha : DAs X Γ W (e :: es) a)
    (hbase : attributeBase o name X.env (eval o X.env) = eval o X.env)
    (hfew : ((backTo cpos (starEach (e :: es) X.env)).all (fun x => !x.1) && (backToKw cpos (keywordEach [] X.env)).all (fun x => x.1.isSome)
      && decide ((e :: es).length + ([] : List Keyword).length + (if ([] : List Keyword).isEmpty then 0 else 1) < 30)) = true)
    (hline : (apos.endLine == cpos.line) = true) (hs : starEach (e :: es) X.env = (false, eval e X.env) :: starEach es X.env) (hplain : (backTo cpos (starEach es X.env)).any (·.1) = false) :
    DE X Γ W (.Call (.Attribute o name apos) (e :: es) [] cpos) (mMt T g m a) :=
  PE.imp (pe_bm pa slot hty hm ho ha hbase hfew hline hs hplain) fun σ H Q ⟨F, P, ι, M, σd, n, p⟩ => ⟨F, P, ι, M, σd, n, Post.seq p fun d M1 v H1 F1 ι1 er x1 s1 r1 p1 => by
    split at p1
    · rename_i ht
      refine ⟨tyM_V gk s1 r1 ht, F1, P, ι1, M1, σd, ⟨s1, n.sl.ext x1⟩, Post.seq p1 fun ds M2 vs H2 F2 ι2 er2 x2 s2 r2 p2 => ?_⟩
      split at p2
      · rename_i q eg
        exact ⟨F2, P, ι2, M2, d, ds, q.1, q.2, s2, Rep.ext x2 _ _ r1, r2, eg, fun w H3 F3 x3 s3 r3 => p2 w H3 F3 ι2 x3 s3 r3⟩
      · exact p2.elim
    · exact p1.elim⟩
theorem de_mt0 (gk : Ok X Γ) (pa : PlainAttrs T) (slot : Slot T name id) (hty : typeOf (.builtin id) = pure (.type "method_descriptor")) (hm : MtD X Γ id g) (ho : DE X Γ W o m)
    (hbase : attributeBase o name X.env (eval o X.env) = eval o X.env) (hline : (apos.endLine == cpos.line) = true) : DE X Γ W (.Call (.Attribute o name apos) [] [] cpos) (mMt T g m aNil) :=
  PE.imp (pe_bm0 pa slot hty hm ho hbase hline) fun σ H Q ⟨F, P, ι, M, σd, n, p⟩ => ⟨F, P, ι, M, σd, n, Post.seq p fun d M1 v H1 F1 ι1 er x1 s1 r1 p1 => by
    split at p1
    · rename_i ht
      refine ⟨tyM_V gk s1 r1 ht, ?_⟩
      unfold aNil Res.bind at p1
      dsimp only at p1
      split at p1
      · rename_i q eg
        exact ⟨F1, P, ι1, M1, d, [], q.1, q.2, s1, r1, RepL.nil, eg, fun w H3 F3 x3 s3 r3 => p1 w H3 F3 ι1 x3 s3 r3⟩
      · exact p1.elim
    · exact p1.elim⟩
/-! ### append, pop, extend -/
def kAppend (M : Mem) : D → List D → Option (D × Mem)
  | .obj n, [e] => match M[n]? with
    | some (.lst ds) => if ds.length < 1000000 then some (.non, M.set n (.lst (ds ++ [e]))) else none
    | _ => none
  | _, _ => none
theorem mtd_append : MtD X Γ "list.append" kAppend :=
  MtR.imp mt_append fun x xs H Q ⟨F, P, ι, M, d, ds, r, M', s, rd, rds, eg, q⟩ => by
    unfold kAppend at eg
    split at eg
    · rename_i n e
      split at eg
      · rename_i ds em
        split at eg
        · rename_i hl
          cases eg
          simp only [Rep] at rd
          obtain ⟨p, hp, rfl⟩ := rd
          simp only [RepL] at rds
          obtain ⟨y, _, rfl, r1, rfl⟩ := rds
          obtain ⟨hF, hP, o, ho, ys, rfl, ry⟩ := s.ob n p _ hp em
          refine ⟨p, ys, y, rfl, rfl, ho, ?_, q _ _ F Ext.refl (s.write hp ⟨_, rfl, ry.app (.one r1)⟩) (by simp only [Rep])⟩
          rw [ry.length, sizeLine_eq]
          omega
        · cases eg
      · cases eg
    · cases eg
def kPop (M : Mem) : D → List D → Option (D × Mem)
  | .obj n, [] => match M[n]? with
    | some (.lst ds) => ds.getLast?.map fun d => (d, M.set n (.lst ds.dropLast))
    | _ => none
  | _, _ => none
theorem mtd_pop : MtD X Γ "list.pop" kPop :=
  MtR.imp mt_pop fun x xs H Q ⟨F, P, ι, M, d, ds, r, M', s, rd, rds, eg, q⟩ => by
    unfold kPop at eg
    split at eg
    · rename_i n
      split at eg
      · rename_i ds em
        simp only [Option.map_eq_some_iff] at eg
        obtain ⟨d, e1, e2⟩ := eg
        cases e2
        simp only [Rep] at rd
        obtain ⟨p, hp, rfl⟩ := rd
        simp only [RepL] at rds
        subst rds
        obtain ⟨hF, hP, o, ho, ys, rfl, ry⟩ := s.ob n p _ hp em
        rw [List.getLast?_eq_getElem?] at e1
        obtain ⟨y, e2, r2⟩ := ry.get e1
        rw [← ry.length] at e2
        refine ⟨p, ys, y, rfl, rfl, ho, e2, q _ _ F Ext.refl (s.write hp ⟨_, rfl, ?_⟩) r2⟩
        rw [List.dropLast_eq_take, List.dropLast_eq_take, ry.length]
        exact ry.take _
      · cases eg
    · cases eg
def kExtend (M : Mem) : D → List D → Option (D × Mem)
  | .obj n, [e] => match M[n]?, asLst M e with
    | some (.lst ds), some es => if ds.length + es.length ≤ 1000000 then some (.non, M.set n (.lst (ds ++ es))) else none
    | _, _ => none
  | _, _ => none
theorem mtd_extend : MtD X Γ "list.extend" kExtend :=
  MtR.imp mt_extend fun x xs H Q ⟨F, P, ι, M, d, ds, r, M', s, rd, rds, eg, q⟩ => by
    unfold kExtend at eg
    split at eg
    · rename_i n e
      split at eg
      · rename_i ds es em ee
        split at eg
        · rename_i hl
          cases eg
          simp only [Rep] at rd
          obtain ⟨p, hp, rfl⟩ := rd
          simp only [RepL] at rds
          obtain ⟨y, _, rfl, r1, rfl⟩ := rds
          obtain ⟨hF, hP, o, ho, ys, rfl, ry⟩ := s.ob n p _ hp em
          obtain ⟨b, zs, rfl, hb, rb⟩ := asLst_at s r1 ee
          refine ⟨p, b, ys, zs, rfl, rfl, ho, hb, ?_, q _ _ F Ext.refl (s.write hp ⟨_, rfl, ry.app rb⟩) (by simp only [Rep])⟩
          rw [ry.length, rb.length, sizeLine_eq]
          omega
        · cases eg
      · cases eg
    · cases eg
/-! ### join, split -/
def asStrs : List D → Option (List (List Nat))
  | [] => some []
  | .str l :: r => (asStrs r).map (l :: ·)
  | _ => none
theorem asStrs_rep {F : Hp} {ι : List Addr} : ∀ {ds : List D} {ls : List (List Nat)} {xs : List V}, asStrs ds = some ls → RepL Γ F ι ds xs → xs = (ls.map txt).map V.str
  | [], _, _, e, r => by simp only [asStrs, Option.some.injEq] at e; simp only [RepL] at r; subst e r; rfl
  | d :: ds, _, _, e, r => by
    cases d with
    | str b =>
      simp only [asStrs, Option.map_eq_some_iff] at e
      obtain ⟨bs, e1, rfl⟩ := e
      simp only [RepL, Rep] at r
      obtain ⟨x, xs, rfl, rfl, r2⟩ := r
      rw [asStrs_rep e1 r2]
      rfl
    | _ => simp [asStrs] at e
theorem tl_txt (l : List Nat) : tl (txt l) = l := rfl
theorem map_tl_txt (ls : List (List Nat)) : (ls.map txt).map tl = ls := by
  rw [List.map_map]
  exact List.map_id _
theorem txt_tl (s : Str) : txt (tl s) = s := mk_tl s
def kJoin (M : Mem) : D → List D → Option (D × Mem)
  | .str s, [d] => match (asSeq M d).bind asStrs with
    | some ls => if (ls.map List.length).sum + ls.length * s.length ≤ 16777216 then some (.str (joinL s ls), M) else none
    | none => none
  | _, _ => none
theorem mtd_join (gk : Ok X Γ) : MtD X Γ "str.join" kJoin :=
  MtR.imp mt_join fun x xs H Q ⟨F, P, ι, M, d, ds, r, M', s, rd, rds, eg, q⟩ => by
    unfold kJoin at eg
    split at eg
    · rename_i l e
      split at eg
      · rename_i ls e1
        split at eg
        · rename_i hl
          cases eg
          simp only [Rep] at rd
          simp only [RepL] at rds
          obtain ⟨y, _, rfl, r1, rfl⟩ := rds
          simp only [Option.bind_eq_some_iff] at e1
          obtain ⟨ds, e1, e2⟩ := e1
          obtain ⟨p, zs, rfl, hp, rp⟩ := asSeq_at s r1 e1
          have ez := asStrs_rep e2 rp
          subst ez
          refine ⟨txt l, p, ls.map txt, rd, rfl, ?_, ?_, q _ _ F Ext.refl s ?_⟩
          · rw [gk.k]; exact hp
          · rw [List.map_map, List.length_map, tx_len]
            have : (Str.length ∘ txt) = List.length := funext fun l => tx_len l
            show ((ls.map ((fun x => Str.length x) ∘ txt)).sum + _) ≤ _
            rw [show ((fun x => Str.length x) ∘ txt) = List.length from this]
            exact hl
          · simp only [Rep]
            congr 1
            apply ext_tl
            rw [join_eq, tl_join, map_tl_txt]
        · cases eg
      · cases eg
    · cases eg
def kSplit (M : Mem) : D → List D → Option (D × Mem)
  | .str l, [.str s] => if s ≠ [] ∧ s.all (· < 256) = true ∧ l.length + 2 ≤ sizeLine then some (.lst ((spl s 0 [] l).map D.str), M) else none
  | _, _ => none
theorem strs_rep {F : Hp} {ι : List Addr} : ∀ ls : List (List Nat), RepL Γ F ι (ls.map D.str) ((ls.map txt).map V.str)
  | [] => RepL.nil
  | l :: ls => RepL.cons (by simp only [Rep]) (strs_rep ls)
theorem mtd_split : MtD X Γ "str.split" kSplit :=
  MtR.imp mt_split fun x xs H Q ⟨F, P, ι, M, d, ds, r, M', s, rd, rds, eg, q⟩ => by
    unfold kSplit at eg
    split at eg
    · rename_i l c
      split at eg
      · rename_i hc
        cases eg
        simp only [Rep] at rd
        simp only [RepL, Rep] at rds
        obtain ⟨y, _, rfl, rfl, rfl⟩ := rds
        refine ⟨txt l, txt c, rd, rfl, ?_, by rw [tx_len]; exact hc.2.2, ?_⟩
        · rw [tx_len]
          cases c with
          | nil => exact absurd rfl hc.1
          | cons a b => rfl
        · intro p hp
          have e : (Txt.split (txt l) (txt c)).map V.str = ((spl c 0 [] l).map txt).map V.str := by
            congr 1
            apply map_tl_inj
            rw [split_spl _ _ (by rw [tl_txt]; exact hc.1) (kind_ok (by
              have := hc.2.1
              simp only [List.all_eq_true, decide_eq_true_eq] at this
              simp only [Array.all_eq_true', decide_eq_true_eq]
              intro x hx
              exact this x (by simpa using hx))), map_tl_txt, tl_txt, tl_txt]
          rw [e]
          refine q _ _ (upd F p (.lst _)) (ext_upd (s.freshF hp)) (s.laid hp _) ?_
          simp only [Rep]
          exact ⟨p, _, rfl, upd_same, strs_rep _⟩
      · cases eg
    · cases eg
/-! ### index -/
def idxF (e : D) : List D → Option Nat
  | [] => none
  | d :: ds => if eqF d e then some 0 else (idxF e ds).map (· + 1)
def kIndex (M : Mem) (d : D) : List D → Option (D × Mem)
  | [e] => match asLst M d with
    | some ds => if flatD e = true ∧ ds.all flatD = true then (idxF e ds).map fun i : Nat => (.int (i : Nat), M) else none
    | none => none
  | _ => none
theorem idxF_V {F : Hp} {ι : List Addr} {e : D} {u : V} (r' : Rep Γ F ι e u) (h' : flatD e = true) : ∀ {ds : List D} {vs : List V} {i : Nat}, RepL Γ F ι ds vs → ds.all flatD = true → idxF e ds = some i →
    ∃ z, vs[i]? = some z ∧ eqV z u = true ∧ ∀ (m : Nat) (z' : V), m < i → vs[m]? = some z' → eqV z' u = false
  | [], _, _, _, _, x => by simp [idxF] at x
  | d :: ds, _, i, r, h, x => by
    simp only [RepL] at r
    obtain ⟨y, xs, rfl, h1, h2⟩ := r
    simp only [List.all_cons, Bool.and_eq_true] at h
    unfold idxF at x
    have q := eqF_V h1 r' h.1 h'
    split at x
    · rename_i e1
      cases x
      exact ⟨y, rfl, by rw [q]; exact e1, fun m _ hm => by omega⟩
    · rename_i e1
      simp only [Option.map_eq_some_iff] at x
      obtain ⟨j, e2, rfl⟩ := x
      obtain ⟨z, z1, z2, z3⟩ := idxF_V r' h' h2 h.2 e2
      refine ⟨z, z1, z2, fun m z' hm hz => ?_⟩
      cases m with
      | zero =>
        simp only [List.getElem?_cons_zero, Option.some.injEq] at hz
        subst hz
        rw [q]
        exact eq_false_of_ne_true e1
      | succ m => exact z3 m z' (by omega) hz
theorem mtd_index (gk : Ok X Γ) : MtD X Γ "list.index" kIndex :=
  MtR.imp mt_index fun x xs H Q ⟨F, P, ι, M, d, ds, r, M', s, rd, rds, eg, q⟩ => by
    unfold kIndex at eg
    split at eg
    · rename_i e
      split at eg
      · rename_i ds e1
        split at eg
        · rename_i hf
          simp only [Option.map_eq_some_iff] at eg
          obtain ⟨i, e2, e3⟩ := eg
          cases e3
          simp only [RepL] at rds
          obtain ⟨y, _, rfl, r1, rfl⟩ := rds
          obtain ⟨p, zs, rfl, hp, rp⟩ := asLst_at s rd e1
          obtain ⟨z, z1, z2, z3⟩ := idxF_V r1 hf.1 rp hf.2 e2
          exact ⟨p, zs, y, i, z, rfl, rfl, SqL.of hp, flat_V r1 hf.1, flat_all rp hf.2, z1, z2, z3, q _ _ F Ext.refl s (by simp only [Rep])⟩
        · cases eg
      · cases eg
    · cases eg
end
end MT

set_option maxRecDepth 100000
/-! MtIt: what is walked, whatever it is; o[i] = v; dict displays; count. -/
namespace MT
open PySem PySem.Spec PyProof.Rows L2
section
variable {X : Cx} {Γ : Gam} {W : WX} {pos : Pos} {tg l : Expr} {m : DM}
/-- a list, a tuple, a text -/
def tAny (K : PySem.W.Frag) (te : TE) : TI := fun σ H R => te σ H fun x H1 => (∃ a, x = .ref a ∧ (∃ xs, SqL K H1 a xs) ∧ R (Itl K a) H1) ∨ (∃ a, x = .ref a ∧ (∃ xs, SqT K H1 a xs) ∧ R (Itt K a) H1) ∨ (∃ z, x = .str z ∧ R (L2.Its z) H1)
theorem pi_any {te : TE} (he : PE X l te) : PI X tg l (tAny X.K te) := by
  refine ⟨fun pins s σ H R I h => ?_⟩
  refine thn (he.run pins s σ H _ I h) fun v s1 ⟨x, H1, I1, r1, q1⟩ => ?_
  rcases q1 with ⟨a, e, ⟨xs, hq⟩, q⟩ | ⟨a, e, ⟨xs, hq⟩, q⟩ | ⟨z, e, q⟩
  · subst e
    cases r1
    obtain ⟨its, rv, p, hz⟩ := I1.list hq
    refine wpAny_pyIter_list p.isList ?_
    refine ⟨s1.heap.objs.size, [s1.heap.objs.size], _, _, H1, rfl, I1.kept (t' := s1.toks) fun b o e => Heap.get?_push_of_some _ e, turn_list a _, ⟨_, Heap.get?_push_size _ rfl, rfl, rfl⟩, fun b hb => ?_, q⟩
    have e : b = s1.heap.objs.size := by simpa using hb
    subst e
    exact I1.fpOk (Nat.le_refl _) (I1.hok.fresh (Nat.le_refl _))
  · subst e
    cases r1
    obtain ⟨its, rv, p, hz⟩ := I1.tuple hq
    refine wpAny_pyIter_tuple (show s1.heap.IsTuple a its.toArray from p) ?_
    refine ⟨s1.heap.objs.size, [s1.heap.objs.size], _, _, H1, rfl, I1.kept (t' := s1.toks) fun b o e => Heap.get?_push_of_some _ e, turn_tuple a _, ⟨_, Heap.get?_push_size _ rfl, rfl, rfl⟩, fun b hb => ?_, q⟩
    have e : b = s1.heap.objs.size := by simpa using hb
    subst e
    exact I1.fpOk (Nat.le_refl _) (I1.hok.fresh (Nat.le_refl _))
  · subst e
    obtain ⟨t, rfl⟩ := r1
    cases ha : z.cps.all (· < 128)
    · exact wpAny_pyIter_wide ha (pi_one (tk := s1.toks) I1 _ (turn_str _ z t "str_iterator" (.inr rfl)) ⟨_, Heap.get?_push_size _ rfl, rfl, rfl⟩ q)
    · exact wpAny_pyIter_ascii ha (pi_one (tk := s1.toks) I1 _ (turn_str _ z t "str_ascii_iterator" (.inl rfl)) ⟨_, Heap.get?_push_size _ rfl, rfl, rfl⟩ q)
def itsOf (M : Mem) (d : D) : Option Its := match d with
  | .str l => some ⟨l.map fun c => .str [c], fun _ => True⟩
  | .tup ds => some ⟨ds, fun _ => True⟩
  | d => (asLst M d).map fun ds => ⟨ds, fun M2 => asLst M2 d = some ds⟩
def iAny (m : DM) : DIt := fun σ M => (m σ M).bind fun d M1 => match itsOf M1 d with
  | some i => .ok i M1
  | none => .stuck
theorem di_any (g : Ok X Γ) (h : DE X Γ W l m) : DI X Γ W tg l (iAny m) :=
  PI.imp (pi_any h) fun σ H R ⟨F, P, ι, M, σd, n, p⟩ => ⟨F, P, ι, M, σd, n, Post.seq p fun d M1 v H1 F1 ι1 er x1 s1 r1 p1 => by
    split at p1
    · rename_i i ei
      unfold itsOf at ei
      split at ei
      · rename_i z
        cases ei
        simp only [Rep] at r1
        subst r1
        refine .inr (.inr ⟨txt z, rfl, p1.here s1 ⟨fun _ => True, fun i H v H' => H' = H ∧ ∃ c, (txt z).cps[i]? = some c ∧ v = .str ⟨#[c]⟩, ?_, fun _ _ _ _ _ _ _ _ => trivial, fun i x H2 H3 F2 P2 ι2 M2 hi y x2 s2 hk => ?_⟩⟩)
        · have w := walk_str (z := txt z)
          show Walk _ (z.map fun c => D.str [c]).length _ _
          rw [List.length_map]
          have e : (txt z).cps.size = z.length := List.size_toArray ..
          rw [e] at w
          exact w
        · obtain ⟨rfl, c, e, rfl⟩ := y
          have e' : z[i]? = some c := by simpa [txt] using e
          exact ⟨F2, .str [c], by simp [e'], Ext.refl, s2, by simp only [Rep]⟩
      · rename_i ds
        cases ei
        have r1' := r1
        simp only [Rep] at r1
        obtain ⟨a, xs, rfl, ha, ra⟩ := r1
        have hK : ∀ {F2 : Hp} {ι2 : List Addr} {P2 : Hp} {M2 : Mem} {H2 : Hp}, Ext F1 ι1 F2 ι2 → St Γ F2 P2 ι2 M2 H2 → SqT X.K H2 a xs := fun x2 s2 => by
          rw [g.k]
          exact SqT.fr s2.fr (SqT.ext x2.f ha)
        refine .inr (.inl ⟨a, rfl, ⟨xs, hK Ext.refl s1⟩, p1.here s1 ⟨_, _, walkT X.K a ds.length, fun F2 P2 ι2 M2 H2 x2 s2 hk => ⟨xs, hK x2 s2, ra.length⟩, fun i x H2 H3 F2 P2 ι2 M2 hi y x2 s2 hk => ?_⟩⟩)
        obtain ⟨rfl, y⟩ := y
        obtain ⟨d', e1, rd⟩ := RepL.get' ra (y _ (hK x2 s2))
        exact ⟨F2, d', e1, Ext.refl, s2, Rep.ext x2 _ _ rd⟩
      · simp only [Option.map_eq_some_iff] at ei
        obtain ⟨ds, hd, rfl⟩ := ei
        obtain ⟨a, xs, rfl, ha, ra⟩ := asLst_at s1 r1 hd
        refine .inl ⟨a, rfl, ⟨xs, SqL.of ha⟩, p1.here s1 ⟨_, _, walkL X.K a ds.length, fun F2 P2 ι2 M2 H2 x2 s2 hk => ?_, fun i x H2 H3 F2 P2 ι2 M2 hi y x2 s2 hk => ?_⟩⟩
        · obtain ⟨b, ys, e, hb, rb⟩ := asLst_at s2 (Rep.ext x2 _ _ r1) hk
          cases e
          exact ⟨ys, SqL.of hb, rb.length⟩
        · obtain ⟨b, ys, e, hb, rb⟩ := asLst_at s2 (Rep.ext x2 _ _ r1) hk
          cases e
          obtain ⟨rfl, y⟩ := y
          obtain ⟨d', e1, rd⟩ := RepL.get' rb (y _ (SqL.of hb))
          exact ⟨F2, d', e1, Ext.refl, s2, rd⟩
    · exact p1.elim⟩
/-! ### o[i] = v -/
def setD (M : Mem) (o i v : D) : Option Mem := match o, i with
  | .obj n, .int k => match M[n]? with
    | some (.lst ds) => (ixN ds.length k).map fun j => M.set n (.lst (ds.set j v))
    | _ => none
  | _, _ => none
def gtSub (mo mi : DM) : DGt := fun d σ M => match mo σ M with
  | .ok o M1 => match mi σ M1 with
    | .ok i M2 => (setD M2 o i d).map fun M3 => (σ, M3)
    | _ => none
  | _ => none
theorem dg_sub {o i : Expr} {mo mi : DM} (ho : DE X Γ WF o mo) (hi : DE X Γ WF i mi)
    (ha : ∀ v, assign (.Subscript o i pos) X.env v = (do
      let ov ← holding [v] (eval o X.env)
      let iv ← holding [v, ov] (eval i X.env)
      standAt pos
      holding [v, ov, iv] (setItem ov iv v)
      release [v, ov, iv] [])) : DG X Γ [] (.Subscript o i pos) (gtSub mo mi) :=
  PG.imp (pg_sub ho hi set_list ha) fun v σ H Q ⟨F, P, ι, M, σd, d, σd', M', n, r, e, q⟩ => by
    unfold gtSub at e
    split at e
    · rename_i o M1 eo
      split at e
      · rename_i i M2 ei
        simp only [Option.map_eq_some_iff] at e
        obtain ⟨M3, es, e3⟩ := e
        cases e3
        refine ⟨F, P, ι, M, σd, n, ?_⟩
        rw [eo]
        intro ov H1 F1 ι1 x1 s1 r1
        refine ⟨F1, P, ι1, M1, σd, ⟨s1, n.sl.ext x1⟩, ?_⟩
        rw [ei]
        intro iv H2 F2 ι2 x2 s2 r2
        unfold setD at es
        split at es
        · rename_i k kk
          split at es
          · rename_i ds em
            simp only [Option.map_eq_some_iff] at es
            obtain ⟨j, hj, rfl⟩ := es
            have r1' := Rep.ext x2 _ _ r1
            simp only [Rep] at r1' r2
            obtain ⟨p, hp, rfl⟩ := r1'
            obtain ⟨_, _, o, ho, ys, rfl, ry⟩ := s2.ob k p _ hp em
            refine ⟨p, ys, kk, j, rfl, r2, ho, by rw [ry.length]; exact hj, ?_⟩
            refine q σ _ F2 ι2 (x1.trans x2) ⟨s2.write hp ⟨_, rfl, ry.set j (Rep.ext (x1.trans x2) _ _ r)⟩, n.sl.ext (x1.trans x2)⟩ Agree.refl
          · cases es
        · cases es
      · cases e
    · cases e
/-! ### count -/
def cntF (e : D) : List D → Nat
  | [] => 0
  | d :: ds => (if eqF d e then 1 else 0) + cntF e ds
def kCount (M : Mem) (d : D) : List D → Option (D × Mem)
  | [e] => match asLst M d with
    | some ds => if flatD e = true ∧ ds.all flatD = true then some (.int (cntF e ds : Nat), M) else none
    | none => none
  | _ => none
theorem cntF_V {F : Hp} {ι : List Addr} {e : D} {y : V} {u : Value} (ru : L2.RelV y u) (r' : Rep Γ F ι e y) (h' : flatD e = true) : ∀ {ds : List D} {vs : List V} {us : List Value}, RepL Γ F ι ds vs → Vals vs us → ds.all flatD = true → us.countP (eqU y) = cntF e ds
  | [], _, _, r, rv, _ => by simp only [RepL] at r; subst r; cases rv; rfl
  | d :: ds, _, _, r, rv, h => by
    simp only [RepL] at r
    obtain ⟨x, xs, rfl, h1, h2⟩ := r
    cases rv with
    | cons rx rxs =>
      rename_i u1 us
      simp only [List.all_cons, Bool.and_eq_true] at h
      have q := eqF_V h1 r' h.1 h'
      rw [List.countP_cons, cntF_V ru r' h' h2 rxs h.2]
      rw [eqU_of rx (flat_V h1 h.1), q]
      show _ = (if eqF d e then 1 else 0) + cntF e ds
      omega
theorem mtd_count (gk : Ok X Γ) : MtD X Γ "list.count" kCount := by
  have h : MtR X "list.count" (fun x xs H Q => ∃ (a : Addr) (ys : List V) (y : V), x = V.ref a ∧ xs = [y] ∧ SqL X.K H a ys ∧ flatV y = true ∧ ys.all flatV = true ∧ ∀ us u, Vals ys us → L2.RelV y u → Q (.int (us.countP (eqU y) : Nat)) H) := by
    intro pins s σ H x xs v us Q I rx rxs h
    obtain ⟨a, ys, y, rfl, rfl, hs, fy, fys, q⟩ := h
    cases rx
    cases rxs with
    | cons ry rt =>
      rename_i uy ut
      cases rt
      obtain ⟨its, rv, ⟨⟨cls, dd, data, sl⟩, n, ho, hc, hdn, hd⟩, hlen⟩ := I.list hs
      simp only at hc hd
      subst hc hd
      refine call_meets PySem.F.slot_list_count ⟨_, ho, rfl⟩ PySem.F.entry_list_count (PySem.F.args_list_count_2 _ _) (SeqAt.list_countAt a its.toArray n dd sl uy (eqU y)) ⟨ho, fun u' hu' => mem_eqAt ry fy rv fys u' (by simpa using hu'), ?_⟩
      exact ⟨.int _, H, I.tok _, ⟨_, rfl⟩, q _ _ rv ry⟩
  refine MtR.imp h fun x xs H Q ⟨F, P, ι, M, d, ds, r, M', s, rd, rds, eg, q⟩ => ?_
  unfold kCount at eg
  split at eg
  · rename_i e
    split at eg
    · rename_i ds e1
      split at eg
      · rename_i hf
        cases eg
        simp only [RepL] at rds
        obtain ⟨y, _, rfl, r1, rfl⟩ := rds
        obtain ⟨p, zs, rfl, hp, rp⟩ := asLst_at s rd e1
        refine ⟨p, zs, y, rfl, rfl, SqL.of hp, flat_V r1 hf.1, flat_all rp hf.2, fun us u rv ru => ?_⟩
        rw [cntF_V ru r1 hf.1 rp rv hf.2]
        exact q _ _ F Ext.refl s (by simp only [Rep])
      · cases eg
    · cases eg
  · cases eg
/-! ### displays of dicts; get -/
abbrev DPr := Slots → Mem → Res (List D × List D)
def prNil : DPr := fun _ M => .ok ([], []) M
def prCons (k v : DM) (r : DPr) : DPr := fun σ M => match k σ M with
  | .ok a M1 => match v σ M1 with
    | .ok b M2 => match r σ M2 with
      | .ok p M3 => .ok (a :: p.1, b :: p.2) M3
      | _ => .stuck
    | _ => .stuck
  | _ => .stuck
/-- the pairs, evaluated one after another without any error -/
def DPs (X : Cx) (Γ : Gam) (pos : Pos) (ks : List (Option Expr)) (vs : List Expr) (m : DPr) : Prop := ∃ trs, PPs X pos ks vs trs ∧
  ∀ (F P : Hp) (ι : List Addr) (M : Mem) (σd : Slots) (σ : L2.St) (H : Hp) (Q : List (V × V) → Hp → Prop) p M', Now Γ P σd M σ H F ι → m σd M = .ok p M' →
    (∀ ps H' F' ι', Ext F ι F' ι' → Now Γ P σd M' σ H' F' ι' → RepL Γ F' ι' p.1 (ps.map (·.1)) → RepL Γ F' ι' p.2 (ps.map (·.2)) → Q ps H') → tPairs trs σ H Q
theorem dps_nil : DPs X Γ pos [] [] prNil := ⟨[], pps_nil, fun F P ι M σd σ H Q p M' n e q => by
  cases e
  exact q [] H F ι Ext.refl n RepL.nil RepL.nil⟩
theorem dps_cons {k v : Expr} {ks : List (Option Expr)} {vs : List Expr} {mk mv : DM} {r : DPr} (hk : DE X Γ WF k mk) (hv : DE X Γ WF v mv) (hr : DPs X Γ pos ks vs r) : DPs X Γ pos (some k :: ks) (v :: vs) (prCons mk mv r) := by
  obtain ⟨trs, h1, h2⟩ := hr
  refine ⟨_, pps_cons hk hv h1, fun F P ι M σd σ H Q p M' n e q => ?_⟩
  unfold prCons at e
  cases ek : mk σd M with
  | ok a M1 =>
    rw [ek] at e
    dsimp only at e
    cases ev : mv σd M1 with
    | ok b M2 =>
      rw [ev] at e
      dsimp only at e
      cases er : r σd M2 with
      | ok pp M3 =>
        rw [er] at e
        cases e
        refine ⟨F, P, ι, M, σd, n, ?_⟩
        rw [ek]
        intro x H1 F1 ι1 x1 s1 r1
        refine ⟨F1, P, ι1, M1, σd, ⟨s1, n.sl.ext x1⟩, ?_⟩
        rw [ev]
        intro y H2 F2 ι2 x2 s2 r2
        exact h2 F2 P ι2 M2 σd σ H2 _ pp _ ⟨s2, n.sl.ext (x1.trans x2)⟩ er fun ps H3 F3 ι3 x3 n3 ra rb => q _ H3 F3 _ ((x1.trans x2).trans x3) n3 (.cons (Rep.ext (x2.trans x3) _ _ r1) ra) (.cons (Rep.ext x3 _ _ r2) rb)
      | exc _ _ _ => rw [er] at e; cases e
      | stuck => rw [er] at e; cases e
    | exc _ _ _ => rw [ev] at e; cases e
    | stuck => rw [ev] at e; cases e
  | exc _ _ _ => rw [ek] at e; cases e
  | stuck => rw [ek] at e; cases e
def keysD : List D → Option (List Key)
  | [] => some []
  | d :: ds => (keyD d).bind fun k => (keysD ds).map (k :: ·)
theorem keyD_V {F : Hp} {ι : List Addr} {d : D} {v : V} {k : Key} (r : Rep Γ F ι d v) (e : keyD d = some k) : v = kV k := by
  cases d <;> simp only [keyD] at e <;> first
    | (cases e; done)
    | (cases e; simp only [Rep] at r; rw [r]; rfl)
theorem keysD_V {F : Hp} {ι : List Addr} : ∀ {ds : List D} {ps : List (V × V)} {ks : List Key}, RepL Γ F ι ds (ps.map (·.1)) → keysD ds = some ks → ∃ kvs : List (Key × V), ps = kvs.map (fun kv => (kV kv.1, kv.2)) ∧ kvs.map (·.1) = ks ∧ kvs.map (·.2) = ps.map (·.2)
  | [], ps, ks, r, e => by
    simp only [RepL, List.map_eq_nil_iff] at r
    cases e
    exact ⟨[], by rw [r]; rfl, rfl, by rw [r]; rfl⟩
  | d :: ds, [], ks, r, e => by simp only [RepL, List.map_nil] at r; obtain ⟨_, _, h, _⟩ := r; cases h
  | d :: ds, p :: ps, ks, r, e => by
    simp only [RepL, List.map_cons] at r
    obtain ⟨x, xs, h, r1, r2⟩ := r
    cases h
    simp only [keysD, Option.bind_eq_some_iff, Option.map_eq_some_iff] at e
    obtain ⟨k, e1, ks', e2, rfl⟩ := e
    obtain ⟨kvs, h1, h2, h3⟩ := keysD_V r2 e2
    refine ⟨(k, p.2) :: kvs, ?_, by rw [List.map_cons, h2], by rw [List.map_cons, List.map_cons, h3]⟩
    rw [List.map_cons, ← h1, ← keyD_V r1 e1]
/-- keys all different -/
def mDisp (r : DPr) : DM := fun σ M => match r σ M with
  | .ok p M1 => match keysD p.1 with
    | some ks => if ks.Nodup ∧ ks.length ≤ 15 then .ok (.dic ks p.2) M1 else .stuck
    | none => .stuck
  | _ => .stuck
theorem putK_new {kvs : List (Key × V)} {k : Key} {v : V} (h : k ∉ kvs.map (·.1)) : putK kvs k v = kvs ++ [(k, v)] := by
  unfold putK
  rw [if_neg]
  intro e
  rw [List.any_eq_true] at e
  obtain ⟨kv, h1, h2⟩ := e
  exact h (List.mem_map.mpr ⟨kv, h1, of_decide_eq_true h2⟩)
theorem mergeK_nodup : ∀ (more kvs : List (Key × V)), (kvs.map (·.1) ++ more.map (·.1)).Nodup → mergeK kvs more = kvs ++ more
  | [], kvs, _ => by rw [List.append_nil]; rfl
  | p :: r, kvs, h => by
    show mergeK (putK kvs p.1 p.2) r = _
    rw [putK_new (fun hm => by
      rw [List.nodup_append] at h
      exact h.2.2 p.1 hm p.1 (by simp) rfl)]
    rw [mergeK_nodup r _ (by simpa using h)]
    simp
theorem de_disp {ks : List (Option Expr)} {vs : List Expr} {r : DPr} (h : DPs X Γ pos ks vs r) (hall : ks.all (·.isSome) = true) (hl : ks.length = vs.length) (h0 : ks ≠ []) (h15 : ks.length ≤ 15) : DE X Γ W (.Dict ks vs pos) (mDisp r) := by
  obtain ⟨trs, h1, h2⟩ := h
  refine PE.imp (pe_disp h1 hall hl h0 h15) fun σ H Q ⟨F, P, ι, M, σd, n, p⟩ => ?_
  intro a ha
  have hPa := n.st.freshP ha
  unfold mDisp at p
  split at p
  · rename_i pp M1 er
    split at p
    · rename_i ks' ek
      split at p
      · rename_i hn
        refine h2 F (upd P a (.dK [])) ι M σd σ _ _ pp M1 ⟨n.st.pin ha dK_plain, n.sl⟩ er fun ps H' F' ι' x n' ra rb => ?_
        obtain ⟨kvs, e1, e2, e3⟩ := keysD_V ra ek
        refine ⟨n'.st.pr a _ upd_same, kvs, e1, by rw [← List.length_map (f := (·.1)), e2]; exact hn.2, ?_⟩
        rw [mergeK_nodup kvs [] (by simpa [e2] using hn.1), List.nil_append]
        obtain ⟨s3, x3⟩ := (n'.st.repin (o' := .dK kvs) dK_plain).freeze hPa
        refine p _ _ _ ι' (x.trans x3) s3 ?_
        simp only [Rep]
        exact ⟨a, kvs, rfl, .inl upd_same, e2, RepL.ext x3 _ _ (by rw [e3]; exact rb)⟩
      · exact p.elim
    · exact p.elim
  · exact p.elim
/-- {} that will change -/
def mNewD : DM := fun _ M => .ok (.obj M.length) (M ++ [.dic [] []])
theorem de_newD : DE X Γ W (.Dict [] [] pos) mNewD :=
  PE.imp pe_dnewK fun σ H Q ⟨F, P, ι, M, σd, n, p⟩ => fun a ha => by
    have x : Ext F ι F (ι ++ [a]) := ⟨fun _ _ e => e, [a], rfl⟩
    refine p _ _ F (ι ++ [a]) x (n.st.push ha (o := .dK []) ⟨[], rfl, rfl, RepL.nil⟩) ?_
    simp only [Rep]
    exact ⟨a, by rw [← n.st.len, List.getElem?_append_right (Nat.le_refl _)]; simp, rfl⟩
/-- {} that stays -/
theorem de_nilD : DE X Γ W (.Dict [] [] pos) (mC (.dic [] [])) :=
  PE.imp pe_dnewK fun σ H Q ⟨F, P, ι, M, σd, n, p⟩ => fun a ha => by
    refine p _ _ _ ι (ext_upd (n.st.freshF ha)) (n.st.laid ha (.dK [])) ?_
    simp only [Rep]
    exact ⟨a, [], rfl, .inl upd_same, rfl, RepL.nil⟩
def mGet2 (md mk mv : DM) : DM := fun σ M => (md σ M).bind fun d M1 => match asDic M1 d with
  | some _ => (mk σ M1).bind fun k M2 => (mv σ M2).bind fun v M3 => match asDic M3 d, k with
    | some p, .str l => .ok ((lookD (.inr (txt l)) p.1 p.2).getD v) M3
    | _, _ => .stuck
  | none => .stuck
theorem de_get2 (g : Ok X Γ) {o e f : Expr} {apos cpos : Pos} {md mk mv : DM} (ho : DE X Γ W o md) (he : DE X Γ W e mk) (hf : DE X Γ W f mv) (m : M2 X o "get" apos e f cpos) : DE X Γ W (.Call (.Attribute o "get" apos) [e, f] [] cpos) (mGet2 md mk mv) :=
  PE.imp (pe_get2 (by have := g.u; omega) ho he hf m) fun σ H Q ⟨F, P, ι, M, σd, n, p⟩ => ⟨F, P, ι, M, σd, n, Post.seq p fun d M1 v H1 F1 ι1 er x1 s1 r1 p1 => by
    split at p1
    · rename_i p0 e0
      obtain ⟨a, kvs, ev, ha, _, _⟩ := asDic_at s1 r1 e0
      refine ⟨⟨a, kvs, ev, by rw [g.k, g.w]; exact ha⟩, F1, P, ι1, M1, σd, ⟨s1, n.sl.ext x1⟩, Post.seq p1 fun k M2 y H2 F2 ι2 er2 x2 s2 r2 p2 => ⟨F2, P, ι2, M2, σd, ⟨s2, (n.sl.ext x1).ext x2⟩, Post.seq p2 fun w M3 z H3 F3 ι3 er3 x3 s3 r3 p3 => ?_⟩⟩
      split at p3
      · rename_i p4 l e4
        obtain ⟨a, kvs, ev, ha, ek, ra⟩ := asDic_at s3 (Rep.ext (x2.trans x3) _ _ r1) e4
        have r2' := Rep.ext x3 _ _ r2
        simp only [Rep] at r2'
        refine ⟨a, kvs, txt l, ev, r2', by rw [g.k, g.w]; exact ha, p3.here s3 ?_⟩
        have hl := lookD_V (k := .inr (txt l)) ek ra
        cases h1 : lookD (.inr (txt l)) p4.1 p4.2 <;> cases h2 : valV kvs (.inr (txt l)) <;> rw [h1, h2] at hl <;> first
          | exact r3
          | exact hl
          | exact hl.elim
      · exact p3.elim
    · exact p1.elim⟩
end
end MT

set_option maxRecDepth 100000
/-! MtSup: __init__ of an own exception: super().__init__(text), then the fields. -/
namespace MT
open PySem PySem.Spec PyProof.Rows L2 NdefX
section
open PySem.W
variable {P : Program} {w : World} {A : Around} {E : Value → Shared → Prop} {h : Heap} {g : Array GenState} {d : Drawn} {t : Nat} {os : OsState}
/-- the bound built-in __init__, called -/
theorem call_wrapped {nm q : Str} {C N : Addr} {bs bm : List Value} {hdct : Bool} {sn : List Str} {sub : List Value} {ab : Bool} {col : Option Bool} {dd : Option Addr} {k0 k1 k2 k3 k5 : Option Value} {B newId initId : String} {bmB : List Value} (FB : ExcBaseFacts B newId initId bmB)
    {u e t0 : Addr} {rest : List Value} {Q : Value → Shared → Prop} (hC : h.get? C = some (excClassObj nm q C N bs bm hdct sn sub ab col dd k0 k1 k2 k3 k5 newId)) (he : h.get? e = some (HandSPX.excO C t0)) (hu : h.get? u = some (kxs_mw initId e))
    (hrest : rest.length ≤ sizeLine) (hq : ∀ h' t1, (∀ b o, b ≠ e → h.get? b = some o → h'.get? b = some o) → h'.get? e = some (HandSPX.excO C t1) → Q .none ⟨h', g, d, t, os⟩) :
    wpAny (model P w) A (call (.ref u) rest) Q E ⟨h, g, d, t, os⟩ := by
  refine wpAny_call (codeAny_of_tree (?_ : wpAny _ A.in1 (callAny (.ref u) ⟨rest, []⟩) _ _ _))
  unfold callAny
  refine wpAny_bind (wpAny_load hu ?_)
  have hk : (Value.type "method-wrapper" == Value.type "method" || Value.type "method-wrapper" == Value.type "builtin_function_or_method" || Value.type "method-wrapper" == Value.type "method-wrapper") = true := by decide
  simp only [kxs_mw, hk, if_true]
  refine W.KFB.if_so (by decide) (wpAny_bind (check_bound_init FB.toExcCallFacts hC he rfl (wpAny_bind (wpAny_pure (wpAny_pure ?_)))))
  exact ⟨plainId_quiet FB.init.plain _, codeAny_builtin FB.initEntry (exc_init_tree (cls := .ref C) (t0 := t0) (dv := none) (c2 := .none) (c3 := .none) (b4 := .bool false) he hrest fun h' a b c => hq h' _ a b)⟩
end
section
variable {CX : CXT} {P : Program} {w : World} {K : PySem.W.Frag} {mg : Str → Option Value} {base : Heap}
/-- what is looked up for super() in the def at f -/
structure SupC (P : Program) (K : PySem.W.Frag) (mg : Str → Option Value) (cda cc D : Addr) (scope : Scope) : Prop where
  code : ∃ ccl cdd vs ccs file tf, K.lookup cda = some ⟨ccl, cdd, .fields vs, ccs⟩ ∧ vs[2]? = some (.str file tf) ∧ ((P.main.file : Str) == file) = true
  cell : ∃ cl cld csl, K.lookup cc = some ⟨cl, cld, .cell (some (.ref D)), csl⟩
  cls : ∃ cd, PySem.W.clsIn K D = some cd
  ops : PySem.W.nsIn K cStatics "thirdparty.any" = some none
  sup : mg "super" = none
  ks : scope.names.lookup ("super" : Str) = some .globalImplicit
  top : (P.main.scope.names.lookup ("super" : Str)).isSome = false
  boot : bootBuiltins "super" = some (.type "super")
/-- what is asked of the class C of the thing that is made -/
structure SupO (K : PySem.W.Frag) (C D : Addr) : Prop where
  ex : OexC K C
  next : PySem.W.ks_superIn K C D "__init__" = some (some (.builtin "ValueError.__init__"))
  own : PySem.W.mroIn K C (.ref D) = some true
  ve : PySem.W.subIn K (.ref C) (.type "ValueError") = some true
abbrev supSt (p0 p1 p2 p3 p4 ap : Pos) (z : Str) (j : Nat) : Stmt := .Expr (.Call (.Attribute (.Call (.Name "super" p0) [] [] p1) "__init__" ap) [.Constant (.str z) j p2] [] p3) p4
theorem sup_run {N : List Str} {name qual : Str} {params : Arguments} {rest : List Stmt} {scope : Scope} {f cda cc D C a : Addr} {p0 p1 p2 p3 p4 ap : Pos} {z : Str} {j : Nat} {ar : Arg} {A : Around} {outer : List Env} {s0 s : Shared} {H0 H : Hp} {E0 : XK} {σ : L2.St} {Q : Flow → Shared → Prop}
    {oc od osl dV kV doc pm an ct} (lk : K.lookup f = some ⟨oc, od, .func (PySem.W.ksFn name qual params (supSt p0 p1 p2 p3 p4 ap z j :: rest) scope dV kV doc pm an (.ref cda) ct cc), osl⟩)
    (hp : (params.posonlyargs ++ params.args).head? = some ar) (hi : N[0]? = some ar.arg) (hka : scope.names.lookup ar.arg = some .local) (hkc : scope.names.lookup ("__class__" : Str) = some .free) (c : SupC P K mg cda cc D scope) (o : SupO K C D)
    {pl : Sem Bool} (hin : ∀ L, interactive (PySem.W.ksEnv qual scope L f (.ref cda) cc) = false) (hsw : ∀ L, swapsWith (.Call (.Attribute (.Call (.Name "super" p0) [] [] p1) "__init__" ap) [.Constant (.str z) j p2] [] p3) none p4.line (PySem.W.ksEnv qual scope L f (.ref cda) cc) = pure false)
    (hev : ∀ L, eval (.Call (.Attribute (.Call (.Name "super" p0) [] [] p1) "__init__" ap) [.Constant (.str z) j p2] [] p3) (PySem.W.ksEnv qual scope L f (.ref cda) cc) = (do
      let ov ← attributeBase (.Call (.Name "super" p0) [] [] p1) "__init__" (PySem.W.ksEnv qual scope L f (.ref cda) cc) (eval (.Call (.Name "super" p0) [] [] p1) (PySem.W.ksEnv qual scope L f (.ref cda) cc))
      standAt ap.atName
      let (f', first) ← holding [ov] (getMethod ov "__init__" pl)
      callWith p3 f' first (backTo p3 (starEach [.Constant (.str z) j p2] (PySem.W.ksEnv qual scope L f (.ref cda) cc))) []))
    (hst : ∀ L, backTo p3 (starEach [.Constant (.str z) j p2] (PySem.W.ksEnv qual scope L f (.ref cda) cc)) = [(false, eval (.Constant (.str z) j p2) (PySem.W.ksEnv qual scope L f (.ref cda) cc))])
    (I : Inv (ncx CX P w K mg base N ⟨name, qual, params, supSt p0 p1 p2 p3 p4 ap z j :: rest, scope, [("__class__", cc)], cda⟩ f A outer s0 H0 E0) [] σ H s) (hs : σ[0]? = some (some (.ref a))) (ha : H a = some (exo a C none))
    (k : ∀ s', Inv (ncx CX P w K mg base N ⟨name, qual, params, supSt p0 p1 p2 p3 p4 ap z j :: rest, scope, [("__class__", cc)], cda⟩ f A outer s0 H0 E0) [] σ H s' → Q .next s') {E : Value → Shared → Prop} :
    _root_.PySem.wpAt (model P w) (A.deeper (PySem.W.ksEnv qual scope s0.heap.objs.size f (.ref cda) cc)) (.func (supSt p0 p1 p2 p3 p4 ap z j :: rest) (PySem.W.ksEnv qual scope s0.heap.objs.size f (.ref cda) cc))
      (exec (supSt p0 p1 p2 p3 p4 ap z j) (PySem.W.ksEnv qual scope s0.heap.objs.size f (.ref cda) cc)) Q E s := by
  obtain ⟨ccl, cdd, vs, ccs, file, tf, hcode, hvs, hfile⟩ := c.code
  obtain ⟨cl, cld, csl, hcell⟩ := c.cell
  obtain ⟨cdD, hD⟩ := c.cls
  obtain ⟨nm, q, N', bs, bm, sn, sub, ab, col, dd, k0, k1', k2, k3, k5, hC, hbm⟩ := o.ex.cls
  have X : K.In s.heap := I.kIn
  obtain ⟨t1, hat⟩ := exo_at I.hok ha
  obtain ⟨m, hn, hlo⟩ := I.loc
  obtain ⟨u, ru, lu⟩ := hlo 0 _ _ hi hs (.inl hka)
  obtain rfl : u = Value.ref a := ru
  have hm : m ar.arg = some (.ref a) := by
    rcases lu with ⟨_, y⟩ | ⟨y, _⟩
    · exact y
    · have y : scope.names.lookup ar.arg = some .cell ∨ scope.names.lookup ar.arg = some .free := y
      rw [hka] at y
      rcases y with y | y <;> cases y
  obtain ⟨oD, hD1, hD2⟩ : ∃ oD, s.heap.get? D = some oD ∧ oD.data = .cls cdD := by
    unfold PySem.W.clsIn at hD
    split at hD
    · rename_i ho
      cases hD
      exact ⟨_, X _ _ ho, rfl⟩
    · cases hD
  have hCl : PySem.W.clsIn K C = some { name := nm, bases := bs, mro := .ref C :: bm, ns := N', qualname := q, hasDict := true, slotNames := sn, subclasses := sub, abstract := ab, collection := col, hasDel := false } := by
    unfold PySem.W.clsIn
    rw [hC]
  have Ia : PySem.W.InstAt s.heap a ({ cls := .ref C, dict := none, data := .fields #[.ref t1, .none, .none, .none, .bool false, .none] } : Obj) C none := ⟨hat, rfl, rfl, trivial⟩
  refine PySem.ks_wpAt_Expr_any ?_ (hin _) (hsw _)
  refine PySem.ks_wpAt_MethodCall ?_ (hev _)
  refine PySem.ks_wpAt_super_base (env := PySem.W.ksEnv qual scope s0.heap.objs.size f (.ref cda) cc) c.ks hkc (by decide) rfl (X _ _ lk) rfl hp rfl (X _ _ hcode) rfl hvs hfile c.top ?_
  obtain ⟨mb, b1, b2⟩ := I.mod.blt
  refine PySem.W.ks_loadName_global I.ok.kind c.ks (Calls.loadGlobal_builtin (env := PySem.W.ksEnv qual scope s0.heap.objs.size f (.ref cda) cc) (I.mod.glob.keeps I.bk) c.sup (b1.keeps I.bk) ((b2 "super" (by decide)).trans c.boot) ⟨rfl, ?_⟩)
  refine wpAny_loadName_free I.ok.kind hkc rfl ⟨_, X _ _ hcell, rfl⟩ ?_
  refine wpAny_loadName_local I.ok.kind hka hn hm ?_
  refine PySem.ks_wpAny_isType_cls hD1 hD2 ⟨rfl, ?_⟩
  obtain ⟨hh, g, d, t, os⟩ := s
  refine PySem.ks_wpAny_call_super hD1 hD2 Ia.at_ Ia.cls (fun c e => by cases e) (PySem.W.looks_mroIn X o.own) (fun h1 e1 k1 => ?_)
  have J1 : Inv (ncx CX P w K mg base N ⟨name, qual, params, supSt p0 p1 p2 p3 p4 ap z j :: rest, scope, [("__class__", cc)], cda⟩ f A outer s0 H0 E0) [] σ H ⟨h1, g, d, t, os⟩ := I.kept k1
  have ho := o.next
  unfold PySem.W.ks_superIn at ho
  rw [hCl] at ho
  have X1 : K.In h1 := J1.kIn
  refine PySem.W.kxs_getMethod PySem.W.kxs_ValueError (l₀ := .ref C :: bm) e1 (PySem.W.looks_opaque X1 c.ops) ?_ rfl X1 ho ?_ (PySem.W.ks_ne X Ia hCl) (by decide) ?_
  · exact fun A Q E s k q => wpAny_bind ((PySem.W.looks_clsIn X1 hCl) A _ E s k (wpAny_pure q))
  · have I1 : PySem.W.InstAt h1 a ({ cls := .ref C, dict := none, data := .fields #[.ref t1, .none, .none, .none, .bool false, .none] } : Obj) C none := ⟨k1 _ _ hat, rfl, rfl, trivial⟩
    exact I1.type.andThen (PySem.W.looks_subIn X1 o.ve)
  have J2 : Inv (ncx CX P w K mg base N ⟨name, qual, params, supSt p0 p1 p2 p3 p4 ap z j :: rest, scope, [("__class__", cc)], cda⟩ f A outer s0 H0 E0) [] σ H ⟨h1.push (PySem.W.kxs_mw "ValueError.__init__" a), g, d, t + 1, os⟩ :=
    J1.kept (t' := t + 1) fun b o e => Heap.get?_push_of_some _ e
  have hu : (h1.push (PySem.W.kxs_mw "ValueError.__init__" a)).get? h1.objs.size = some (PySem.W.kxs_mw "ValueError.__init__" a) := Heap.get?_push_size _ rfl
  show wpAny _ _ (callWith p3 (.ref h1.objs.size) [] (backTo p3 (starEach [.Constant (.str z) j p2] (PySem.W.ksEnv qual scope s0.heap.objs.size f (.ref cda) cc))) []) _ _ _
  rw [hst]
  refine PySem.W.kxs_callWith (i := "ValueError.__init__") (x := a) rfl (Calls.evalArgs_plain (Calls.spliced_cons ?_))
  refine Calls.Constant_str (Calls.spliced_nil ⟨hu, ?_⟩)
  have hC2 : (h1.push (PySem.W.kxs_mw "ValueError.__init__" a)).get? C = some (excClassObj nm q C N' bs bm true sn sub ab col dd k0 k1' k2 k3 k5 "ValueError.__new__") := J2.kIn _ _ hC
  refine call_wrapped F.excBase_ValueError hC2 (Heap.get?_push_of_some _ (k1 _ _ hat)) hu (by rw [sizeLine_eq]; show 1 ≤ 16777216; decide) fun h3 t3 kp hx => ?_
  have J3 := J2.write (t' := t + 1 + 1) (x := a) (e := a) (o := exo a C none) (by rw [ha]; exact True.intro) (.inl rfl) kp ⟨_, hx⟩ (exo_ok hx)
  have eu : upd H a (exo a C none) = H := funext fun b => by
    by_cases hb : b = a
    · rw [hb, upd_same, ha]
    · rw [upd_ne hb]
  rw [eu] at J3
  exact k _ J3
/-- the def: super().__init__(..), then what is left -/
theorem fn_sup {N ps : List Str} {name qual : Str} {params : Arguments} {rest : List Stmt} {scope : Scope} {f cda cc D : Addr} {p0 p1 p2 p3 p4 ap : Pos} {z : Str} {j k : Nat} {ar : Arg} {sp : Sp} {oc od osl dV kV doc pm an ct}
    (lk : K.lookup f = some ⟨oc, od, .func (PySem.W.ksFn name qual params (supSt p0 p1 p2 p3 p4 ap z j :: rest) scope dV kV doc pm an (.ref cda) ct cc), osl⟩) (hcd : PySem.W.codeIn K (.ref cda) qual = true) (S : NScope N ps ["__class__"] scope)
    (hp : (params.posonlyargs ++ params.args).head? = some ar) (hi : N[0]? = some ar.arg) (hka : scope.names.lookup ar.arg = some .local) (c : SupC P K mg cda cc D scope)
    {pl : Sem Bool} (hin : ∀ L, interactive (PySem.W.ksEnv qual scope L f (.ref cda) cc) = false) (hsw : ∀ L, swapsWith (.Call (.Attribute (.Call (.Name "super" p0) [] [] p1) "__init__" ap) [.Constant (.str z) j p2] [] p3) none p4.line (PySem.W.ksEnv qual scope L f (.ref cda) cc) = pure false)
    (hev : ∀ L, eval (.Call (.Attribute (.Call (.Name "super" p0) [] [] p1) "__init__" ap) [.Constant (.str z) j p2] [] p3) (PySem.W.ksEnv qual scope L f (.ref cda) cc) = (do
      let ov ← attributeBase (.Call (.Name "super" p0) [] [] p1) "__init__" (PySem.W.ksEnv qual scope L f (.ref cda) cc) (eval (.Call (.Name "super" p0) [] [] p1) (PySem.W.ksEnv qual scope L f (.ref cda) cc))
      standAt ap.atName
      let (f', first) ← holding [ov] (getMethod ov "__init__" pl)
      callWith p3 f' first (backTo p3 (starEach [.Constant (.str z) j p2] (PySem.W.ksEnv qual scope L f (.ref cda) cc))) []))
    (hst : ∀ L, backTo p3 (starEach [.Constant (.str z) j p2] (PySem.W.ksEnv qual scope L f (.ref cda) cc)) = [(false, eval (.Constant (.str z) j p2) (PySem.W.ksEnv qual scope L f (.ref cda) cc))])
    (len : ∀ vs H Q E, sp vs H Q E → vs.length = ps.length)
    (hbody : ∀ (A : Around) (outer : List Env) (s : Shared) (H : Hp) (vs : List V) (Q : VK) (E : XK), Room k (A.deeper (PySem.W.ksEnv qual scope s.heap.objs.size f (.ref cda) cc)) → sp vs H Q E →
      ∃ a C r, vs = .ref a :: r ∧ SupO K C D ∧ H a = some (exo a C none) ∧
        ∃ t, PSs (ncx CX P w K mg base N ⟨name, qual, params, supSt p0 p1 p2 p3 p4 ap z j :: rest, scope, [("__class__", cc)], cda⟩ f A outer s H E) rest t ∧ t { nx := fun _ H' => Q .non H', rt := Q } (startF N vs [none]) H) :
    FnOk P w K mg base CX (k + 1) f (PySem.W.ksFn name qual params (supSt p0 p1 p2 p3 p4 ap z j :: rest) scope dV kV doc pm an (.ref cda) ct cc) ps sp := by
  refine ⟨len, fun A outer s H args us vs Q E hr e0 hb r hsp => ?_⟩
  have hl := len _ _ _ _ hsp
  have KX : K.In s.heap := e0.mod.kin.keeps fun b o e => (e0.bs b o e).1
  have lim : s.heap.NoLimit := e0.mod.nolimit.keeps fun b o e => (e0.bs b o e).1
  obtain ⟨cl, cld, csl, hcell⟩ := c.cell
  obtain ⟨a, C, r', ev, o, ha, t, ht, hq⟩ := hbody A outer s H vs Q E (hr.deeper _) hsp
  have hfr : ("__class__" : Str) ∈ (["__class__"] : List Str) := List.mem_singleton.mpr rfl
  refine PySem.ks_codeAny_call_defAt (fd := PySem.W.ksFn name qual params (supSt p0 p1 p2 p3 p4 ap z j :: rest) scope dV kV doc pm an (.ref cda) ct cc) (body := supSt p0 p1 p2 p3 p4 ap z j :: rest) (binds := ps.zip us) hr.depth (KX _ _ lk) rfl lim (PySem.W.codeRec_of KX hcd) rfl hb S.nocell
    (fun y hy => S.par y.1 (List.of_mem_zip (show (y.1, y.2) ∈ ps.zip us from hy)).1) (fun h₁ hns kp => ?_) S.co S.gen S.kind
  have hC : CellsAt ([("__class__", cc)] : List (Str × Addr)) ["__class__"] [none] s.heap H := by
    have hb' : base.get? cc = some ⟨cl, cld, .cell (some (.ref D)), csl⟩ := e0.mod.kin _ _ hcell
    have key : ∀ y c', ([("__class__", cc)] : List (Str × Addr)).lookup y = some c' → y = ("__class__" : Str) ∧ c' = cc := fun y c' e => by
      have hm := PySem.mem_of_lookup e
      rw [List.mem_singleton] at hm
      cases hm
      exact ⟨rfl, rfl⟩
    refine ⟨rfl, fun y c' e => ?_, fun x y c' e1 e2 => (key x c' e1).1.trans (key y c' e2).1.symm, fun i y e => ?_⟩
    · obtain ⟨_, rfl⟩ := key y c' e
      exact ⟨(e0.bs _ _ hb').2, _, _, (e0.bs _ _ hb').1, rfl⟩
    · have hy : y = ("__class__" : Str) := by
        have := List.mem_of_getElem? e
        rw [List.mem_singleton] at this
        exact this
      subst hy
      refine ⟨cc, by simp [List.lookup], fun v ev => ?_⟩
      cases i with
      | zero => simp at ev
      | succ i => simp at ev
  have I : Inv (ncx CX P w K mg base N ⟨name, qual, params, supSt p0 p1 p2 p3 p4 ap z j :: rest, scope, [("__class__", cc)], cda⟩ f A outer s H E) [] (startF N vs [none]) H { s with heap := h₁, toks := s.toks + (ps.zip us).length } :=
    inv_startN (F := ⟨name, qual, params, supSt p0 p1 p2 p3 p4 ap z j :: rest, scope, [("__class__", cc)], cda⟩) S hr.hd e0 hl r hC hns kp
  refine PySem.ks_wpAt_execs_cons ?_
  refine sup_run lk hp hi hka (S.frk _ hfr) c o hin hsw hev hst I ?_ ha fun s' J => ?_
  · rw [ev]
    rfl
  · refine wpAt_of_wpAny (wpAny_mono (ht.run [] s' _ H _ J hq) (fun fl s' hs => ?_) fun e s' hs => hs)
    have fin : ∀ {σ' : L2.St} {H' : Hp} {v : V} {u : Value}, Inv (ncx CX P w K mg base N ⟨name, qual, params, supSt p0 p1 p2 p3 p4 ap z j :: rest, scope, [("__class__", cc)], cda⟩ f A outer s H E) [] σ' H' s' → L2.RelV v u → Q v H' → CE outer P w H s Q u s' :=
      fun {σ' H' v u} J rv q => ⟨v, H', J.os, J.bare, J.base, J.hok, rv, q⟩
    cases fl with
    | ret u =>
      obtain ⟨v, σ', H', J, rv, q⟩ := hs
      exact fin J rv q
    | next =>
      obtain ⟨σ', H', J, q⟩ := hs
      exact fin (v := V.non) (u := Value.none) J rfl q
    | brk => exact (hs.elim fun _ h => h.elim fun _ h => h.2.elim)
    | cont => exact (hs.elim fun _ h => h.elim fun _ h => h.2.elim)
end
end MT

set_option maxRecDepth 100000
/-! MtExc: own exceptions made and raised. -/
namespace MT
open PySem PySem.Spec PyProof.Rows L2 NdefX
/-- what __init__ of C promises: the fields ns hold what was handed in -/
def spI (K : PySem.W.Frag) (D : Addr) (ns : List Str) : Sp := fun vs H Q _ => ∃ a C ws, vs = .ref a :: ws ∧ ws.length = ns.length ∧ SupO K C D ∧ H a = some (exo a C none) ∧ (∀ n ∈ ns, PySem.W.findIn K (.ref C) n = some none) ∧
  ∀ d, H d = none → d ≠ a → Q .non (upd (upd H d (exd d (ns.zip ws).reverse)) a (exo a C (some d)))
theorem spI_len {K : PySem.W.Frag} {D : Addr} {ns ps : List Str} (h : ps.length = ns.length + 1) : ∀ vs H Q E, spI K D ns vs H Q E → vs.length = ps.length := fun vs H Q E ⟨a, C, ws, e, l, _⟩ => by
  rw [e, List.length_cons, l, h]
section
variable {X : Cx} {K : PySem.W.Frag} {D : Addr} {s y z fl fl2 : Str} {q1 q2 q3 q4 r1 r2 r3 r4 : Pos}
/-- self.f = y as the only statement -/
theorem init_rest1 {vs : List V} {H : Hp} {Q : VK} {E : XK} (hN : X.N[0]? = some s) (hN1 : X.N[1]? = some y) (hK : X.K = K) (hvs : Vis X.env.scope s) (hvy : Vis X.env.scope y) (hds : (s == ("__debug__" : Str)) = false) (hcs : (s == ("__classdict__" : Str)) = false) (hdy : (y == ("__debug__" : Str)) = false) (hcy : (y == ("__classdict__" : Str)) = false)
    (hsw : swapsWith (.Name y q3) (some (.Attribute (.Name s q1) fl q2)) q4.line X.env = pure false) (h : spI K D [fl] vs H Q E) :
    ∃ a C r, vs = .ref a :: r ∧ SupO K C D ∧ H a = some (exo a C none) ∧ ∃ t, PSs X [.Assign [.Attribute (.Name s q1) fl q2] (.Name y q3) q4] t ∧ ∀ t', t' = startF X.N vs [none] → t { nx := fun _ H' => Q .non H', rt := Q } t' H := by
  obtain ⟨a, C, ws, rfl, hl, o, ha, hf, q⟩ := h
  obtain ⟨v, rfl⟩ : ∃ v, ws = [v] := List.length_eq_one_iff.mp hl
  refine ⟨a, C, [v], rfl, o, ha, _, pss_one (ps_ost (pe_var hN hvs hds hcs) (pe_var hN1 hvy hdy hcy) hsw), fun t' et => ?_⟩
  subst et
  refine ⟨v, rfl, .ref a, rfl, a, C, rfl, by rw [hK]; exact o.ex, by rw [hK]; exact hf fl (by simp), .inl ⟨ha, fun dx n1 n2 => q dx n1 n2⟩⟩
/-- self.f = y, self.g = z -/
theorem init_rest2 {vs : List V} {H : Hp} {Q : VK} {E : XK} (hN : X.N[0]? = some s) (hN1 : X.N[1]? = some y) (hN2 : X.N[2]? = some z) (hK : X.K = K) (hvs : Vis X.env.scope s) (hvy : Vis X.env.scope y) (hvz : Vis X.env.scope z) (hds : (s == ("__debug__" : Str)) = false) (hcs : (s == ("__classdict__" : Str)) = false) (hdy : (y == ("__debug__" : Str)) = false) (hcy : (y == ("__classdict__" : Str)) = false)
    (hdz : (z == ("__debug__" : Str)) = false) (hcz : (z == ("__classdict__" : Str)) = false) (hsw : swapsWith (.Name y q3) (some (.Attribute (.Name s q1) fl q2)) q4.line X.env = pure false) (hsw2 : swapsWith (.Name z r3) (some (.Attribute (.Name s r1) fl2 r2)) r4.line X.env = pure false) (h : spI K D [fl, fl2] vs H Q E) :
    ∃ a C r, vs = .ref a :: r ∧ SupO K C D ∧ H a = some (exo a C none) ∧ ∃ t, PSs X [.Assign [.Attribute (.Name s q1) fl q2] (.Name y q3) q4, .Assign [.Attribute (.Name s r1) fl2 r2] (.Name z r3) r4] t ∧ ∀ t', t' = startF X.N vs [none] → t { nx := fun _ H' => Q .non H', rt := Q } t' H := by
  obtain ⟨a, C, ws, rfl, hl, o, ha, hf, q⟩ := h
  obtain ⟨v, w, rfl⟩ : ∃ v w, ws = [v, w] := by
    match ws, hl with
    | [v, w], _ => exact ⟨v, w, rfl⟩
  refine ⟨a, C, [v, w], rfl, o, ha, _, pss_cons (ps_ost (pe_var hN hvs hds hcs) (pe_var hN1 hvy hdy hcy) hsw) (pss_one (ps_ost (pe_var hN hvs hds hcs) (pe_var hN2 hvz hdz hcz) hsw2)), fun t' et => ?_⟩
  subst et
  refine ⟨v, rfl, .ref a, rfl, a, C, rfl, by rw [hK]; exact o.ex, by rw [hK]; exact hf fl (by simp), .inl ⟨ha, fun dx n1 n2 => ?_⟩⟩
  refine ⟨w, rfl, .ref a, rfl, a, C, rfl, by rw [hK]; exact o.ex, by rw [hK]; exact hf fl2 (by simp), .inr ⟨dx, [(fl, v)], upd_same, by rw [upd_ne n2, upd_same], by show 1 ≤ 900; decide, ?_⟩⟩
  have e : upd (upd (upd H dx (exd dx [(fl, v)])) a (exo a C (some dx))) dx (exd dx [(fl2, w), (fl, v)]) = upd (upd H dx (exd dx [(fl2, w), (fl, v)])) a (exo a C (some dx)) := funext fun b => by
    by_cases hb : b = dx
    · subst hb
      rw [upd_same, upd_ne n2, upd_same]
    · rw [upd_ne hb]
      by_cases hc : b = a
      · subst hc
        rw [upd_same, upd_same]
      · rw [upd_ne hc, upd_ne hb, upd_ne hc, upd_ne hb]
  show Q .non (upd (upd (upd H dx (exd dx [(fl, v)])) a (exo a C (some dx))) dx (exd dx [(fl2, w), (fl, v)]))
  rw [e]
  exact q dx n1 n2
end
/-! ### made -/
section
variable {X : Cx} {pins : List (Addr × Obj)} {σ : L2.St} {H1 H2 : Hp} {Q : XK}
theorem mk_endN {hp hp2 h2 : Heap} {g1 g2 : Array GenState} {d1 d2 : Drawn} {t1 t2 : Nat} {os1 os2 : OsState} {a C d : Addr} {fs : List (Str × V)} (T : Raises X (.ref C)) (I1 : Inv X pins σ H1 ⟨hp, g1, d1, t1, os1⟩) (ha : hp.objs.size ≤ a) (k : ∀ b o, hp.get? b = some o → hp2.get? b = some o)
    (un : Un (frs X.stack) [] (upd H1 a (exo a C none)) H2 hp2 h2) (hok : HOk X.prog X.w H2 h2) (ho : os2 = os1) (hb : AllBare g2) (ea : H2 a = some (exo a C (some d))) (ed : H2 d = some (exd d fs)) (hd1 : H1 d = none) (q : Q (.ref C) (some d) (upd (del H2 a) d (.xd fs))) :
    L2N.MkP X pins σ Q (.ref a) ⟨h2, g2, d2, t2, os2⟩ := by
  obtain ⟨t0, G, J, kG, ge, hoe, na⟩ := mk_end0 (d2 := d2) (t2 := t2) I1 ha k un hok ho hb ea ed hd1
  exact ⟨a, _, _, ⟨G, g2, d2, t2, os2⟩, _, .ref C, some d, rfl, J, kG, ge, hoe, ⟨rfl, rfl, fun vs e => by cases e; rfl⟩, rfl, rfl, na, rfl, hb, T, q⟩
theorem pmk_N {CX : CXT} {x : Str} {C fI : Addr} {k : Nat} {fd : FuncData} {ps : List Str} {sp : Sp} {e : Expr} {es : List Expr} {ta : TA} {p pos : Pos} (T : OexC X.K C) (iC : PySem.W.findIn X.K (.ref C) "__init__" = some (some (.ref fI))) (tI : PySem.W.typeIn X.K (.ref fI) = some (.type "function"))
    (F1 : FnOk X.prog X.w X.K X.mg X.base CX k fI fd ps sp) (hr : Room (k + 1) X.A) (hb : Binds X.K fd ps []) (hx : Passes CX X (fun _ _ _ => False)) (hg : Gl X x) (hm : X.mg x = some (.ref C)) (ha : PA X (e :: es) ta)
    (hdb : (x == ("__debug__" : Str)) = false) (he : starEach (e :: es) X.env = (false, eval e X.env) :: starEach es X.env) (hpl : (backTo pos (starEach es X.env)).any (·.1) = false) : L2N.PMk X (.Call (.Name x p) (e :: es) [] pos) (tMkO C sp [] ta) := by
  intro pins s σ H Q I h
  obtain ⟨nm, q, N, bs, bm, sn, sub, ab, col, dd, k0, k1, k2, k3, k5, hC, hbm⟩ := T.cls
  refine wpAny_Call_Name_kw (ld_glob I hg hm ?_ hdb)
  refine PySem.W.callWith_K (h₀ := X.base) I.ok.mod.kin T.kC (thn (ha.run pos pins s σ H _ I h) fun us s1 ⟨vs, H1, I1, r1, hz, q1⟩ => ⟨I1.kIn, (?_ : wpAny _ _ (call (.ref C) us) _ _ _)⟩) he hpl
  obtain ⟨hp, g, dr, tk, os⟩ := s1
  have sz : hp.objs.size ≤ hp.objs.size + 1 := Nat.le_succ _
  have hq := q1 (hp.objs.size + 1) (I1.hok.fresh sz)
  rw [List.append_nil] at hq
  have up : ∀ b o, hp.get? b = some o → ((hp.push (PySem.W.kdv_tup us)).push (PySem.HandSPX.excO C hp.objs.size)).get? b = some o := fun b o e => Heap.get?_push_of_some _ (Heap.get?_push_of_some _ e)
  have new : ((hp.push (PySem.W.kdv_tup us)).push (PySem.HandSPX.excO C hp.objs.size)).get? (hp.objs.size + 1) = some (PySem.HandSPX.excO C hp.objs.size) := by heap_get
  have I2 : Inv X pins σ (upd H1 (hp.objs.size + 1) (exo (hp.objs.size + 1) C none)) ⟨(hp.push (PySem.W.kdv_tup us)).push (PySem.HandSPX.excO C hp.objs.size), g, dr, tk, os⟩ :=
    I1.laid (t' := tk) (a := hp.objs.size + 1) (o := exo (hp.objs.size + 1) C none) (h' := (hp.push (PySem.W.kdv_tup us)).push (PySem.HandSPX.excO C hp.objs.size)) up sz (exo_ok new)
  have r2 : Vals (V.ref (hp.objs.size + 1) :: vs) (Value.ref (hp.objs.size + 1) :: us) := .cons rfl r1
  have hl : (Value.ref (hp.objs.size + 1) :: us).length = ps.length := by
    rw [← r2.length]
    exact F1.len _ _ _ _ hq
  have hus : us.length ≤ sizeLine := by
    rw [← Paired.length r1, sizeLine_eq]
    omega
  refine wpAny_call (PySem.HandSPX.call_own F.excBase_ValueError (fun Y => PySem.HandSPX.refsVE_contains Y bm hbm) (I1.kIn _ _ hC) (PySem.W.looks_findIn I1.kIn iC) (fun self => PySem.W.bind_fn I1.kIn self tI) hus
    (codeAny_mono (F1.run _ X.stack _ _ ⟨Value.ref (hp.objs.size + 1) :: us, []⟩ (Value.ref (hp.objs.size + 1) :: us) _ _ (fun _ _ _ => False) (hr.make C us []) (I2.env0.make C us []) (by
      have := hb ⟨(hp.push (PySem.W.kdv_tup us)).push (PySem.HandSPX.excO C hp.objs.size), g, dr, tk, os⟩ (Value.ref (hp.objs.size + 1) :: us) I2.kIn (by rw [List.append_nil]; exact hl)
      rw [List.append_nil] at this
      exact this) r2 hq) fun r s' hq' => ?_))
  cases r with
  | error er => exact hx pins σ _ _ er s' I2 hq'
  | ok fl =>
    cases fl with
    | ret u =>
      obtain ⟨v, H2, os2, bare2, un2, hok2, rv, ev, d, fs, ea, ed, hd1, q2⟩ := hq'
      subst ev
      obtain ⟨h2, g2, d2, t2, os'⟩ := s'
      exact ⟨rv, mk_endN (raises_own T.exC T.tyC) I1 sz up un2 hok2 os2 bare2 ea ed hd1 q2⟩
    | next => exact hq'.elim
    | brk => exact hq'.elim
    | cont => exact hq'.elim
end
/-! ### raised -/
/-- at x stands the exception class number c, with n fields handed in -/
structure ExcC (X : Cx) (Γ : Gam) (x : Str) (c n : Nat) : Prop where
  ex : ∃ fI k fd ps D ns, ns.length = n ∧ Γ.fld c = ns.reverse ∧ SupO X.K (Γ.cls c) D ∧ (∀ y ∈ ns, PySem.W.findIn X.K (.ref (Γ.cls c)) y = some none) ∧ PySem.W.findIn X.K (.ref (Γ.cls c)) "__init__" = some (some (.ref fI)) ∧ PySem.W.typeIn X.K (.ref fI) = some (.type "function") ∧
    FnOk X.prog X.w X.K X.mg X.base (L2N.CX X.prog X.w) k fI fd ps (spI X.K D ns) ∧ Room (k + 1) X.A ∧ Binds X.K fd ps [] ∧ X.mg x = some (.ref (Γ.cls c))
def sRaise (c n : Nat) (a : DA) : DSt := fun σ M => (a σ M).out σ fun ds M' => if ds.length = n ∧ n ≤ 1000 then .exc c ds.reverse σ M' else .stuck
theorem zip_rev {α β : Type} : ∀ {xs : List α} {ys : List β}, xs.length = ys.length → (xs.zip ys).reverse = xs.reverse.zip ys.reverse
  | [], [], _ => rfl
  | x :: xs, y :: ys, h => by
    have h' : xs.length = ys.length := by simpa using h
    rw [List.zip_cons_cons, List.reverse_cons, zip_rev h', List.reverse_cons, List.reverse_cons, List.zip_append (by simpa using h')]
    rfl
theorem ds_raise {X : Cx} {Γ : Gam} {W : WX} {x : Str} {c n : Nat} {e : Expr} {es : List Expr} {a : DA} {p p2 pos : Pos} (g : Ok X Γ) (hc : X.calm = true) (tk : L2N.Takes X W) (ex : ExcC X Γ x c n) (hg : Gl X x) (ha : DAs X Γ W (e :: es) a) (hdb : (x == ("__debug__" : Str)) = false)
    (he : starEach (e :: es) X.env = (false, eval e X.env) :: starEach es X.env) (hpl : (backTo p2 (starEach es X.env)).any (·.1) = false) : DS X Γ W (.Raise (some (.Call (.Name x p) (e :: es) [] p2)) none pos) (sRaise c n a) := by
  obtain ⟨fI, k, fd, ps, D, ns, hn, hfl, o, hno, iC, tI, F, hr, hb, hm⟩ := ex.ex
  have hx : Passes (L2N.CX X.prog X.w) X (fun _ _ _ => False) := L2N.passes_call tk fun _ _ _ _ h => h.elim
  refine PS.imp (L2N.ps_raise hc tk (pmk_N o.ex iC tI F hr hb hx hg hm ha hdb he hpl)) fun D' σ H ⟨F1, P, ι, M, σd, nw, p⟩ => ⟨F1, P, ι, M, σd, nw, PostS.begin nw.sl p fun ds M' vs H' F' ι' _ x n' r p' => ?_⟩
  split at p'
  · rename_i hl
    refine ⟨by rw [r.length, hl.1]; exact hl.2, fun b hbn => ⟨b, Γ.cls c, vs, by rw [List.append_nil], by rw [r.length, hl.1, hn], o, upd_same, hno, fun d hd hdb => ⟨rfl, d, _, upd_same, by rw [upd_ne hdb, upd_same], ?_, ?_⟩⟩⟩
    · rw [upd_ne hdb] at hd
      exact hd
    · have hd' : H' d = none := by rw [upd_ne hdb] at hd; exact hd
      refine p' _ _ σ _ F' ι' Ext.refl ⟨n'.st.keep fun b' o' e' => ?_, n'.sl⟩ ⟨rfl, .inr ⟨d, vs.reverse, rfl, ?_, ?_, r.rev⟩⟩
      · have h1 : b' ≠ d := ne_of_none e' hd'
        have h2 : b' ≠ b := ne_of_none e' hbn
        rw [upd_ne h1, del_ne h2, upd_ne h2, upd_ne h1, upd_ne h2]
        exact e'
      · rw [upd_same, zip_rev (by rw [r.length, hl.1, hn]), hfl]
      · rw [List.length_reverse, r.length, hl.1, hfl, List.length_reverse, hn]
  · exact p'.elim
end MT

set_option maxRecDepth 100000
/-! MtLam: lambdas: made, called. -/
namespace MT
open PySem PySem.Spec PyProof.Rows L2 LamX NdefX
/-! ### made -/
section
variable {X : Cx} {pins : List (Addr × Obj)} {σ : L2.St} {H : Hp} {s : Shared}
theorem lamO_ok {P : Program} {w : World} {H : Hp} {h : Heap} {f c : Addr} {L : LamW} {cl : List (Str × Addr)} {dV doc pm ctv : Value} {od : Option Addr} {sl : Array (Option Value)}
    (e : h.get? f = some (⟨.type "function", od, .func (PySem.W.kdv_fn "<lambda>" L.qual L.params (.expr L.body) L.scope cl dV doc pm (.ref c) ctv), sl⟩ : Obj)) : ObjOk P w H h f (LamO f L cl c dV) :=
  ⟨⟨od, sl, doc, pm, ctv, e⟩, ⟨_, e⟩, fun h1 h2 ⟨od, sl, d, p, t, z⟩ st => ⟨od, sl, d, p, t, st _ z⟩⟩
theorem lamO_at {P : Program} {w : World} {H : Hp} {h : Heap} {f c : Addr} {L : LamW} {cl : List (Str × Addr)} {dV : Value} (hok : HOk P w H h) (e : H f = some (LamO f L cl c dV)) :
    ∃ (od : Option Addr) (sl : Array (Option Value)) (doc pm ctv : Value), h.get? f = some (⟨.type "function", od, .func (PySem.W.kdv_fn "<lambda>" L.qual L.params (.expr L.body) L.scope cl dV doc pm (.ref c) ctv), sl⟩ : Obj) := by
  obtain ⟨z, _, _⟩ := hok f _ e
  exact z
theorem lamO_ntbl {f c : Addr} {L : LamW} {cl : List (Str × Addr)} {dV : Value} (ps : Array Value) : LamO f L cl c dV ≠ .tbl ps := fun z => by
  unfold LamO at z
  cases z
theorem code_ntbl {c : Addr} {q : Str} (ps : Array Value) : CodeO c q ≠ .tbl ps := codeO_ne ps
theorem inv_lam {L : LamW} {c : Addr} {cl : List (Str × Addr)} {t' : Nat} {dV doc pm ctv : Value} (I : Inv X pins σ H s) :
    Inv X pins σ (upd H s.heap.objs.size (LamO s.heap.objs.size L cl c dV)) { s with heap := s.heap.push (PySem.W.kdv_obj "<lambda>" L.qual L.params (.expr L.body) L.scope cl dV doc pm c ctv), toks := t' } :=
  I.laid (a := s.heap.objs.size) (fun b u e => Heap.get?_push_of_some _ e) (Nat.le_refl _) (lamO_ok (od := none) (sl := #[]) (doc := doc) (pm := pm) (ctv := ctv) (Heap.get?_push_size _ rfl))
/-- the tail of the making: the code object is new, or found in the table -/
theorem lam_tail {T : List NTab} {nm : Nat → Nat → Str} {c P : Addr} {L : LamW} {pos : Pos} {dV : Value} {E : Value → Shared → Prop} {Q : Value → Shared → Prop} (I : Inv X pins σ H s) (TB : TabB X.base X.mg c P) (hcode : X.env.code = .ref c)
    (hm : (P, nm) ∈ T) (hn : nm pos.line pos.col = L.qual) (hu : ∀ p ∈ T, p.1 = P → p.2 = nm) (hT : TabsN T H) (hfree : ∀ y ∈ L.scope.names, y.2 = .free → ∃ c, X.env.cells.lookup y.1 = some c)
    (h : ∀ (f c' : Addr) (H1 : Hp) (s' : Shared), Inv X pins σ H1 s' → ExtN H H1 → TabsN T H1 → H f = none → H1 f = some (LamO f L (cloFrom X.env.cells L.scope.names []) c' dV) → H1 c' = some (CodeO c' L.qual) → Q (.ref f) s') :
    wpAny (model X.prog X.w) X.A (makeTail "<lambda>" L.qual L.params (.expr L.body) L.scope X.env dV .none none pos pos.line) Q E s := by
  obtain ⟨ps, hP, ht, ha⟩ := (show TabN H P nm from hT _ hm)
  have bP : s.heap.BuiltinsAt X.mg P := TB.bm.keeps I.bk
  have hP' : s.heap.get? P = some { cls := .none, data := .fields ps } := I.hok P _ hP
  cases hc : codeAmong pos ps.toList with
  | none =>
    refine PySem.W.kdv_makeTail (mg := X.mg) (c := c) (P := P) (ps := ps) (closure_ok hfree) I.ok.glob (I.mod.glob.keeps I.bk) hcode (TB.code.keeps I.bk) hP' ht hc TB.gP bP fun c' ctv doc h' tk hx hge hlt hrec htb => ?_
    obtain ⟨c2, oc, vs, t, e2, hoc, hd, hv⟩ := hrec
    cases e2
    have nC : H c' = none := I.hok.fresh hge
    have I1 := inv_table (t' := tk) (more := #[rawInt pos.line, rawInt pos.col, .ref c']) (h' := h') I hP (fun b o hb e => hx b o hb e) htb hge ⟨oc, vs, t, hoc, hd, hv⟩
    have nP : ∀ {b o}, H b = some o → (∀ ps, o ≠ .tbl ps) → b ≠ P := fun {b o} e n z => n ps (Option.some.inj (e.symm.trans (z ▸ hP)))
    have hE : ExtN H (upd (upd H P (.tbl (ps ++ #[rawInt pos.line, rawInt pos.col, .ref c']))) c' (CodeO c' L.qual)) := fun b o e n => (upd_ne (ne_of_none e nC)).trans ((upd_ne (nP e n)).trans e)
    have eL : (ps ++ #[rawInt pos.line, rawInt pos.col, .ref c']).toList = ps.toList ++ [rawInt pos.line, rawInt pos.col, .ref c'] := by simp
    have T1 : TabsN T (upd (upd H P (.tbl (ps ++ #[rawInt pos.line, rawInt pos.col, .ref c']))) c' (CodeO c' L.qual)) := fun p hp => by
      by_cases hb : p.1 = P
      · rw [hu p hp hb, hb]
        refine ⟨_, (upd_ne (ne_of_none hP nC)).trans upd_same, by rw [eL]; exact PySem.TriplesOk_snoc _ _ _ _ ht, fun p' cv hcv => ?_⟩
        rw [eL] at hcv
        rcases among_app2 _ ht hcv with z | ⟨z, z1, z2⟩
        · obtain ⟨c0, e1, e2⟩ := ha p' cv z
          exact ⟨c0, e1, hE _ _ e2 codeO_ne⟩
        · exact ⟨c', z, by rw [← z1, ← z2, hn]; exact upd_same⟩
      · obtain ⟨ps', a1, a2, a3⟩ := hT p hp
        exact ⟨ps', (upd_ne (ne_of_none a1 nC)).trans ((upd_ne hb).trans a1), a2, fun p' cv hcv => (a3 p' cv hcv).imp fun c0 ⟨e1, e2⟩ => ⟨e1, hE _ _ e2 codeO_ne⟩⟩
    have nF := I1.hok.fresh (Nat.le_refl _)
    have I2 := inv_lam (L := L) (c := c') (cl := cloFrom X.env.cells L.scope.names []) (t' := tk) (dV := dV) (doc := doc) (pm := (X.mg "__name__").getD .none) (ctv := ctv) I1
    refine h h'.objs.size c' _ _ I2 (hE.trans fun b o e n => (upd_ne (ne_of_none e nF)).trans e) (T1.ext fun b o e => (upd_ne (ne_of_none e nF)).trans e) (I.hok.fresh (Nat.le_trans hge (Nat.le_of_lt hlt))) upd_same ((upd_ne (Nat.ne_of_lt hlt)).trans upd_same)
  | some cv =>
    obtain ⟨c', e, hco⟩ := ha pos cv hc
    subst e
    rw [hn] at hco
    refine PySem.W.kdv_makeTailHit (mg := X.mg) (c := c) (P := P) (ps := ps) (closure_ok hfree) I.ok.glob (I.mod.glob.keeps I.bk) hcode (TB.code.keeps I.bk) hP' ht hc bP fun ctv doc h' tk hx hsz => ?_
    have I1 : Inv X pins σ H { s with heap := h', toks := tk } := I.kept hx
    have nF : H h'.objs.size = none := I1.hok.fresh (Nat.le_refl _)
    have I2 := inv_lam (L := L) (c := c') (cl := cloFrom X.env.cells L.scope.names []) (t' := tk) (dV := dV) (doc := doc) (pm := (X.mg "__name__").getD .none) (ctv := ctv) I1
    have ex : ∀ b o, H b = some o → upd H h'.objs.size (LamO h'.objs.size L (cloFrom X.env.cells L.scope.names []) c' dV) b = some o := fun b o e => (upd_ne (ne_of_none e nF)).trans e
    exact h h'.objs.size c' _ _ I2 (ExtN.of ex) (hT.ext ex) nF upd_same (ex _ _ hco)
end
/-- the reading of a lambda -/
def tLamD (T : List NTab) (L : LamW) (cells : List (Str × Addr)) : TE := fun σ H Q => TabsN T H ∧ ∀ (f c' : Addr) (dV : Value) (H1 : Hp), ExtN H H1 → TabsN T H1 → H f = none → H1 f = some (LamO f L (cloFrom cells L.scope.names []) c' dV) → H1 c' = some (CodeO c' L.qual) →
  ((L.nd = 0 ∧ dV = .none) ∨ (L.nd = 1 ∧ ∃ t, dV = .ref t ∧ H t = none ∧ H1 t = some (.tup [.int 0]) ∧ t ≠ f ∧ t ≠ c')) → Q (.ref f) H1
section
variable {X : Cx}
theorem pe_lam0 {T : List NTab} {nm : Nat → Nat → Str} {c P : Addr} {L : LamW} {pos : Pos} (TB : TabB X.base X.mg c P) (hcode : X.env.code = .ref c) (hm : (P, nm) ∈ T) (hn : nm pos.line pos.col = L.qual) (hq : L.qual = X.env.qual ++ "<lambda>") (hu : ∀ p ∈ T, p.1 = P → p.2 = nm)
    (hfree : ∀ y ∈ L.scope.names, y.2 = .free → X.env.scope.names.lookup y.1 = some .cell ∨ X.env.scope.names.lookup y.1 = some .free) (hnd : L.nd = 0) (hd : L.params.defaults = []) (hk : L.params.kw_defaults = []) : PE X (.Lambda L.params L.body L.scope pos) (tLamD T L X.env.cells) := by
  refine ⟨fun pins s σ H Q I ⟨hT, h⟩ => ?_⟩
  have hfr : ∀ y ∈ L.scope.names, y.2 = .free → ∃ c, X.env.cells.lookup y.1 = some c := fun y hy e => (hfree y hy e).elim (fun z => I.ok.has _ (.inl z)) fun z => I.ok.has _ (.inr z)
  refine PySem.W.kla_eval (by rw [defaultsOf_eq, hd, hk]; rfl) ?_
  rw [makeFunction_eq, ← hq]
  simp only [List.zip_nil_right, List.filterMap_nil, List.isEmpty_nil, if_true, pure_bind]
  exact lam_tail I TB hcode hm hn hu hT hfr fun f c' H1 s' I1 eN T1 f0 f1 c1 => ⟨.ref f, H1, I1, rfl, h f c' .none H1 eN T1 f0 f1 c1 (.inl ⟨hnd, rfl⟩)⟩
theorem pe_lam1 {T : List NTab} {nm : Nat → Nat → Str} {c P : Addr} {L : LamW} {pos p0 : Pos} {j : Nat} (TB : TabB X.base X.mg c P) (hcode : X.env.code = .ref c) (hm : (P, nm) ∈ T) (hn : nm pos.line pos.col = L.qual) (hq : L.qual = X.env.qual ++ "<lambda>") (hu : ∀ p ∈ T, p.1 = P → p.2 = nm)
    (hfree : ∀ y ∈ L.scope.names, y.2 = .free → X.env.scope.names.lookup y.1 = some .cell ∨ X.env.scope.names.lookup y.1 = some .free) (hnd : L.nd = 1) (hd : L.params.defaults = [.Constant (.int 0) j p0]) (hk : L.params.kw_defaults = []) : PE X (.Lambda L.params L.body L.scope pos) (tLamD T L X.env.cells) := by
  refine ⟨fun pins s σ H Q I ⟨hT, h⟩ => ?_⟩
  have hfr : ∀ y ∈ L.scope.names, y.2 = .free → ∃ c, X.env.cells.lookup y.1 = some c := fun y hy e => (hfree y hy e).elim (fun z => I.ok.has _ (.inl z)) fun z => I.ok.has _ (.inr z)
  refine PySem.W.kdv_lam (by rw [hd]; rfl) hk ?_
  rw [hd]
  refine PySem.W.kdv_all1 (thn ((pe_int (X := X) (i := 0) (j := j) (pos := p0)).run pins s σ H (fun v H1 => v = .int 0 ∧ H1 = H) I ⟨rfl, rfl⟩) fun u s1 hx => PySem.W.kdv_all0 ?_)
  obtain ⟨v, H1, I1, r1, ev, eH⟩ := hx
  subst ev eH
  rw [makeFunction_eq, ← hq]
  simp only [List.zip_nil_right, List.filterMap_nil, List.isEmpty_nil, if_true, pure_bind, List.isEmpty_cons, Bool.false_eq_true, if_false]
  refine wpAny_bind (wpAny_newTextTuple ?_)
  have n0 := I1.hok.fresh (Nat.le_refl s1.heap.objs.size)
  have I2 : Inv X pins σ (upd H1 s1.heap.objs.size (.tup [.int 0])) { s1 with heap := s1.heap.push (PySem.W.kdv_tup [u]), toks := s1.toks } :=
    I1.laid (a := s1.heap.objs.size) (fun b o e => Heap.get?_push_of_some _ e) (Nat.le_refl _) ⟨by rw [sizeLine_eq]; show 1 ≤ 16777216; decide, [u], .cons r1 .nil, IsTup.new s1.heap _⟩
  have eH : ∀ b o, H1 b = some o → upd H1 s1.heap.objs.size (.tup [.int 0]) b = some o := fun b o e => (upd_ne (ne_of_none e n0)).trans e
  refine lam_tail (dV := .ref s1.heap.objs.size) I2 TB hcode hm hn hu (hT.ext eH) hfr fun f c' H3 s' I3 eN T1 f0 f1 c1 => ⟨.ref f, H3, I3, rfl, ?_⟩
  have nf : s1.heap.objs.size ≠ f := fun z => by rw [← z, upd_same] at f0; cases f0
  have ht : H3 s1.heap.objs.size = some (.tup [.int 0]) := eN _ _ upd_same fun _ z => by cases z
  refine h f c' (.ref s1.heap.objs.size) H3 ((ExtN.of eH).trans eN) T1 ?_ f1 c1 (.inr ⟨hnd, _, rfl, n0, ht, nf, fun z => ?_⟩)
  · rw [upd_ne (Ne.symm nf)] at f0; exact f0
  · rw [z, c1] at ht
    unfold CodeO at ht
    cases ht
end
section
variable {X : Cx} {Γ : Gam} {W : WX}
def mLam (k : Nat) : DM := fun _ M => .ok (.lam k) M
theorem de_lamR {k : Nat} {pos : Pos} (g : Ok X Γ) (hce : Γ.cells = some X.env.cells) (h : PE X (.Lambda (Γ.lam k).params (Γ.lam k).body (Γ.lam k).scope pos) (tLamD Γ.T (Γ.lam k) X.env.cells)) : DE X Γ W (.Lambda (Γ.lam k).params (Γ.lam k).body (Γ.lam k).scope pos) (mLam k) :=
  PE.imp h fun σ H Q ⟨F, P, ι, M, σd, n, p⟩ => ⟨n.st.tb, fun f c' dV H1 eN T1 f0 f1 c1 hd => by
    have s1 : St Γ F P ι M H1 := n.st.keepN eN T1
    have old : ∀ {b : Addr}, H b = none → P b = none ∧ b ∉ ι := fun {b} e => ⟨n.st.freshP e, n.st.freshI e⟩
    have cnew : P c' = none ∧ c' ∉ ι := by
      constructor
      · cases e : P c' with
        | none => rfl
        | some o => have := s1.pr _ _ e; rw [c1] at this; cases this; exact absurd rfl ((s1.pp _ _ e).2.1 _ _)
      · intro hm
        obtain ⟨i, ei⟩ := List.getElem?_of_mem hm
        obtain ⟨m, o, _, _, _, e1, r⟩ := s1.there ei
        rw [c1] at e1
        cases e1
        exact (repO_plain r).2.1 _ _ rfl
    obtain ⟨s2, x2⟩ := s1.adopt c1 cnew.1 cnew.2 (fun ps => codeO_ne ps)
    obtain ⟨s3, x3⟩ := s2.adopt f1 (old f0).1 (old f0).2 (fun ps => lamO_ntbl ps)
    have key : ∀ {F' : Hp}, Ext F ι F' ι → St Γ F' P ι M H1 → F' f = some (LamO f (Γ.lam k) (cloFrom X.env.cells (Γ.lam k).scope.names []) c' dV) → F' c' = some (CodeO c' (Γ.lam k).qual) → DfAt F' (Γ.lam k).nd dV → Q (.ref f) H1 := fun {F'} x s h1 h2 h3 =>
      p (.ref f) H1 F' ι x s (by simp only [Rep]; exact ⟨f, c', dV, _, rfl, hce, ⟨h1, h2, h3⟩⟩)
    have cf : (upd (upd F c' (CodeO c' (Γ.lam k).qual)) f (LamO f (Γ.lam k) (cloFrom X.env.cells (Γ.lam k).scope.names []) c' dV)) c' = some (CodeO c' (Γ.lam k).qual) := x3.f _ _ upd_same
    rcases hd with ⟨hn, e⟩ | ⟨hn, t, e, t0, t1, nf, nc⟩
    · exact key (x2.trans x3) s3 upd_same cf (.inl ⟨hn, e⟩)
    · obtain ⟨s4, x4⟩ := s3.adopt t1 (old t0).1 (old t0).2 (fun ps z => by cases z)
      exact key ((x2.trans x3).trans x4) s4 (x4.f _ _ upd_same) (x4.f _ _ cf) (.inr ⟨by rw [hn]; decide, t, e, by rw [hn]; exact upd_same⟩)⟩
end
end MT

set_option maxRecDepth 100000
/-! MtHide: cells that are known for a while, or forgotten for a while. -/
namespace MT
open PySem PySem.Spec PyProof.Rows L2 LamX NdefX
open Classical in
noncomputable def hid (C : Addr → Prop) (H : Hp) : Hp := fun b => if C b then none else H b
open Classical in
noncomputable def mrg (C : Addr → Prop) (G H : Hp) : Hp := fun b => if C b then G b else H b
theorem hid_in {C : Addr → Prop} {H : Hp} {b : Addr} (h : C b) : hid C H b = none := if_pos h
theorem hid_out {C : Addr → Prop} {H : Hp} {b : Addr} (h : ¬ C b) : hid C H b = H b := if_neg h
theorem mrg_in {C : Addr → Prop} {G H : Hp} {b : Addr} (h : C b) : mrg C G H b = G b := if_pos h
theorem mrg_out {C : Addr → Prop} {G H : Hp} {b : Addr} (h : ¬ C b) : mrg C G H b = H b := if_neg h
theorem hid_some {C : Addr → Prop} {H : Hp} {b : Addr} {o : HO} (h : hid C H b = some o) : ¬ C b ∧ H b = some o := by
  by_cases c : C b
  · rw [hid_in c] at h; cases h
  · rw [hid_out c] at h; exact ⟨c, h⟩
/-- C are cells, known in H as they are -/
def Cells (C : Addr → Prop) (H : Hp) : Prop := ∀ b, C b → ∃ o, H b = some (CellX b o)
theorem cellX_ne {c : Addr} {o : Obj} : (∀ x, CellX c o ≠ .own x) ∧ (∀ x, CellX c o ≠ .tup x) ∧ (∀ x y, CellX c o ≠ .frz x y) ∧ ∀ x, CellX c o ≠ .tbl x :=
  ⟨fun _ z => (by unfold CellX at z; cases z), fun _ z => (by unfold CellX at z; cases z), fun _ _ z => (by unfold CellX at z; cases z), fun _ z => (by unfold CellX at z; cases z)⟩
theorem cellX_at {P : Program} {w : World} {H : Hp} {h : Heap} {c : Addr} {o : Obj} (hok : HOk P w H h) (e : H c = some (CellX c o)) : h.get? c = some o := by
  obtain ⟨z, _⟩ := hok c _ e
  exact z
theorem cellX_ok {P : Program} {w : World} {H : Hp} {h : Heap} {c : Addr} {o : Obj} (e : h.get? c = some o) : ObjOk P w H h c (CellX c o) := ⟨e, ⟨_, e⟩, fun _ _ z k => k _ z⟩
section
variable {P : Program} {w : World} {C : Addr → Prop} {G H : Hp} {h h' : Heap}
theorem hid_ok (hok : HOk P w H h) (c : Cells C H) : HOk P w (hid C H) h := fun b o e => by
  obtain ⟨n, e⟩ := hid_some e
  refine (hok b o e).stay (fun _ _ _ z => z) (fun d hd => ?_) fun d xs hd => ?_
  · rw [hid_out fun z => by
      obtain ⟨o, e⟩ := c d z
      rw [hd] at e
      exact cellX_ne.1 _ (Option.some.inj e).symm]
    exact hd
  · rw [hid_out fun z => by
      obtain ⟨o, e⟩ := c d z
      rw [hd] at e
      exact cellX_ne.2.1 _ (Option.some.inj e).symm]
    exact hd
theorem mrg_ok (hok : HOk P w H h) (c : ∀ b, C b → H b = none ∧ ∃ o, G b = some (CellX b o) ∧ h.get? b = some o) : HOk P w (mrg C G H) h := fun b o e => by
  by_cases n : C b
  · obtain ⟨_, o', e1, e2⟩ := c b n
    rw [mrg_in n, e1] at e
    cases e
    exact cellX_ok e2
  · rw [mrg_out n] at e
    refine (hok b o e).stay (fun _ _ _ z => z) (fun d hd => ?_) fun d xs hd => ?_
    · rw [mrg_out fun z => by rw [(c d z).1] at hd; cases hd]
      exact hd
    · rw [mrg_out fun z => by rw [(c d z).1] at hd; cases hd]
      exact hd
end
/-! ### forgotten for a call -/
section
variable {P : Program} {w : World} {K : PySem.W.Frag} {mg : Str → Option Value} {base : Heap} {A : Around} {outer : List Env} {C : Addr → Prop} {H : Hp} {s : Shared}
theorem env0_hid (e : Env0 P w K mg base A outer s H) (c : Cells C H) : Env0 P w K mg base A outer s (hid C H) :=
  ⟨e.frames, e.mod, fun b o z => ⟨(e.bs b o z).1, by
    by_cases n : C b
    · exact hid_in n
    · rw [hid_out n]; exact (e.bs b o z).2⟩, e.bsz, e.funs, fun b z => by
    by_cases n : C b
    · exact hid_in n
    · rw [hid_out n]; exact e.frf b z, hid_ok e.hok c, e.bare⟩
theorem ce_hid {Q : VK} {u : Value} {s' : Shared} (e : Env0 P w K mg base A outer s H) (c : Cells C H) (h : CE outer P w (hid C H) s Q u s') : CE outer P w H s (fun v H4 => ∃ H3, H4 = mrg C H H3 ∧ (∀ b, C b → H3 b = none) ∧ Q v H3) u s' := by
  obtain ⟨v, H3, os, bare, un, hok, r, q⟩ := h
  have nfr : ∀ b, C b → b ∉ frs outer := fun b hb z => by
    obtain ⟨o, e1⟩ := c b hb
    rw [e.frf b z] at e1
    cases e1
  have gone : ∀ b, C b → H3 b = none := fun b hb => by
    obtain ⟨o, e1⟩ := c b hb
    exact un.free b o (cellX_at e.hok e1) (hid_in hb) (by simp)
  have low : ∀ {b}, H b = none → hid C H b = none := fun {b} n => by
    by_cases z : C b
    · exact hid_in z
    · rw [hid_out z]; exact n
  have out : ∀ {b o}, H b = some o → (∀ o', o ≠ CellX b o') → ¬ C b := fun {b o} e n z => by
    obtain ⟨o', e1⟩ := c b z
    rw [e] at e1
    exact n _ (Option.some.inj e1)
  have no : ∀ {b}, H b = none → ¬ C b := fun {b} n z => by
    obtain ⟨o', e1⟩ := c b z
    rw [n] at e1
    cases e1
  refine ⟨v, mrg C H H3, os, bare, ⟨fun b o z n => un.keep b o z (low n), fun b o z n => un.slot b o z (low n), fun b o z n hx => ?_, un.there, fun b xs z => ?_, fun b o u z => ?_, fun b ps z => ?_⟩, mrg_ok hok fun b hb => ⟨gone b hb, ?_⟩, r, H3, rfl, gone, q⟩
  · rw [mrg_out (no n)]; exact un.free b o z (low n) hx
  · have n := out z fun o' y => cellX_ne.2.1 _ y.symm
    rw [mrg_out n]; exact un.tups b xs (by rw [hid_out n]; exact z)
  · have n := out z fun o' y => cellX_ne.2.2.1 _ _ y.symm
    rw [mrg_out n]; exact un.frzs b o u (by rw [hid_out n]; exact z)
  · have n := out z fun o' y => cellX_ne.2.2.2 _ y.symm
    rw [mrg_out n]; exact un.tbls b ps (by rw [hid_out n]; exact z)
  · obtain ⟨o, e1⟩ := c b hb
    exact ⟨o, e1, un.keep b o (cellX_at e.hok e1) (hid_in hb) (nfr b hb) (by simp)⟩
theorem cx_hid {E : XK} {u : Value} {s' : Shared} (e : Env0 P w K mg base A outer s H) (c : Cells C H) (h : L2N.CX P w outer (hid C H) s E u s') : L2N.CX P w outer H s (fun cls d H4 => ∃ H3, H4 = mrg C H H3 ∧ (∀ b, C b → H3 b = none) ∧ E cls d H3) u s' := by
  obtain ⟨a, B, H3, cls, d, rfl, fl, hok, ub, na, os, ag, hE⟩ := h
  have nfr : ∀ b, C b → b ∉ frs outer := fun b hb z => by
    obtain ⟨o, e1⟩ := c b hb
    rw [e.frf b z] at e1
    cases e1
  have gone : ∀ b, C b → H3 b = none := fun b hb => by
    obtain ⟨o, e1⟩ := c b hb
    exact ub.free b o (cellX_at e.hok e1) (hid_in hb)
  have low : ∀ {b}, H b = none → hid C H b = none := fun {b} n => by
    by_cases z : C b
    · exact hid_in z
    · rw [hid_out z]; exact n
  have out : ∀ {b o}, H b = some o → (∀ o', o ≠ CellX b o') → ¬ C b := fun {b o} e n z => by
    obtain ⟨o', e1⟩ := c b z
    rw [e] at e1
    exact n _ (Option.some.inj e1)
  have no : ∀ {b}, H b = none → ¬ C b := fun {b} n z => by
    obtain ⟨o', e1⟩ := c b z
    rw [n] at e1
    cases e1
  have inB : ∀ b, C b → ∃ o, H b = some (CellX b o) ∧ B.get? b = some o := fun b hb => by
    obtain ⟨o, e1⟩ := c b hb
    exact ⟨o, e1, ub.keep b o (cellX_at e.hok e1) (hid_in hb) (nfr b hb)⟩
  have nCa : ¬ C a := fun z => by
    obtain ⟨o, _, e2⟩ := inB a z
    rw [fl.2.1] at e2
    cases e2
  refine ⟨a, B, mrg C H H3, cls, d, rfl, fl, mrg_ok hok fun b hb => ⟨gone b hb, inB b hb⟩, ⟨fun b o z n => ub.keep b o z (low n), fun b o z n => ub.slot b o z n, fun b o z n => ?_, ub.there, fun b xs z => ?_, fun b o u z => ?_, fun b ps z => ?_⟩, by rw [mrg_out nCa]; exact na, os, ag, H3, rfl, gone, hE⟩
  · rw [mrg_out (no n)]; exact ub.free b o z (low n)
  · have n := out z fun o' y => cellX_ne.2.1 _ y.symm
    rw [mrg_out n]; exact ub.tups b xs (by rw [hid_out n]; exact z)
  · have n := out z fun o' y => cellX_ne.2.2.1 _ _ y.symm
    rw [mrg_out n]; exact ub.frzs b o u (by rw [hid_out n]; exact z)
  · have n := out z fun o' y => cellX_ne.2.2.2 _ y.symm
    rw [mrg_out n]; exact ub.tbls b ps (by rw [hid_out n]; exact z)
end
end MT

set_option maxRecDepth 100000
/-! MtHid2: the data while cells are known or forgotten. -/
namespace MT
open PySem PySem.Spec PyProof.Rows L2 LamX NdefX
mutual
/-- no lambda with captured values in it -/
def noClo : D → Bool
  | .clo _ _ => false
  | .tup ds => noCloL ds
  | .lst ds => noCloL ds
  | .dic _ ds => noCloL ds
  | .ins _ ds => noCloL ds
  | .exn _ ds => noCloL ds
  | _ => true
def noCloL : List D → Bool
  | [] => true
  | d :: ds => noClo d && noCloL ds
end
mutual
/-- no lambda of the running frame in it -/
def noLam : D → Bool
  | .lam _ => false
  | .tup ds => noLamL ds
  | .lst ds => noLamL ds
  | .dic _ ds => noLamL ds
  | .ins _ ds => noLamL ds
  | .clo _ ds => noLamL ds
  | .exn _ ds => noLamL ds
  | _ => true
def noLamL : List D → Bool
  | [] => true
  | d :: ds => noLam d && noLamL ds
end
def inO (f : List D → Bool) : MO → Bool
  | .lst ds => f ds
  | .ins _ _ ds => f ds
  | .dic _ ds => f ds
/-- the frame's cells are not told -/
def Gam.bare (Γ : Gam) : Gam := { Γ with cells := none }
section
variable {Γ : Gam} {F : Hp} {ι : List Addr}
mutual
theorem rep_bare : ∀ (d : D) (v : V), Rep Γ F ι d v → noLam d = true → Rep Γ.bare F ι d v
  | .non, _, r, _ => by simpa only [Rep] using r
  | .bl _, _, r, _ => by simpa only [Rep] using r
  | .int _, _, r, _ => by simpa only [Rep] using r
  | .str _, _, r, _ => by simpa only [Rep] using r
  | .flt _, _, r, _ => by simpa only [Rep] using r
  | .exn c ds, _, r, h => by
    simp only [Rep] at r ⊢
    obtain ⟨a, d, e1, e2, r⟩ := r
    refine ⟨a, d, e1, e2, ?_⟩
    rcases r with r | ⟨dd, xs, h1, h2, h3, h4⟩
    · exact .inl r
    · exact .inr ⟨dd, xs, h1, h2, h3, repL_bare ds xs h4 (by simpa only [noLam] using h)⟩
  | .scr _, _, r, _ => by simp only [Rep] at r ⊢; exact r
  | .obj _, _, r, _ => by simpa only [Rep] using r
  | .lam _, _, _, h => by simp [noLam] at h
  | .tup ds, _, r, h => by
    simp only [Rep] at r ⊢
    obtain ⟨a, xs, e, s, r⟩ := r
    exact ⟨a, xs, e, s, repL_bare ds xs r (by simpa only [noLam] using h)⟩
  | .lst ds, _, r, h => by
    simp only [Rep] at r ⊢
    obtain ⟨a, xs, e, s, r⟩ := r
    exact ⟨a, xs, e, s, repL_bare ds xs r (by simpa only [noLam] using h)⟩
  | .dic ks ds, _, r, h => by
    simp only [Rep] at r ⊢
    obtain ⟨a, kvs, e, s, q, r⟩ := r
    exact ⟨a, kvs, e, s, q, repL_bare ds _ r (by simpa only [noLam] using h)⟩
  | .ins c ds, _, r, h => by
    simp only [Rep] at r ⊢
    obtain ⟨a, dx, xs, e, s, q, r⟩ := r
    exact ⟨a, dx, xs, e, s, q, repL_bare ds _ r (by simpa only [noLam] using h)⟩
  | .clo k ds, _, r, h => by
    simp only [Rep] at r ⊢
    obtain ⟨f, cl, c, dV, ws, e, s, q, r⟩ := r
    exact ⟨f, cl, c, dV, ws, e, s, q, repL_bare ds ws r (by simpa only [noLam] using h)⟩
theorem repL_bare : ∀ (ds : List D) (vs : List V), RepL Γ F ι ds vs → noLamL ds = true → RepL Γ.bare F ι ds vs
  | [], _, r, _ => by simpa only [RepL] using r
  | d :: ds, _, r, h => by
    simp only [RepL] at r ⊢
    obtain ⟨x, xs, e, r1, r2⟩ := r
    simp only [noLamL, Bool.and_eq_true] at h
    exact ⟨x, xs, e, rep_bare d x r1 h.1, repL_bare ds xs r2 h.2⟩
end
mutual
theorem rep_full : ∀ (d : D) (v : V), Rep Γ.bare F ι d v → Rep Γ F ι d v
  | .non, _, r => by simpa only [Rep] using r
  | .bl _, _, r => by simpa only [Rep] using r
  | .int _, _, r => by simpa only [Rep] using r
  | .str _, _, r => by simpa only [Rep] using r
  | .flt _, _, r => by simpa only [Rep] using r
  | .exn c ds, _, r => by
    simp only [Rep] at r ⊢
    obtain ⟨a, d, e1, e2, r⟩ := r
    refine ⟨a, d, e1, e2, ?_⟩
    rcases r with r | ⟨dd, xs, h1, h2, h3, h4⟩
    · exact .inl r
    · exact .inr ⟨dd, xs, h1, h2, h3, repL_full ds xs h4⟩
  | .scr _, _, r => by simp only [Rep] at r ⊢; exact r
  | .obj _, _, r => by simpa only [Rep] using r
  | .lam _, _, r => by
    simp only [Rep] at r
    obtain ⟨f, c, dV, cells, _, e, _⟩ := r
    cases e
  | .tup ds, _, r => by
    simp only [Rep] at r ⊢
    obtain ⟨a, xs, e, s, r⟩ := r
    exact ⟨a, xs, e, s, repL_full ds xs r⟩
  | .lst ds, _, r => by
    simp only [Rep] at r ⊢
    obtain ⟨a, xs, e, s, r⟩ := r
    exact ⟨a, xs, e, s, repL_full ds xs r⟩
  | .dic ks ds, _, r => by
    simp only [Rep] at r ⊢
    obtain ⟨a, kvs, e, s, q, r⟩ := r
    exact ⟨a, kvs, e, s, q, repL_full ds _ r⟩
  | .ins c ds, _, r => by
    simp only [Rep] at r ⊢
    obtain ⟨a, dx, xs, e, s, q, r⟩ := r
    exact ⟨a, dx, xs, e, s, q, repL_full ds _ r⟩
  | .clo k ds, _, r => by
    simp only [Rep] at r ⊢
    obtain ⟨f, cl, c, dV, ws, e, s, q, r⟩ := r
    exact ⟨f, cl, c, dV, ws, e, s, q, repL_full ds ws r⟩
theorem repL_full : ∀ (ds : List D) (vs : List V), RepL Γ.bare F ι ds vs → RepL Γ F ι ds vs
  | [], _, r => by simpa only [RepL] using r
  | d :: ds, _, r => by
    simp only [RepL] at r ⊢
    obtain ⟨x, xs, e, r1, r2⟩ := r
    exact ⟨x, xs, e, rep_full d x r1, repL_full ds xs r2⟩
end
theorem repO_bare {m : MO} {o : HO} (r : RepO Γ F ι m o) (h : inO noLamL m = true) : RepO Γ.bare F ι m o := by
  cases m with
  | lst ds => obtain ⟨xs, e, r⟩ := r; exact ⟨xs, e, repL_bare _ _ r h⟩
  | ins c ns ds => obtain ⟨dx, xs, e, l, r⟩ := r; exact ⟨dx, xs, e, l, repL_bare _ _ r h⟩
  | dic ks ds => obtain ⟨kvs, e, l, r⟩ := r; exact ⟨kvs, e, l, repL_bare _ _ r h⟩
theorem repO_full {m : MO} {o : HO} (r : RepO Γ.bare F ι m o) : RepO Γ F ι m o := by
  cases m with
  | lst ds => obtain ⟨xs, e, r⟩ := r; exact ⟨xs, e, repL_full _ _ r⟩
  | ins c ns ds => obtain ⟨dx, xs, e, l, r⟩ := r; exact ⟨dx, xs, e, l, repL_full _ _ r⟩
  | dic ks ds => obtain ⟨kvs, e, l, r⟩ := r; exact ⟨kvs, e, l, repL_full _ _ r⟩
theorem St.toBare {P : Hp} {M : Mem} {H : Hp} (s : St Γ F P ι M H) (h : M.all (inO noLamL) = true) : St Γ.bare F P ι M H :=
  ⟨s.fr, s.pr, s.dj, s.len, s.nd, fun i a m e1 e2 => by
    obtain ⟨a1, a2, o, a3, a4⟩ := s.ob i a m e1 e2
    exact ⟨a1, a2, o, a3, repO_bare a4 (List.all_eq_true.mp h m (List.mem_of_getElem? e2))⟩, s.tb, s.fp, s.pp⟩
theorem St.toFull {P : Hp} {M : Mem} {H : Hp} (s : St Γ.bare F P ι M H) : St Γ F P ι M H :=
  ⟨s.fr, s.pr, s.dj, s.len, s.nd, fun i a m e1 e2 => by
    obtain ⟨a1, a2, o, a3, a4⟩ := s.ob i a m e1 e2
    exact ⟨a1, a2, o, a3, repO_full a4⟩, s.tb, s.fp, s.pp⟩
end
/-! ### cells forgotten -/
section
variable {Γ : Gam} {F : Hp} {ι : List Addr} {C : Addr → Prop}
/-- what of F is at C is just cells -/
def OnlyC (C : Addr → Prop) (F : Hp) : Prop := ∀ b o, C b → F b = some o → ∃ x, o = CellX b x
theorem only_out {b : Addr} {o : HO} (c : OnlyC C F) (e : F b = some o) (n : ∀ x, o ≠ CellX b x) : hid C F b = some o := by
  rw [hid_out fun z => by
    obtain ⟨x, q⟩ := c b o z e
    exact n x q]
  exact e
mutual
theorem rep_hid (c : OnlyC C F) (hl : ∀ b L cl cc dV, F b = some (LamO b L cl cc dV) → ¬ C b) (hc : ∀ b q, F b = some (CodeO b q) → ¬ C b) : ∀ (d : D) (v : V), Rep Γ F ι d v → noClo d = true → Rep Γ (hid C F) ι d v
  | .non, _, r, _ => by simpa only [Rep] using r
  | .bl _, _, r, _ => by simpa only [Rep] using r
  | .int _, _, r, _ => by simpa only [Rep] using r
  | .str _, _, r, _ => by simpa only [Rep] using r
  | .flt _, _, r, _ => by simpa only [Rep] using r
  | .exn k ds, _, r, h => by
    simp only [Rep] at r ⊢
    obtain ⟨a, d, e1, e2, r⟩ := r
    refine ⟨a, d, e1, e2, ?_⟩
    rcases r with r | ⟨dd, xs, h1, h2, h3, h4⟩
    · exact .inl r
    · exact .inr ⟨dd, xs, h1, only_out c h2 fun x z => (by unfold CellX at z; cases z), h3, repL_hid c hl hc ds xs h4 (by simpa only [noClo] using h)⟩
  | .obj _, _, r, _ => by simpa only [Rep] using r
  | .clo _ _, _, _, h => by simp [noClo] at h
  | .scr ns, _, r, _ => by
    simp only [Rep] at r ⊢
    obtain ⟨a, e, q⟩ := r
    refine ⟨a, e, ?_⟩
    rcases q with (h | ⟨o, h⟩) | h
    · exact .inl (.inl (only_out c h fun x z => by unfold CellX at z; cases z))
    · exact .inl (.inr ⟨o, only_out c h fun x z => by unfold CellX at z; cases z⟩)
    · exact .inr h
  | .lam k, _, r, _ => by
    simp only [Rep] at r ⊢
    obtain ⟨f, cc, dV, cells, e, e2, l⟩ := r
    refine ⟨f, cc, dV, cells, e, e2, ⟨?_, ?_, ?_⟩⟩
    · rw [hid_out (hl _ _ _ _ _ l.fn)]; exact l.fn
    · rw [hid_out (hc _ _ l.code)]; exact l.code
    · rcases l.df with h | ⟨h, t, h1, h2⟩
      · exact .inl h
      · exact .inr ⟨h, t, h1, only_out c h2 fun x z => by unfold CellX at z; cases z⟩
  | .tup ds, _, r, h => by
    simp only [Rep] at r ⊢
    obtain ⟨a, xs, e, s, r⟩ := r
    refine ⟨a, xs, e, ?_, repL_hid c hl hc ds xs r (by simpa only [noClo] using h)⟩
    rcases s with (h | ⟨o, h⟩) | h
    · exact .inl (.inl (only_out c h fun x z => by unfold CellX at z; cases z))
    · exact .inl (.inr ⟨o, only_out c h fun x z => by unfold CellX at z; cases z⟩)
    · exact .inr h
  | .lst ds, _, r, h => by
    simp only [Rep] at r ⊢
    obtain ⟨a, xs, e, s, r⟩ := r
    exact ⟨a, xs, e, only_out c s fun x z => (by unfold CellX at z; cases z), repL_hid c hl hc ds xs r (by simpa only [noClo] using h)⟩
  | .dic ks ds, _, r, h => by
    simp only [Rep] at r ⊢
    obtain ⟨a, kvs, e, s, q, r⟩ := r
    refine ⟨a, kvs, e, ?_, q, repL_hid c hl hc ds _ r (by simpa only [noClo] using h)⟩
    rcases s with s | s
    · exact .inl (only_out c s fun x z => by unfold CellX at z; cases z)
    · exact .inr s
  | .ins k ds, _, r, h => by
    simp only [Rep] at r ⊢
    obtain ⟨a, dx, xs, e, s, q, r⟩ := r
    exact ⟨a, dx, xs, e, only_out c s fun x z => (by unfold CellX at z; cases z), q, repL_hid c hl hc ds _ r (by simpa only [noClo] using h)⟩
theorem repL_hid (c : OnlyC C F) (hl : ∀ b L cl cc dV, F b = some (LamO b L cl cc dV) → ¬ C b) (hc : ∀ b q, F b = some (CodeO b q) → ¬ C b) : ∀ (ds : List D) (vs : List V), RepL Γ F ι ds vs → noCloL ds = true → RepL Γ (hid C F) ι ds vs
  | [], _, r, _ => by simpa only [RepL] using r
  | d :: ds, _, r, h => by
    simp only [RepL] at r ⊢
    obtain ⟨x, xs, e, r1, r2⟩ := r
    simp only [noCloL, Bool.and_eq_true] at h
    exact ⟨x, xs, e, rep_hid c hl hc d x r1 h.1, repL_hid c hl hc ds xs r2 h.2⟩
end
theorem repO_hid (c : OnlyC C F) (hl : ∀ b L cl cc dV, F b = some (LamO b L cl cc dV) → ¬ C b) (hc : ∀ b q, F b = some (CodeO b q) → ¬ C b) {m : MO} {o : HO} (r : RepO Γ F ι m o) (h : inO noCloL m = true) : RepO Γ (hid C F) ι m o := by
  cases m with
  | lst ds => obtain ⟨xs, e, r⟩ := r; exact ⟨xs, e, repL_hid c hl hc _ _ r h⟩
  | ins k ns ds => obtain ⟨dx, xs, e, l, r⟩ := r; exact ⟨dx, xs, e, l, repL_hid c hl hc _ _ r h⟩
  | dic ks ds => obtain ⟨kvs, e, l, r⟩ := r; exact ⟨kvs, e, l, repL_hid c hl hc _ _ r h⟩
theorem hid_tabs {T : List NTab} {H : Hp} (t : TabsN T H) (c : ∀ b o, C b → H b = some o → (∀ ps, o ≠ .tbl ps) ∧ ∀ q, o ≠ CodeO b q) : TabsN T (hid C H) := fun p hp => by
  obtain ⟨ps, h1, h2, h3⟩ := t p hp
  refine ⟨ps, ?_, h2, fun pos cv hcv => ?_⟩
  · rw [hid_out fun z => (c _ _ z h1).1 ps rfl]; exact h1
  · obtain ⟨c0, e1, e2⟩ := h3 pos cv hcv
    refine ⟨c0, e1, ?_⟩
    rw [hid_out fun z => (c _ _ z e2).2 _ rfl]
    exact e2
/-- what stands at C: cells, no function, no code object -/
structure CellsIn (C : Addr → Prop) (H : Hp) : Prop where
  cell : ∀ b o, C b → H b = some o → ∃ x, o = CellX b x
  fn : ∀ b L cl cc dV, H b = some (LamO b L cl cc dV) → ¬ C b
  code : ∀ b q, H b = some (CodeO b q) → ¬ C b
theorem CellsIn.of {P : Program} {w : World} {H : Hp} {h : Heap} (hok : HOk P w H h) (c1 : ∀ b o, C b → H b = some o → ∃ x, o = CellX b x) (c2 : ∀ b, C b → ∃ o v, h.get? b = some o ∧ o.data = .cell v) : CellsIn C H :=
  ⟨c1, fun b L cl cc dV e z => (by
    obtain ⟨o, v, e1, e2⟩ := c2 b z
    obtain ⟨⟨od, sl, doc, pm, ctv, e3⟩, _⟩ := hok b _ e
    rw [e1] at e3
    cases e3
    cases e2), fun b q e z => (by
    obtain ⟨o, v, e1, e2⟩ := c2 b z
    obtain ⟨⟨oc, vs, t, e3, e4, _⟩, _⟩ := hok b _ e
    rw [e1] at e3
    cases e3
    rw [e2] at e4
    cases e4)⟩
theorem CellsIn.sub {H : Hp} (c : CellsIn C H) (e : ∀ a o, F a = some o → H a = some o) : CellsIn C F := ⟨fun b o z q => c.cell b o z (e _ _ q), fun b L cl cc dV q => c.fn b L cl cc dV (e _ _ q), fun b q z => c.code b q (e _ _ z)⟩
/-- the state, the cells forgotten -/
theorem St.hid {P : Hp} {M : Mem} {H : Hp} (s : St Γ F P ι M H) (c : CellsIn C H) (h : M.all (inO noCloL) = true) : St Γ (hid C F) P ι M (hid C H) := by
  have cF := c.sub s.fr
  refine ⟨fun a o e => ?_, fun a o e => ?_, fun a => ?_, s.len, s.nd, fun i a m e1 e2 => ?_, hid_tabs s.tb fun b o z e => ?_, fun a o e => s.fp a o (hid_some e).2, s.pp⟩
  · obtain ⟨n, e⟩ := hid_some e
    rw [hid_out n]; exact s.fr a o e
  · rw [hid_out fun z => by
      obtain ⟨x, q⟩ := c.cell _ _ z (s.pr a o e)
      exact (s.pp a o e).2.2.1 _ _ q]
    exact s.pr a o e
  · rcases s.dj a with h | h
    · by_cases z : C a
      · exact .inl (hid_in z)
      · exact .inl (by rw [hid_out z]; exact h)
    · exact .inr h
  · obtain ⟨a1, a2, u, a3, a4⟩ := s.ob i a m e1 e2
    have n : ¬ C a := fun z => by
      obtain ⟨x, q⟩ := c.cell _ _ z a3
      exact (repO_plain a4).2.2.1 _ _ q
    refine ⟨by rw [hid_out n]; exact a1, a2, u, by rw [hid_out n]; exact a3, repO_hid cF.cell cF.fn cF.code a4 (List.all_eq_true.mp h m (List.mem_of_getElem? e2))⟩
  · obtain ⟨x, rfl⟩ := c.cell b o z e
    exact ⟨fun ps y => (by unfold CellX at y; cases y), fun q y => by rw [y] at e; exact c.code _ _ e z⟩
end
/-! ### cells known -/
section
variable {Γ : Gam} {F G : Hp} {ι : List Addr} {C : Addr → Prop}
theorem ext_mrg (h : ∀ b, C b → F b = none) : Ext F ι (mrg C G F) ι := ⟨fun a o e => by rw [mrg_out fun z => by rw [h a z] at e; cases e]; exact e, [], by simp⟩
theorem St.mrg {P : Hp} {M : Mem} {H G' : Hp} (s : St Γ F P ι M H) (h : ∀ b, C b → H b = none) (hG : ∀ b o, C b → G b = some o → G' b = some o ∧ ∃ x, o = CellX b x) : St Γ (mrg C G F) P ι M (mrg C G' H) := by
  have hF : ∀ b, C b → F b = none := fun b z => s.freshF (h b z)
  have nC : ∀ {b o}, H b = some o → ¬ C b := fun {b o} e z => by rw [h b z] at e; cases e
  refine ⟨fun a o e => ?_, fun a o e => ?_, fun a => ?_, s.len, s.nd, fun i a m e1 e2 => ?_, s.tb.ext fun b o e => ?_, fun a o e => ?_, s.pp⟩
  · by_cases z : C a
    · rw [mrg_in z] at e ⊢; exact (hG a o z e).1
    · rw [mrg_out z] at e ⊢; exact s.fr a o e
  · rw [mrg_out (nC (s.pr a o e))]; exact s.pr a o e
  · by_cases z : C a
    · exact .inr (s.freshP (h a z))
    · rw [mrg_out z]; exact s.dj a
  · obtain ⟨a1, a2, u, a3, a4⟩ := s.ob i a m e1 e2
    have n := nC a3
    exact ⟨by rw [mrg_out n]; exact a1, a2, u, by rw [mrg_out n]; exact a3, RepO.ext (ext_mrg hF) a4⟩
  · rw [mrg_out (nC e)]; exact e
  · by_cases z : C a
    · rw [mrg_in z] at e
      obtain ⟨_, x, rfl⟩ := hG a o z e
      exact fun ps y => (by unfold CellX at y; cases y)
    · rw [mrg_out z] at e; exact s.fp a o e
end
end MT

set_option maxRecDepth 100000
/-! MtClo: what a lambda promises; its call. -/
namespace MT
open PySem PySem.Spec PyProof.Rows L2 LamX NdefX
def spN (Γ : Gam) (np : Nat) (r : List D → List D → Mem → Res D) (ws : List V) : Sp := fun vs H Q E => ∃ F P ι M caps ds, St Γ F P ι M H ∧ RepL Γ F ι caps ws ∧ RepL Γ F ι ds vs ∧ ds.length = np ∧ Post Γ (fun cls od _ H' => E cls od H') P F ι [] (Rep Γ) (r caps ds M) Q
structure LamOk (P : Program) (w : World) (K : PySem.W.Frag) (mg : Str → Option Value) (base : Heap) (Γ : Gam) (n k np : Nat) (r : List D → List D → Mem → Res D) : Prop where
  run : ∀ (A : Around) (outer : List Env) (s : Shared) (H : Hp) (f c : Addr) (cl : List (Str × Addr)) (dV : Value) (us : List Value) (vs ws : List V) (Q : VK) (E : XK), Room n A → Env0 P w K mg base A outer s H → LamAt H (Γ.lam k) f cl c dV →
    CellsAt cl (Γ.lam k).fr (ws.map some) s.heap H → Vals vs us → spN Γ np r ws vs H Q E → codeAny (model P w) A (.call (.ref f) ⟨us, []⟩) (CR (L2N.CX P w) outer P w H s Q E) s
theorem LamOk.mono {P : Program} {w : World} {K : PySem.W.Frag} {mg : Str → Option Value} {base : Heap} {Γ : Gam} {n n' k np : Nat} {r : List D → List D → Mem → Res D} (o : LamOk P w K mg base Γ n k np r) (h : n ≤ n') : LamOk P w K mg base Γ n' k np r :=
  ⟨fun A outer s H f c cl dV us vs ws Q E hr => o.run A outer s H f c cl dV us vs ws Q E (hr.mono h)⟩
/-- how its arguments are bound -/
def LamBinds (L : LamW) (np : Nat) (ps : List Str) : Prop := ∀ (cl : List (Str × Addr)) (c : Addr) (doc pm ctv : Value) (us : List Value), us.length = np →
  (L.nd = 0 ∧ bindArgs (PySem.W.kdv_fn "<lambda>" L.qual L.params (.expr L.body) L.scope cl .none doc pm (.ref c) ctv) ⟨us, []⟩ = pure (ps.zip us)) ∨
  (L.nd = 1 ∧ ∀ t : Addr, ∃ k, bindArgs (PySem.W.kdv_fn "<lambda>" L.qual L.params (.expr L.body) L.scope cl (.ref t) doc pm (.ref c) ctv) ⟨us, []⟩ = seqItems? (.ref t) >>= k ∧ ∀ u, k (some #[u]) = pure (ps.zip (us ++ [u])))
def lamSlots (nd nn : Nat) (caps ds : List D) : Slots := (ds ++ List.replicate nd (D.int 0)).map some ++ (caps.map some ++ List.replicate (nn - (ds.length + nd) - caps.length) none)
def runLam (nd nn : Nat) (m : DM) (caps ds : List D) (M : Mem) : Res D :=
  match m (lamSlots nd nn caps ds) M with
  | .ok d M' => .ok d (trim M.length [d] M')
  | .exc c fs M' => .exc c fs (trim M.length fs M')
  | .stuck => .stuck
section
variable {P : Program} {w : World} {K : PySem.W.Frag} {mg : Str → Option Value} {base : Heap} {Γ : Gam}
abbrev lamNF (L : LamW) (cl : List (Str × Addr)) (c : Addr) : NF := ⟨"<lambda>", L.qual, L.params, [], L.scope, cl, c⟩
theorem trim_res {σ : L2.St} {P' F : Hp} {ι : List Addr} {M : Mem} {H : Hp} {W : WX} {r : Res D} {Q : VK} (st : St Γ F P' ι M H) (p : Post Γ (fun cls od _ H' => W cls od [] H') P' F ι [] (Rep Γ) (match r with
    | .ok d M' => .ok d (trim M.length [d] M')
    | .exc c fs M' => .exc c fs (trim M.length fs M')
    | .stuck => .stuck) Q) : Post Γ (fun cls od _ H' => W cls od [] H') P' F ι σ (Rep Γ) r Q := by
  cases r with
  | ok d M' =>
    intro v H2 F2 ι2 x2 s2 r2
    obtain ⟨ι3, x3, s3, r3⟩ := trim_ok st x2 s2 (RepL.one r2)
    simp only [RepL] at r3
    obtain ⟨y, _, e', r3, _⟩ := r3
    cases e'
    exact p v H2 F2 ι3 x3 s3 r3
  | exc c fs M' =>
    intro cls od2 H2 F2 ι2 x2 s2 rx
    obtain ⟨ec, rx⟩ := rx
    rcases rx with ⟨rfl, h0⟩ | ⟨dd, xs, e1, e2, e3, r2⟩
    · obtain ⟨ι3, x3, s3, _⟩ := trim_ok st x2 s2 (ds := []) (vs := []) RepL.nil
      exact p cls od2 H2 F2 ι3 x3 s3 ⟨ec, .inl ⟨rfl, h0⟩⟩
    · obtain ⟨ι3, x3, s3, r3⟩ := trim_ok st x2 s2 r2
      exact p cls od2 H2 F2 ι3 x3 s3 ⟨ec, .inr ⟨dd, xs, e1, e2, e3, r3⟩⟩
  | stuck => exact p
theorem reps_of {F : Hp} {ι : List Addr} {ds : List D} {vs : List V} (r : RepL Γ F ι ds vs) {n m : Nat} (h : n = m) : RepS Γ F ι (ds.map some ++ List.replicate n none) (vs.map some ++ List.replicate m none) := by
  subst h
  refine ⟨by simp [r.length], fun i d e => ?_⟩
  have hi : i < ds.length := by
    by_cases hi : i < ds.length
    · exact hi
    · rw [List.getElem?_append_right (by simpa using hi), List.getElem?_replicate] at e
      split at e <;> cases e
  rw [List.getElem?_append_left (by simpa using hi), List.getElem?_map, List.getElem?_eq_getElem hi] at e
  cases e
  obtain ⟨v, e1, rv⟩ := r.get (List.getElem?_eq_getElem hi)
  refine ⟨v, ?_, rv⟩
  rw [List.getElem?_append_left (by rw [List.length_map, r.length]; exact hi), List.getElem?_map, e1]
  rfl
theorem lamok_of {n k np : Nat} {N ps : List Str} {m : DM} (S : NScope N ps (Γ.lam k).fr (Γ.lam k).scope) (hps : ps.length = np + (Γ.lam k).nd) (hb : LamBinds (Γ.lam k) np ps)
    (hbody : ∀ (A : Around) (outer : List Env) (s : Shared) (H : Hp) (E : XK) (f c : Addr) (cl : List (Str × Addr)), Room n (A.deeper (envF (lamNF (Γ.lam k) cl c) f s.heap.objs.size)) →
      DE (ncx (L2N.CX P w) P w K mg base N (lamNF (Γ.lam k) cl c) f A outer s H E) Γ (fun cls d _ H' => E cls d H') (Γ.lam k).body m) :
    LamOk P w K mg base Γ (n + 1) k np (runLam (Γ.lam k).nd N.length m) := by
  refine ⟨fun A outer s H f c cl dV us vs ws Q E hr e0 L C r hsp => ?_⟩
  obtain ⟨F, P', ι, M, caps, ds, st, rc, rd, hl, p⟩ := hsp
  have lim : s.heap.NoLimit := e0.mod.nolimit.keeps fun b o e => (e0.bs b o e).1
  obtain ⟨od, sl, doc, pm, ctv, ho⟩ := lamO_at e0.hok L.fn
  have hul : us.length = np := by rw [← r.length, rd.length, hl]
  -- the bound arguments
  have key : ∃ us2, Vals (vs ++ List.replicate (Γ.lam k).nd (.int 0)) us2 ∧ BindsTo s (PySem.W.kdv_fn "<lambda>" (Γ.lam k).qual (Γ.lam k).params (.expr (Γ.lam k).body) (Γ.lam k).scope cl dV doc pm (.ref c) ctv) ⟨us, []⟩ (ps.zip us2) := by
    rcases hb cl c doc pm ctv us hul with ⟨n0, e⟩ | ⟨n1, e⟩
    · rcases L.df with ⟨_, rfl⟩ | ⟨n2, _⟩
      · refine ⟨us, ?_, BindsTo.of_eq e⟩
        rw [n0, List.replicate_zero, List.append_nil]
        exact r
      · exact absurd n0 n2
    · rcases L.df with ⟨n2, _⟩ | ⟨_, t, rfl, ht⟩
      · rw [n1] at n2; cases n2
      · rw [n1] at ht ⊢
        obtain ⟨_, its, rv, o, h1, h2, j, h3⟩ := (show ObjOk P w H s.heap t (.tup [.int 0]) from e0.hok t _ ht)
        cases rv with
        | cons ru rr =>
          rename_i u _
          cases rr
          obtain ⟨kk, e1, e2⟩ := e t
          exact ⟨us ++ [u], r.append (.cons ru .nil), BindsTo.of_defaults rfl h1 h3 e1 (e2 u)⟩
  obtain ⟨us2, r2, hbind⟩ := key
  have hl2 : (vs ++ List.replicate (Γ.lam k).nd (V.int 0)).length = ps.length := by rw [List.length_append, List.length_replicate, rd.length, hl, hps]
  refine PySem.W.kla_callFunE hr.depth ho rfl S.co S.gen rfl ?_ (hbind _ _ _ _ ?_)
  · obtain ⟨⟨oc, vs, t, h1, h2, h3⟩, _, _⟩ := e0.hok c _ L.code
    exact ⟨c, oc, vs, t, rfl, h1, h2, h3⟩
  refine wpAny_newFunctionEnv S.nocell (fun y hy => S.par y.1 (List.of_mem_zip (show (y.1, y.2) ∈ ps.zip us2 from hy)).1) (fun h₁ hns hsb => ⟨lim.fresh _ hsb, (?_ : codeAny _ _ (.expr (Γ.lam k).body (envF (lamNF (Γ.lam k) cl c) f s.heap.objs.size)) _ _)⟩) S.kind
  have kp : ∀ b o, s.heap.get? b = some o → h₁.get? b = some o := fun b o e => hsb.extBut b o (Nat.ne_of_lt (Heap.lt_size e)) (Heap.get?_push_of_some _ e)
  have I : Inv (ncx (L2N.CX P w) P w K mg base N (lamNF (Γ.lam k) cl c) f A outer s H E) [] (startF N (vs ++ List.replicate (Γ.lam k).nd (.int 0)) (ws.map some)) H { s with heap := h₁, toks := s.toks + (ps.zip us2).length } :=
    inv_startN (F := lamNF (Γ.lam k) cl c) S hr.hd e0 hl2 r2 C hns kp
  refine PySem.W.kla_codeExpr (wpAny_mono ((hbody A outer s H E f c cl (hr.deeper _)).run [] _ _ H Q I ⟨F, P', ι, M, lamSlots (Γ.lam k).nd N.length caps ds, ⟨st, ?_⟩, ?_⟩) (fun v s' hq => ?_) fun e s' hq => hq)
  · have cl := C.len
    rw [List.length_map] at cl
    have rep0 : RepL Γ F ι (List.replicate (Γ.lam k).nd (D.int 0)) (List.replicate (Γ.lam k).nd (V.int 0)) := by
      induction (Γ.lam k).nd with
      | zero => exact RepL.nil
      | succ n ih => exact RepL.cons (by simp only [Rep]) ih
    have ra := (rd.app rep0).app rc
    have e1 : startF N (vs ++ List.replicate (Γ.lam k).nd (V.int 0)) (ws.map some) = ((vs ++ List.replicate (Γ.lam k).nd (V.int 0)) ++ ws).map some ++ List.replicate (N.length - (ds.length + (Γ.lam k).nd) - caps.length) none := by
      unfold startF
      rw [List.map_append (l₂ := ws), List.append_assoc, List.length_append, List.length_replicate, List.length_map, rd.length, rc.length]
    have e2 : lamSlots (Γ.lam k).nd N.length caps ds = ((ds ++ List.replicate (Γ.lam k).nd (D.int 0)) ++ caps).map some ++ List.replicate (N.length - (ds.length + (Γ.lam k).nd) - caps.length) none := by
      unfold lamSlots
      rw [List.map_append (l₂ := caps), List.append_assoc]
    rw [e1, e2]
    exact reps_of ra rfl
  · exact trim_res (W := fun cls od _ H' => E cls od H') st (by unfold runLam at p; exact p)
  · obtain ⟨v', H', J, rv, q⟩ := hq
    exact ⟨v', H', J.os, J.bare, J.base, J.hok, rv, q⟩
end
/-! ### called -/
/-- the captured cells' addresses -/
def capC (cl : List (Str × Addr)) : Addr → Prop := fun b => ∃ y, cl.lookup y = some b
theorem caps_cells {F : Hp} {cl : List (Str × Addr)} {fr : List Str} {ws : List V} (c : CapsAt F cl fr ws) : ∀ b, capC cl b → ∃ o u w, F b = some (CellX b o) ∧ o.data = .cell (some u) ∧ L2.RelV w u := fun b ⟨y, hy⟩ => by
  obtain ⟨i, hi⟩ := List.mem_iff_getElem?.mp (c.dom y b hy)
  obtain ⟨c', o, u, w, h1, h2, h3, h4, h5⟩ := c.has i y hi
  rw [hy] at h1
  cases h1
  exact ⟨o, u, w, h2, h3, h5⟩
def mClo (S : List Nat) (np : Nat) (crun : Nat → List D → List D → Mem → Res D) (i : Nat) (a : DA) : DM := fun σ M => match σ[i]? with
  | some (some (.clo k caps)) => if k ∈ S then (a σ M).bind fun ds M1 => if ds.length = np ∧ noCloL ds = true ∧ noCloL caps = true ∧ M1.all (inO noCloL) = true then crun k caps ds M1 else .stuck
    else .stuck
  | _ => .stuck
section
variable {X : Cx} {Γ : Gam} {W : WX} {S : List Nat} {np n i : Nat} {crun : Nat → List D → List D → Mem → Res D} {x : Str} {p pos : Pos} {a : DA}
theorem clo_run (tk : L2N.Takes X W) (hr : Room n X.A) (lo : ∀ k ∈ S, LamOk X.prog X.w X.K X.mg X.base Γ n k np (crun k)) {pins : List (Addr × Obj)} {σ : L2.St} {H F P : Hp} {ι : List Addr} {M : Mem} {s : Shared} {Q : VK} {k : Nat} {f c : Addr} {cl : List (Str × Addr)} {dV : Value} {ws vs : List V} {us : List Value} {caps ds : List D}
    (I : Inv X pins σ H s) (hk : k ∈ S) (st : St Γ F P ι M H) (L : LamAt F (Γ.lam k) f cl c dV) (C : CapsAt F cl (Γ.lam k).fr ws) (rc : RepL Γ F ι caps ws) (rd : RepL Γ F ι ds vs) (r : Vals vs us) (hl : ds.length = np) (h1 : noCloL ds = true) (h2 : noCloL caps = true) (h3 : M.all (inO noCloL) = true)
    (q : Post Γ W P F ι σ (Rep Γ) (crun k caps ds M) Q) : wpAny (model X.prog X.w) X.A (call (.ref f) us) (EP X pins σ Q) X.xe s := by
  have cc := caps_cells C
  have cH : Cells (capC cl) H := fun b hb => by
    obtain ⟨o, u, w, e, _⟩ := cc b hb
    exact ⟨o, st.fr _ _ e⟩
  have cI : CellsIn (capC cl) H := CellsIn.of I.hok (fun b o z e => by
    obtain ⟨o', e'⟩ := cH b z
    rw [e] at e'
    exact ⟨o', Option.some.inj e'⟩) fun b z => by
    obtain ⟨o, u, w, e, e2, _⟩ := cc b z
    exact ⟨o, some u, cellX_at I.hok (st.fr _ _ e), e2⟩
  have cF := cI.sub st.fr
  have e0 := I.env0
  have L' : LamAt (hid (capC cl) H) (Γ.lam k) f cl c dV := ⟨by rw [hid_out (cF.fn _ _ _ _ _ L.fn)]; exact st.fr _ _ L.fn, by rw [hid_out (cF.code _ _ L.code)]; exact st.fr _ _ L.code, by
    rcases L.df with h | ⟨h, t, e1, e2⟩
    · exact .inl h
    · exact .inr ⟨h, t, e1, only_out cI.cell (st.fr _ _ e2) fun x z => by unfold CellX at z; cases z⟩⟩
  have C' : CellsAt cl (Γ.lam k).fr (ws.map some) s.heap (hid (capC cl) H) := by
    refine ⟨by rw [List.length_map]; exact C.len, fun y b e => ⟨hid_in ⟨y, e⟩, ?_⟩, C.inj, fun j y e => ?_⟩
    · obtain ⟨o, u, w, e1, e2, _⟩ := cc b ⟨y, e⟩
      exact ⟨some u, o, cellX_at I.hok (st.fr _ _ e1), e2⟩
    · obtain ⟨b, o, u, w, h1, h2, h3, h4, h5⟩ := C.has j y e
      refine ⟨b, h1, fun v ev => ⟨u, ?_, o, cellX_at I.hok (st.fr _ _ h2), h3⟩⟩
      rw [List.getElem?_map, h4] at ev
      cases ev
      exact h5
  have sp : spN Γ np (crun k) ws vs (hid (capC cl) H) (fun v H3 => (∀ b, capC cl b → H3 b = none) → Q v (mrg (capC cl) H H3)) (fun cls d H3 => (∀ b, capC cl b → H3 b = none) → W cls d σ (mrg (capC cl) H H3)) := by
    refine ⟨hid (capC cl) F, P, ι, M, caps, ds, st.hid cI h3, repL_hid cF.cell cF.fn cF.code _ _ rc h2, repL_hid cF.cell cF.fn cF.code _ _ rd h1, hl, ?_⟩
    have ext : ∀ {F3 : Hp} {ι3 : List Addr}, Ext (hid (capC cl) F) ι F3 ι3 → Ext F ι (mrg (capC cl) F F3) ι3 := fun {F3 ι3} x => ⟨fun b o e => by
      by_cases z : capC cl b
      · rw [mrg_in z]; exact e
      · rw [mrg_out z]; exact x.f b o (by rw [hid_out z]; exact e), x.i⟩
    have hG : ∀ b o, capC cl b → F b = some o → H b = some o ∧ ∃ x, o = CellX b x := fun b o z e => ⟨st.fr _ _ e, cF.cell b o z e⟩
    cases er : crun k caps ds M with
    | ok d M' =>
      rw [er] at q
      exact fun v H3 F3 ι3 x3 s3 r3 n3 => q v _ _ ι3 (ext x3) (s3.mrg n3 hG) (Rep.ext (ext_mrg fun b z => s3.freshF (n3 b z)) _ _ r3)
    | exc cn fs M' =>
      rw [er] at q
      refine fun cls od H3 F3 ι3 x3 s3 rx n3 => q cls od _ _ ι3 (ext x3) (s3.mrg n3 hG) ⟨rx.1, ?_⟩
      rcases rx.2 with h | ⟨d, xs, a1, a2, a3, a4⟩
      · exact .inl h
      · exact .inr ⟨d, xs, a1, by rw [mrg_out fun z => by rw [n3 d z] at a2; cases a2]; exact a2, a3, RepL.ext (ext_mrg fun b z => s3.freshF (n3 b z)) _ _ a4⟩
    | stuck => rw [er] at q; exact q
  refine wpAny_call (codeAny_mono ((lo k hk).run X.A X.stack s _ f c cl dV us vs ws _ _ hr (env0_hid e0 cH) L' C' r sp) fun res s' hq => ?_)
  cases res with
  | error e =>
    have hc := cx_hid e0 cH hq
    exact tk e s' (L2N.XE.of_call I (fun cls d H4 ⟨H3, e4, n3, w⟩ => by rw [e4]; exact w n3) hc)
  | ok fl =>
    cases fl with
    | ret u =>
      obtain ⟨v, H4, J, rv, H3, e4, n3, w⟩ := I.after (ce_hid e0 cH hq)
      exact ⟨v, H4, J, rv, by rw [e4]; exact w n3⟩
    | next => exact hq.elim
    | brk => exact hq.elim
    | cont => exact hq.elim
theorem clo_fnAt {P : Program} {w : World} {H : Hp} {h : Heap} {f c : Addr} {L : LamW} {cl : List (Str × Addr)} {dV : Value} (hok : HOk P w H h) (e : H f = some (LamO f L cl c dV)) : PySem.W.FnAt f h := by
  obtain ⟨od, sl, doc, pm, ctv, ho⟩ := lamO_at hok e
  exact ⟨_, od, _, sl, ho⟩
/-- x(..), x holds a lambda -/
theorem de_clo {e : Expr} {es : List Expr} (tk : L2N.Takes X W) (hr : Room n X.A) (lo : ∀ k ∈ S, LamOk X.prog X.w X.K X.mg X.base Γ n k np (crun k)) (hN : X.N[i]? = some x) (hv : Vis X.env.scope x) (hd : (x == ("__debug__" : Str)) = false) (hcd : (x == ("__classdict__" : Str)) = false)
    (ha : DAs X Γ W (e :: es) a) (he : starEach (e :: es) X.env = (false, eval e X.env) :: starEach es X.env) (hpl : (backTo pos (starEach es X.env)).any (·.1) = false) : DE X Γ W (.Call (.Name x p) (e :: es) [] pos) (mClo S np crun i a) := by
  refine ⟨fun pins s σ H Q I ⟨F, P, ι, M, σd, nw, q⟩ => ?_⟩
  unfold mClo at q
  split at q
  · rename_i k caps ek
    split at q
    · rename_i hk
      obtain ⟨v, ev, rv⟩ := nw.sl.2 i _ ek
      simp only [Rep] at rv
      obtain ⟨f, cl, c, dV, ws, rfl, L, C, rc⟩ := rv
      refine wpAny_Call_Name_kw (thn ((pe_var (pos := p) hN hv hd hcd).run pins s σ H (fun v H1 => v = .ref f ∧ H1 = H) I ⟨.ref f, ev, rfl, rfl⟩) fun u s1 ⟨v, H1, I1, r1, q1⟩ => ?_)
      obtain ⟨e1, e2⟩ := q1
      subst e1 e2
      obtain rfl : u = Value.ref f := r1
      refine PySem.W.callWith_F (first := []) (clo_fnAt I1.hok (nw.st.fr _ _ L.fn)) (thn (ha.run pos pins s1 σ _ (fun vs H2 => ∃ F2 ι2 M2 ds, Ext F ι F2 ι2 ∧ St Γ F2 P ι2 M2 H2 ∧ RepL Γ F2 ι2 ds vs ∧ Post Γ W P F2 ι2 σ (Rep Γ) (if ds.length = np ∧ noCloL ds = true ∧ noCloL caps = true ∧ M2.all (inO noCloL) = true then crun k caps ds M2 else .stuck) Q) I1
        ⟨F, P, ι, M, σd, nw, Post.seq q fun ds M1 vs H2 F2 ι2 er x2 s2 rd p2 => ⟨F2, ι2, M1, ds, x2, s2, rd, p2⟩⟩) fun us s2 ⟨vs, H2, I2, r2, F2, ι2, M2, ds, x2, st2, rd, p2⟩ => ?_) he hpl
      split at p2
      · rename_i hh
        exact ⟨clo_fnAt I2.hok (st2.fr _ _ (x2.f _ _ L.fn)), clo_run tk hr lo I2 hk st2 (L.ext x2.f) (C.ext x2.f) (RepL.ext x2 _ _ rc) rd r2 hh.1 hh.2.1 hh.2.2.1 hh.2.2.2 p2⟩
      · exact p2.elim
    · exact q.elim
  · exact q.elim
/-- x() -/
theorem de_clo0 (tk : L2N.Takes X W) (hr : Room n X.A) (lo : ∀ k ∈ S, LamOk X.prog X.w X.K X.mg X.base Γ n k np (crun k)) (hN : X.N[i]? = some x) (hv : Vis X.env.scope x) (hd : (x == ("__debug__" : Str)) = false) (hcd : (x == ("__classdict__" : Str)) = false) :
    DE X Γ W (.Call (.Name x p) [] [] pos) (mClo S np crun i aNil) := by
  refine ⟨fun pins s σ H Q I ⟨F, P, ι, M, σd, nw, q⟩ => ?_⟩
  unfold mClo at q
  split at q
  · rename_i k caps ek
    split at q
    · rename_i hk
      obtain ⟨v, ev, rv⟩ := nw.sl.2 i _ ek
      simp only [Rep] at rv
      obtain ⟨f, cl, c, dV, ws, rfl, L, C, rc⟩ := rv
      refine wpAny_Call_Name_kw (thn ((pe_var (pos := p) hN hv hd hcd).run pins s σ H (fun v H1 => v = .ref f ∧ H1 = H) I ⟨.ref f, ev, rfl, rfl⟩) fun u s1 ⟨v, H1, I1, r1, q1⟩ => ?_)
      obtain ⟨e1, e2⟩ := q1
      subst e1 e2
      obtain rfl : u = Value.ref f := r1
      refine PySem.W.callWith_F0 (first := []) (clo_fnAt I1.hok (nw.st.fr _ _ L.fn)) ?_
      unfold aNil Res.bind at q
      dsimp only at q
      split at q
      · rename_i hh
        exact clo_run tk hr lo I1 hk nw.st L C rc RepL.nil .nil hh.1 hh.2.1 hh.2.2.1 hh.2.2.2 q
      · exact q.elim
    · exact q.elim
  · exact q.elim
end
end MT

set_option maxRecDepth 100000
/-! MtLc0: a comprehension whose error is told to the frame that it stands in. -/
namespace MT
open PySem PySem.Spec PyProof.Rows L2 LamX NdefX
section
variable {M : Model} {A : Around} {E : Value → Shared → Prop} {s : Shared} {env : Env}
/-- what is wanted behind the block; acc: the new list, C: its names' dict -/
def blkEnd (M : Model) (A : Around) (E : Value → Shared → Prop) (fr : Option Addr) (use : Option (Value → Sem Unit)) (Q : Value → Shared → Prop) (acc : Value) (C : Addr) : Result → Shared → Prop
  | .ok _, s' => (match use with
    | none => ∃ m, s'.heap.Ns C m ∧ ∀ g, Heap.SameBut C s'.heap g → Q acc { s' with heap := g }
    | some u => wpAny M A (u acc) (fun _ t => ∃ m, t.heap.Ns C m ∧ ∀ g, Heap.SameBut C t.heap g → Q .none { t with heap := g }) E s')
  | .error x, s' => ∃ m, s'.heap.Ns C m ∧ ∀ g, Heap.SameBut C s'.heap g → ∀ ce : Env, ce.frame = fr → wpAny M A (passOn "comprehension.variables-let-go" x ce : Sem Value) (fun _ _ => False) E { s' with heap := g }
theorem comp_told {e : Expr} {scope : Scope} {pos : Pos} {newAcc first : Sem Value} {g : Comprehension} {gs : List Comprehension} {cl : List (Str × Addr)} {use : Option (Value → Sem Unit)} {Q : Value → Shared → Prop} (hcl : clausesOf e = g :: gs) (hfs : ∀ x, foldedSetIterable g.iter env x = pure x)
    (hclo : closureFor scope env = pure cl) (hk : scope.kind = .function) (hn : ∀ x ∈ scope.names, x.2 = .local → scope.names.lookup x.1 = some .local)
    (h : wpAny M A first (fun x t1 => wpAny M A (pyIter x) (fun it t2 => wpAny M A newAcc (fun acc t3 => wpAny M A (newFunctionEnv scope env.globals cl [] env.qual none .none (some env)) (fun ce t4 => ce.frame = env.frame ∧
      codeAny M A (.compStart e 0 it acc { ce with scope := relabel scope env }) (blkEnd M A E env.frame use Q acc ce.locals) t4) E t3) E t2) E t1) E s) :
    wpAny M A (comprehension e scope env pos newAcc false first use) Q E s := by
  unfold comprehension
  rw [hclo, hcl]
  refine wpAny_bind (wpAny_mono h (fun x t1 h1 => wpAny_bind (wpAny_standAt (wpAny_bind (wpAny_of_eq (hfs x) (wpAny_bind (wpAny_holding (wpAny_mono h1 (fun it t2 h2 =>
    wpAny_standIf (wpAny_bind (wpAny_mono h2 (fun acc t3 h3 => wpAny_bind (wpAny_pure (wpAny_bind (wpAny_mono h3 (fun ce t4 ⟨hfr, h4⟩ => ?_) fun _ _ z => z)))) fun _ _ z => z)))
      fun _ _ z => z))))))) fun _ _ z => z)
  dsimp only
  have lo : ∀ x ∈ (scope.names.filter fun x => (x.2 == .local || x.2 == .cell) && x.1 != (".0" : Str)).reverse, x.2 = .local → Env.kindOf { ce with scope := relabel scope env } x.1 = some .local :=
    fun x hx hl => lookup_relabel_local (hn x (List.mem_filter.mp (List.mem_reverse.mp hx)).1 hl)
  have lo2 : ∀ x ∈ (scope.names.filter fun x => (x.2 == .local || x.2 == .cell) && x.1 != (".0" : Str)).reverse.drop 1 ++ (scope.names.filter fun x => (x.2 == .local || x.2 == .cell) && x.1 != (".0" : Str)).reverse.take 1, x.2 = .local →
      Env.kindOf { ce with scope := relabel scope env } x.1 = some .local := fun x hx hl => (List.mem_append.mp hx).elim (fun z => lo x (List.mem_of_mem_drop z) hl) fun z => lo x (List.mem_of_mem_take z) hl
  refine wpAny_holding (wpAny_bind (wpAny_attempt (wpAny_holding (wpAny_run (codeAny_mono h4 fun r s' hr => ?_)))))
  cases r with
  | ok f =>
    cases use with
    | none =>
      obtain ⟨m, hns, hr⟩ := (show ∃ m, s'.heap.Ns ce.locals m ∧ ∀ g, Heap.SameBut ce.locals s'.heap g → Q acc { s' with heap := g } from hr)
      exact wpAny_bind (wpAny_holding (wpAny_comp_letGo (cenv := { ce with scope := relabel scope env }) hk _ s' m lo hns fun _ _ _ sb => wpAny_pure (hr _ sb)))
    | some u =>
      refine wpAny_bind (wpAny_rule (wpAny_bind (wpAny_holding (wpAny_mono (show wpAny M A (u acc) (fun _ t => ∃ m, t.heap.Ns ce.locals m ∧ ∀ g, Heap.SameBut ce.locals t.heap g → Q .none { t with heap := g }) E s' from hr) (fun _ t ⟨m, hns, hr⟩ => ?_) fun _ _ z => z))))
      exact wpAny_bind (wpAny_comp_letGo (cenv := { ce with scope := relabel scope env }) hk _ t m lo2 hns fun _ _ _ sb => wpAny_pure (hr _ sb))
  | error x =>
    obtain ⟨m, hns, hr⟩ := (show ∃ m, s'.heap.Ns ce.locals m ∧ ∀ g, Heap.SameBut ce.locals s'.heap g → ∀ ce : Env, ce.frame = env.frame → wpAny M A (passOn "comprehension.variables-let-go" x ce : Sem Value) (fun _ _ => False) E { s' with heap := g } from hr)
    exact wpAny_bind (wpAny_holding (wpAny_comp_letGo (cenv := { ce with scope := relabel scope env }) hk _ s' m lo hns fun _ _ _ sb => wpAny_mono (hr _ sb _ hfr) (fun _ _ f => f.elim) fun _ _ y => y))
end
/-! ### an error of the block -/
section
variable {M : Model} {A : Around} {E : Value → Shared → Prop} {s : Shared} {Z : Obj → Prop} {B : Heap} {env : Env} {outer : List Env} {L C e : Addr}
/-- marked by another dict's place: the frame is noted -/
theorem looks_held {Q : Unit → Shared → Prop} (hZ : PXN.Steady1 Z) (hfr : A.frames = some (env :: outer)) (hf : env.frame = some L) (hCL : C ≠ L) (fl : HandSPX.HeldZ B (env :: outer) e Z C s.heap)
    (hQ : ∀ g, HandSPX.HeldZ B (env :: outer) e Z L g → s.heap.UpToSlots g → Q () { s with heap := g }) : wpAny M A (noteFrame (.ref e) env) Q E s := by
  obtain ⟨kb, en, hl, oe, vs, T, oT, ts, he, hz, hd, h1, nT, Te, hT, hdT, h3⟩ := fl
  unfold noteFrame
  simp only [hf]
  refine wpAny_bind (wpAny_field he hd h1 ?_)
  rw [if_pos (show (Value.ref T != Value.none) = true by simp)]
  refine wpAny_bind (wpAny_field hT hdT h3 ?_)
  rw [if_neg (show ¬ ((rawInt C == rawInt L) = true) by
    intro z
    have z := beq_iff_eq.mp z
    simp [rawInt] at z
    exact hCL (Int.ofNat_inj.mp z))]
  refine wpAny_bind (wpAny_setField hT hdT (Array.getElem?_eq_some_iff.mp h3).1 ?_)
  have ot : ∀ b, b ≠ T → (s.heap.update T (Obj.mapFields (·.setIfInBounds 3 Value.none))).get? b = s.heap.get? b := fun b hb => Heap.get?_update_other _ _ (Ne.symm hb)
  have nr : ∀ b o, s.heap.get? b = some o → (∀ vs, o.data ≠ .fields vs) → b ≠ T := fun b o hb n q => by
    rw [q, hT] at hb
    injection hb with hb
    subst hb
    exact n ts hdT
  refine PXN.wpAny_entryZ hZ hfr (hl.of_keeps fun b o hb n => ⟨o, (ot b (nr b o hb n)).trans hb, rfl⟩) hf ((ot e (Ne.symm Te)).trans he) (fun b o hb => (ot b fun q => by rw [q, nT] at hb; cases hb).trans (kb b o hb)) en hd (Array.getElem?_eq_some_iff.mp h1).1 hz fun g ⟨x1, x2, x3, x4⟩ => ?_
  exact hQ g ⟨x1, en, x2, x3⟩ fun b o hb n => x4 b o ((ot b (nr b o hb n)).trans hb) n
/-- however it is in the air -/
theorem sky_noted {Q : Unit → Shared → Prop} (hZ : PXN.Steady1 Z) (hfr : A.frames = some (env :: outer)) (hf : env.frame = some L) (hCL : C ≠ L) (x : Sky B (env :: outer) e Z C s.heap)
    (hQ : ∀ g, HandSPX.HeldZ B (env :: outer) e Z L g → s.heap.UpToSlots g → Q () { s with heap := g }) : wpAny M A (noteFrame (.ref e) env) Q E s := by
  rcases x with ⟨hB, hn, hl, oe, vs, he, hz, hd, h1⟩ | fl | hh
  · exact PXN.look_newZ hZ hfr hl hf he hB hn hd h1 hz hQ
  · exact PXN.looks_onZ hZ hfr hf fl hQ
  · exact looks_held hZ hfr hf hCL hh hQ
end
end MT

set_option maxRecDepth 100000
/-! MtLc1: an error leaves a comprehension. -/
namespace MT
open PySem PySem.Spec PyProof.Rows L2 LamX NdefX
theorem note_eq {e : Value} {a b : Env} (h : a.frame = b.frame) : noteFrame e a = noteFrame e b := by
  unfold noteFrame PySem.frameOf
  rw [h]
theorem frames_move {h h2 B B2 : Heap} : ∀ {l : List Env}, h.FunFrames B l → (∀ b, B.get? b = none → B2.get? b = none) → (∀ b ∈ frs l, h2.get? b = h.get? b) → h2.FunFrames B2 l
  | [], _, _, _ => trivial
  | env :: l, ⟨hk, ⟨L, o, hf, hb, ho, hd⟩, hr⟩, n, e => by
    have hm : L ∈ frs (env :: l) := List.mem_filterMap.mpr ⟨env, List.mem_cons_self, hf⟩
    refine ⟨hk, ⟨L, o, hf, n _ hb, (e L hm).trans ho, hd⟩, frames_move hr n fun b hb => e b ?_⟩
    obtain ⟨v, hv, q⟩ := List.mem_filterMap.mp hb
    exact List.mem_filterMap.mpr ⟨v, List.mem_cons_of_mem _ hv, q⟩
section
variable {X : Cx} {W : WX} {scope : Scope} {ce : Env} {fp : List Addr} {use : Option (Value → Sem Unit)} {Qf : Value → Shared → Prop} {acc : Value} {pins : List (Addr × Obj)} {σ : L2.St} {H3 K3 : Hp} {s3 : Shared} {Cc : Addr → Prop} {G : Hp}
theorem blk_takes (tk : L2N.Takes X W) (hs0 : X.stack = X.env :: X.outer) (hf0 : X.env.frame = some X.env.locals) (I3 : Inv X pins σ H3 s3) (hce : ce.frame = X.env.frame) (hcl : ce.locals = s3.heap.objs.size)
    (hfp : ∀ b ∈ fp, (b ∈ X.ex ∨ X.s_0.heap.objs.size ≤ b) ∧ b ≠ X.env.locals ∧ (∀ x c, X.env.cells.lookup x = some c → c ≠ b) ∧ ∀ p ∈ X.pn ++ pins, p.1 ≠ b)
    (hun : ∀ (H8 : Hp) (h8 : Heap), Un (frs X.stack) fp K3 H8 s3.heap h8 → HOk X.prog X.w H8 h8 → (∀ b, Cc b → H8 b = G b) → ∀ h9 : Heap, (∀ b o, s3.heap.get? b = some o → b ∉ frs X.stack → h8.get? b = some o → h9.get? b = some o) → (∀ b o, s3.heap.get? b = some o → b ∉ fp → (∃ o', h8.get? b = some o') → ∃ o', h9.get? b = some o') →
      (∀ b o, s3.heap.get? b = some o → b ∈ frs X.stack → (∃ sl, h8.get? b = some { o with slots := sl }) → ∃ sl, h9.get? b = some { o with slots := sl }) → HOk X.prog X.w H8 h9 → Un (frs X.stack) fp H3 (hid Cc H8) s3.heap h9 ∧ HOk X.prog X.w (hid Cc H8) h9) :
    L2N.Takes ((X.blk s3 K3 scope ce fp).tr [] (notedBy (model X.prog X.w) X.A ce fun e s' => blkEnd (model X.prog X.w) X.A X.xe X.env.frame use Qf acc ce.locals (.error e) s')) (fun cls d _ H8 => (∀ b, Cc b → H8 b = G b) ∧ W cls d σ (hid Cc H8)) := by
  intro u s' x
  obtain ⟨a, B, sI, pins8, σ8, H8, cls, d, rfl, J, nb, up, sky, na, os, ag, hcells, w⟩ := x
  have hfr : X.A.frames = some (X.env :: X.outer) := by rw [I3.ok.frames, hs0]
  have jl : H8 ce.locals = none := J.free
  obtain ⟨m, hn, _⟩ := J.loc
  have hn : sI.heap.Ns ce.locals m := hn
  have nb : ∀ b o, sI.heap.get? b = some o → b ∉ frs X.stack → B.get? b = some o := nb
  have un : Un (frs X.stack) fp K3 H8 s3.heap sI.heap := J.base
  show wpAny (model X.prog X.w) X.A (noteFrame (.ref a) ce) _ _ s'
  rw [note_eq hce]
  have sky : Sky B (X.env :: X.outer) a (L2N.Zn cls d) ce.locals s'.heap := by rw [← hs0]; exact sky
  have hCL : ce.locals ≠ X.env.locals := by
    rw [hcl]
    exact Nat.ne_of_gt I3.lt
  refine sky_noted L2N.Zn.steady hfr hf0 hCL sky fun g hh upg => ?_
  -- the names' dict in g
  have nsg : g.Ns ce.locals m := by
    obtain ⟨o, es, ep, e1, e2, e3⟩ := hn
    obtain ⟨sl, e4⟩ := up _ _ e1 (fun vs z => by rw [e2] at z; cases z)
    obtain ⟨sl2, e5⟩ := upg _ _ e4 (fun vs z => by
      have z : o.data = .fields vs := z
      rw [e2] at z
      cases z)
    exact ⟨_, es, ep, e5, e2, e3⟩
  refine ⟨m, nsg, fun g2 sb ce2 hce2 => ?_⟩
  have oth : ∀ b, b ≠ ce.locals → g2.get? b = g.get? b := fun b hb => sb.2 b hb
  obtain ⟨kb, en, ff, oe, vs, T, oT, ts, he, hz, hd, h1, nT, Te, hT, hdT, h3⟩ := hh
  have aC : a ≠ ce.locals := fun z => by
    obtain ⟨o, es, ep, e1, e2, _⟩ := nsg
    rw [← z, he] at e1
    cases e1
    rw [hd] at e2
    cases e2
  have TC : T ≠ ce.locals := fun z => by
    obtain ⟨o, es, ep, e1, e2, _⟩ := nsg
    rw [← z, hT] at e1
    cases e1
    rw [hdT] at e2
    cases e2
  have frC : ∀ b ∈ frs X.stack, b ≠ ce.locals := fun b hb z => by
    have hlt : b < s3.heap.objs.size := by
      rcases List.mem_cons.mp (I3.stkSub b hb) with e | e
      · rw [e]; exact I3.lt
      · obtain ⟨_, o, ho, _⟩ := I3.ok.funs.mem e
        exact Nat.lt_of_lt_of_le (Heap.lt_size ho) I3.sz
    rw [z, hcl] at hlt
    exact Nat.lt_irrefl _ hlt
  obtain ⟨B2, r1, r2⟩ := restrict g2 fun b => (B.get? b).isSome
  have b2n : ∀ b, B.get? b = none → B2.get? b = none := fun b e => r2 b (by rw [e]; rfl)
  have st2 : B2.StaysIn g2 := fun b o e => by
    cases q : (B.get? b).isSome with
    | false => rw [r2 b q] at e; cases e
    | true => rw [r1 b q] at e; exact e
  have bB : ∀ b o, b ≠ ce.locals → B.get? b = some o → B2.get? b = some o := fun b o hb e => by
    rw [r1 b (by rw [e]; rfl), oth b hb]
    exact kb b o e
  have ff2 : g2.FunFrames B2 (X.env :: X.outer) := frames_move ff b2n fun b hb => oth b (frC b (by rw [hs0]; exact hb))
  have tr2 : HandSPX.TracedZ g2 B2 a (L2N.Zn cls d) (rawInt X.env.locals) := ⟨oe, vs, T, oT, ts, (oth a aC).trans he, hz, hd, h1, b2n _ nT, Te, (oth T TC).trans hT, hdT, h3⟩
  unfold PySem.passOn
  refine wpAny_bind (wpAny_field ((oth a aC).trans he) hd h1 ?_)
  rw [if_neg (show ¬ ((Value.ref T == Value.none) = true) by simp)]
  have fin : wpAny (model X.prog X.w) X.A (setFlight (.ref a) ce2.frame) (fun _ s4 => wpAny (model X.prog X.w) X.A (throw (.ref a) : Sem Value) (fun _ _ => False) X.xe s4) X.xe { s' with heap := g2 } := by
    rw [hce2, hf0]
    refine HandSPX.setFlight_anyZ (fl := rawInt X.env.locals) (l := X.env :: X.outer) st2 ff2 tr2 fun g3 k1 k2 k3 k4 => wpAny_throw (tk _ _ ?_)
    obtain ⟨G2, q1, q2⟩ := restrict g3 fun b => (B2.get? b).isSome || decide (b ∈ frs X.stack)
    have gB : ∀ b o, B2.get? b = some o → G2.get? b = some o := fun b o e => by
      rw [q1 b (by simp [e])]
      exact k1 b o e
    have gF : ∀ b, b ∈ frs X.stack → G2.get? b = g3.get? b := fun b hb => q1 b (by simp [hb])
    have og : ∀ b o, G2.get? b = some o → g3.get? b = some o ∧ ((B2.get? b).isSome = true ∨ b ∈ frs X.stack) := fun b o e => by
      cases q : ((B2.get? b).isSome || decide (b ∈ frs X.stack)) with
      | false => rw [q2 b q] at e; cases e
      | true =>
        rw [q1 b q] at e
        exact ⟨e, by simpa [Bool.or_eq_true] using q⟩
    have low : ∀ {b : Addr} {o : Obj}, s3.heap.get? b = some o → b ≠ ce.locals := fun {b o} e z => by
      have := Heap.lt_size e
      rw [z, hcl] at this
      exact Nat.lt_irrefl _ this
    have chain : ∀ b ∈ frs X.stack, ∀ o, s3.heap.get? b = some o → ∀ sl, sI.heap.get? b = some { o with slots := sl } → ∃ sl, G2.get? b = some { o with slots := sl } := fun b hb o e sl e8 => by
      obtain ⟨_, o', e', hnf⟩ := J.ok.funs.mem hb
      have e' : s3.heap.get? b = some o' := e'
      rw [e] at e'
      cases e'
      obtain ⟨s1, e1⟩ := up b _ e8 hnf
      obtain ⟨s2, e2⟩ := upg b _ e1 hnf
      obtain ⟨s4, e4⟩ := k4 b _ ((oth b (frC b hb)).trans e2) hnf
      exact ⟨s4, (gF b hb).trans e4⟩
    have H8B2 : HOk X.prog X.w H8 B2 := fun b o q => ((J.inGround nb) b o q).stay (fun c v hc r => bB c v (fun z => by
      rcases hc with hc | hc
      · rw [hc] at z; rw [← z] at jl; rw [jl] at q; cases q
      · rw [z, jl] at hc; cases hc) r) (fun _ r => r) fun _ _ r => r
    have key := hun H8 sI.heap un J.hok hcells G2 (fun b o e hb e8 => gB b o (bB b o (low e) (nb b o e8 hb))) (fun b o e hx ⟨o', e8⟩ => ?_) (fun b o e hb ⟨sl, e8⟩ => ?_) (H8B2.kept gB)
    · refine ⟨a, B2, { s3 with heap := G2, gens := s'.gens, drawn := s'.drawn, toks := s'.toks }, pins, σ, hid Cc H8, cls, d, rfl, ?_, fun b o e hb => ?_, Heap.UpToSlots.of_keeps fun b o e => (og b o e).1, .inr (.inr ?_), ?_, ?_, ag, w⟩
      · exact I3.call (ch := fp) key.1 key.2 ag hfp
      · obtain ⟨e', h⟩ := og b o e
        rcases h with h | h
        · obtain ⟨o', q⟩ := Option.isSome_iff_exists.mp h
          have z := k1 b o' q
          rw [e'] at z
          cases z
          exact q
        · exact absurd h hb
      · rw [hs0]
        exact ⟨k1, b2n _ en, k2, k3⟩
      · by_cases z : Cc a
        · exact hid_in z
        · rw [hid_out z]; exact na
      · have e1 : s'.os = sI.os := os
        have e2 : sI.os = s3.os := J.os
        exact e1.trans e2
    · by_cases hb : b ∈ frs X.stack
      · obtain ⟨sl, q⟩ := un.slot b o e (J.ok.frf b hb) hb hx
        obtain ⟨sl2, q2⟩ := chain b hb o e sl q
        exact ⟨_, q2⟩
      · exact ⟨o', gB b o' (bB b o' (low e) (nb b o' e8 hb))⟩
    · exact chain b hb o e sl e8
  first
    | exact wpAny_bind (wpAny_pure (wpAny_bind fin))
    | exact wpAny_bind fin
end
end MT

set_option maxRecDepth 100000
/-! MtLc2: the core of a comprehension: its errors reach the frame; the frame's cells may be known within. -/
namespace MT
open PySem PySem.Spec PyProof.Rows L2 LamX NdefX
/-- which of the frame's cells are known within the block -/
structure Known (X : Cx) (σ : L2.St) (scope : Scope) (kn : Bool) (Cc : Addr → Prop) (G H1 : Hp) : Prop where
  dom : ∀ b, Cc b → kn = true ∧ ∃ y, X.env.cells.lookup y = some b ∧ scope.names.lookup y ≠ some .free
  all : kn = true → ∀ y b, X.env.cells.lookup y = some b → scope.names.lookup y ≠ some .free → Cc b
  fresh : ∀ b, Cc b → H1 b = none
  val : ∀ y b, X.env.cells.lookup y = some b → Cc b → ∃ o w, G b = some (CellX b o) ∧ o.data = .cell w ∧ ∀ (j : Nat) (v : V), X.N[j]? = some y → σ[j]? = some (some v) → (X.env.scope.names.lookup y = some .cell ∨ X.env.scope.names.lookup y = some .free) → ∃ u, w = some u ∧ L2.RelV v u
  heap : ∃ h : Heap, ∀ b, Cc b → ∃ o v, G b = some (CellX b o) ∧ h.get? b = some o ∧ o.data = .cell v
def tLc2 (kn : Bool) (X : Cx) (scope : Scope) (W : WX) (wi : TI) (g : TG) (tt : TT) (te : WX → TE) (vs : List Nat) : TE := fun σ H Q => wi σ H fun J H1 => ∀ (D : Addr) (Cc : Addr → Prop) (G : Hp), H1 D = none → ¬ Cc D → Known X σ scope kn Cc G H1 →
  ∃ V : Nat → Nat → Hp → Prop, (∃ m, V 0 m (mrg Cc G (upd H1 D (.lst [])))) ∧ ∀ i m H, V i m H → (J.stop i H ∧ (∀ b, Cc b → H b = G b) ∧ Q (.ref D) (hid Cc H)) ∨
    (J.go i H ∧ ∃ Nx : Hp → Prop, (∀ H', Nx H' → ∃ m', m' < m ∧ V (i + 1) m' H') ∧ ∀ x H', J.yld i H x H' → g x (wipe σ vs) H' fun σ2 H2 => wipe σ2 vs = wipe σ vs ∧ tt σ2 H2 fun b H3 =>
      if b = true then te (fun cls d _ H4 => (∀ b, Cc b → H4 b = G b) ∧ W cls d σ (hid Cc H4)) σ2 H3 fun y H4 => ∃ acc, H4 D = some (.lst acc) ∧ acc.length < sizeLine ∧ Nx (upd H4 D (.lst (acc ++ [y]))) else Nx H3)
abbrev blkT (X : Cx) (s : Shared) (H : Hp) (scope : Scope) (C : Addr) (cl : List (Str × Addr)) (fp : List Addr) (xe : Value → Shared → Prop) : Cx := (X.blk s H scope (compEnvC scope cl C X.env) fp).tr [] xe
/-- what is known within, taken away behind it -/
theorem un_hid {fs ex : List Addr} {H H8 G : Hp} {h h8 h9 : Heap} {Cc : Addr → Prop} {P : Program} {w : World} (hC : ∀ b, Cc b → H b = none ∧ ∃ o, G b = some (CellX b o) ∧ h.get? b = some o) (hf : ∀ b ∈ fs, ¬ Cc b) (hx : ∀ b ∈ ex, ¬ Cc b)
    (un : Un fs ex (mrg Cc G H) H8 h h8) (hok : HOk P w H8 h8) (hc : ∀ b, Cc b → H8 b = G b) (k1 : ∀ b o, h.get? b = some o → b ∉ fs → h8.get? b = some o → h9.get? b = some o) (k2 : ∀ b o, h.get? b = some o → b ∉ ex → (∃ o', h8.get? b = some o') → ∃ o', h9.get? b = some o')
    (k3 : ∀ b o, h.get? b = some o → b ∈ fs → (∃ sl, h8.get? b = some { o with slots := sl }) → ∃ sl, h9.get? b = some { o with slots := sl }) (hok9 : HOk P w H8 h9) : Un fs ex H (hid Cc H8) h h9 ∧ HOk P w (hid Cc H8) h9 := by
  have cH8 : Cells Cc H8 := fun b z => by
    obtain ⟨_, o, e, _⟩ := hC b z
    exact ⟨o, by rw [hc b z]; exact e⟩
  have up : ∀ {b}, ¬ Cc b → mrg Cc G H b = H b := fun {b} n => mrg_out n
  have no : ∀ {b o}, H b = some o → ¬ Cc b := fun {b o} e z => by rw [(hC b z).1] at e; cases e
  refine ⟨⟨fun b o e n hb hbx => ?_, fun b o e n hb hbx => ?_, fun b o e n hbx => ?_, fun b o e hbx => k2 b o e hbx (un.there b o e hbx), fun b xs e => ?_, fun b o u e => ?_, fun b ps e => ?_⟩, hid_ok hok9 cH8⟩
  · by_cases z : Cc b
    · obtain ⟨_, o', e1, e2⟩ := hC b z
      rw [e] at e2
      cases e2
      exact k1 b o e hb (cellX_at hok (by rw [hc b z]; exact e1))
    · exact k1 b o e hb (un.keep b o e (by rw [up z]; exact n) hb hbx)
  · exact k3 b o e hb (un.slot b o e (by rw [up (hf b hb)]; exact n) hb hbx)
  · by_cases z : Cc b
    · exact hid_in z
    · rw [hid_out z]; exact un.free b o e (by rw [up z]; exact n) hbx
  · rw [hid_out (no e)]; exact un.tups b xs (by rw [up (no e)]; exact e)
  · rw [hid_out (no e)]; exact un.frzs b o u (by rw [up (no e)]; exact e)
  · rw [hid_out (no e)]; exact un.tbls b ps (by rw [up (no e)]; exact e)
section
variable {X : Cx} {W : WX}
theorem lc_core2 {kn : Bool} {pins : List (Addr × Obj)} {s : Shared} {σ : L2.St} {H : Hp} {Q : VK} {elt tg iter : Expr} {ifs : List Expr} {scope : Scope} {own : List (Str × Nat)} {pos pos' : Pos} {wi : TI} {g : TG} {tt : TT} {te : WX → TE} {use : Option (Value → Sem Unit)} {Qf : Value → Shared → Prop} (tk : L2N.Takes X W)
    (hs0 : X.stack = X.env :: X.outer) (hf0 : X.env.frame = some X.env.locals) (hab : kn = true → ∀ y c, X.env.cells.lookup y = some c → X.s_0.heap.objs.size ≤ c) (hc : X.calm = true) (hN : X.N.Nodup) (I : Inv X pins σ H s) (hi : PI X tg iter wi) (ok : BlkOk X.N X.env.scope scope own)
    (hg : ∀ (s : Shared) (H : Hp) (C : Addr) (cl : List (Str × Addr)) (fp : List Addr) (xe : Value → Shared → Prop), PG (blkT X s H scope C cl fp xe) tg g) (ht : ∀ (s : Shared) (H : Hp) (C : Addr) (cl : List (Str × Addr)) (fp : List Addr) (xe : Value → Shared → Prop), PTs (blkT X s H scope C cl fp xe) ifs tt)
    (he : ∀ (s : Shared) (H : Hp) (C : Addr) (cl : List (Str × Addr)) (fp : List Addr) (xe : Value → Shared → Prop) (W' : WX), L2N.Takes (blkT X s H scope C cl fp xe) W' → PE (blkT X s H scope C cl fp xe) elt (te W')) (hs : ∀ x, foldedSetIterable iter X.env x = pure x)
    (h : tLc2 kn X scope W wi g tt te (own.map (·.2)) σ H Q)
    (hRR : ∀ D C s' m H', Inv X pins σ H' s' → Q (.ref D) H' → s'.heap.Ns C m → FpOk X pins H' C → blkEnd (model X.prog X.w) X.A X.xe X.env.frame use Qf (.ref D) C (.ok .next) s') :
    wpAny (model X.prog X.w) X.A (comprehension (.ListComp elt [⟨tg, iter, ifs, 0⟩] scope pos) scope X.env pos' (newList []) false (eval iter X.env) use) Qf X.xe s := by
  have hfree : ∀ y ∈ scope.names, y.2 = .free → ∃ c, X.env.cells.lookup y.1 = some c := fun y hy e => (ok.free y hy e).elim (fun k => I.ok.has _ (.inl k)) fun k => I.ok.has _ (.inr k)
  refine comp_told (use := use) rfl hs (closure_ok hfree) ok.kind (fun y hy e => by rw [ok.uniq y hy, e]) (thn (hi.run pins s σ H _ I h) fun xv s1 hx => thn hx fun itv s2 h2 => ?_)
  obtain ⟨it, fp, tn, J, H2, e, I2, T, st2, f2, q⟩ := h2
  subst e
  refine wpAny_newObj_type (newEnv_comp ⟨rfl, ?_⟩) (by show 0 ≤ sizeLine; decide)
  generalize hD : s2.heap.objs.size = D
  have hDn : H2 D = none := I2.hok.fresh (Nat.le_of_eq hD)
  generalize hs3 : ({ s2 with heap := s2.heap.push { cls := .type "list", data := .seq ([] : List Value).toArray } } : Shared) = s3
  have h3 : s3.heap = s2.heap.push { cls := .type "list", data := .seq ([] : List Value).toArray } := by rw [← hs3]
  have I3 : Inv X pins σ (upd H2 D (.lst [])) s3 := by
    rw [← hs3]
    refine I2.laid (t' := s2.toks) (fun b o e => Heap.get?_push_of_some _ e) (Nat.le_of_eq hD) ⟨Nat.zero_le _, [], 0, .nil, ?_⟩
    rw [← hD]
    exact Heap.get?_push_size _ rfl
  -- the cells that are known within
  obtain ⟨Cc, hCc⟩ : ∃ Cc : Addr → Prop, Cc = fun b => kn = true ∧ ∃ y, X.env.cells.lookup y = some b ∧ scope.names.lookup y ≠ some .free := ⟨_, rfl⟩
  obtain ⟨G, hG⟩ : ∃ G : Hp, G = fun b => (s3.heap.get? b).map (CellX b) := ⟨_, rfl⟩
  have cIn : ∀ b, Cc b → kn = true ∧ ∃ y, X.env.cells.lookup y = some b ∧ scope.names.lookup y ≠ some .free := fun b z => by rw [hCc] at z; exact z
  have cObj : ∀ b, Cc b → ∃ o w, s3.heap.get? b = some o ∧ o.data = .cell w ∧ G b = some (CellX b o) := fun b z => by
    obtain ⟨_, y, e, _⟩ := cIn b z
    obtain ⟨w, o, e1, e2⟩ := I3.cell y b e
    exact ⟨o, w, e1, e2, by rw [hG]; show (s3.heap.get? b).map _ = _; rw [e1]; rfl⟩
  have cNo : ∀ b, Cc b → upd H2 D (.lst []) b = none := fun b z => by
    obtain ⟨_, y, e, _⟩ := cIn b z
    exact I3.freeC y b e
  have nD : ¬ Cc D := fun z => by
    have := cNo D z
    rw [upd_same] at this
    cases this
  have kwn : Known X σ scope kn Cc G H2 := by
    refine ⟨cIn, fun k y b e n => by rw [hCc]; exact ⟨k, y, e, n⟩, fun b z => ?_, fun y b e z => ?_, ⟨s3.heap, fun b z => (by
      obtain ⟨o, w, e1, e2, e3⟩ := cObj b z
      exact ⟨o, w, e3, e1, e2⟩)⟩⟩
    · have := cNo b z
      rw [upd_ne (show b ≠ D from fun q => nD (by rw [← q]; exact z))] at this
      exact this
    · obtain ⟨o, w, e1, e2, e3⟩ := cObj b z
      refine ⟨o, w, e3, e2, fun j v ej ev hk => ?_⟩
      obtain ⟨m, hn, hl⟩ := I3.loc
      obtain ⟨u, r, l⟩ := hl j y v ej ev (hk.elim (fun z => .inr (.inl z)) fun z => .inr (.inr z))
      rcases l with ⟨z', _⟩ | ⟨_, c', hc', o', e4, e5⟩
      · have z' : X.env.scope.names.lookup y = some .local := z'
        rcases hk with k | k <;> rw [k] at z' <;> cases z'
      · rw [e] at hc'
        cases hc'
        rw [e1] at e4
        cases e4
        rw [e2] at e5
        cases e5
        exact ⟨u, rfl, r⟩
  obtain ⟨V, ⟨m0, w0⟩, turn⟩ := q D Cc G hDn nD kwn
  have sz : ∀ b ∈ fp, b < s2.heap.objs.size := fun b hb => by
    obtain ⟨o, e, _⟩ := T.obj _ _ st2 b hb
    exact Heap.lt_size e
  have f3 : ∀ b ∈ fp, FpOk X pins (upd H2 D (.lst [])) b ∧ b < s3.heap.objs.size := fun b hb => by
    have hlt := sz b hb
    refine ⟨⟨?_, (f2 b hb).2⟩, by rw [h3, Heap.size_push]; exact Nat.lt_succ_of_lt hlt⟩
    rw [upd_ne (by rw [← hD]; exact Nat.ne_of_lt hlt)]
    exact (f2 b hb).1
  have st3 : tn 0 s3.heap := T.keep _ _ _ st2 fun b _ o e => by rw [h3]; exact Heap.get?_push_of_some _ e
  have I4 := block_start I3 ok hN f3
  have cCells : ∀ x c, (cellsFrom (s3.heap.objs.size + 1) scope.names (cloFrom X.env.cells scope.names [])).lookup x = some c → ¬ Cc c := fun x c e z => by
    obtain ⟨_, y, ey, ny⟩ := cIn c z
    have e1 := PySem.mem_of_lookup e
    rw [← Heap.size_push s3.heap { cls := .type "dict", data := .dict #[] }] at e1
    rcases cells_mem e1 with hm | ⟨_, hge, _⟩
    · rcases cloFrom_mem hm with hm | ⟨hn, hcv⟩
      · cases hm
      · obtain ⟨c1, hc1⟩ := hfree _ hn rfl
        have hc1 : X.env.cells.lookup x = some c1 := hc1
        rw [hc1] at hcv
        have hcv : c = c1 := hcv
        subst hcv
        have := I.ok.inj x y c hc1 ey
        subst this
        exact ny (ok.uniq _ hn)
    · obtain ⟨w, zc⟩ := I3.cell y c ey
      rw [Heap.size_push] at hge
      exact Nat.lt_irrefl _ (Nat.lt_of_lt_of_le zc.lt (Nat.le_of_succ_le hge))
  have cFr : ∀ b ∈ frs X.stack, ¬ Cc b := fun b hb z => by
    obtain ⟨k, y, ey, _⟩ := cIn b z
    have ge := hab k y b ey
    rcases List.mem_cons.mp (I3.stkSub b hb) with q | q
    · obtain ⟨m, hn, _⟩ := I3.loc
      obtain ⟨o, es, ep, e1, e2, _⟩ := hn
      obtain ⟨w, o', e3, e4⟩ := I3.cell y b ey
      rw [← q, e3] at e1
      cases e1
      rw [e4] at e2
      cases e2
    · obtain ⟨_, o, ho, _⟩ := I3.ok.funs.mem q
      exact Nat.lt_irrefl _ (Nat.lt_of_lt_of_le (Heap.lt_size ho) ge)
  have cFp : ∀ b ∈ fp, ¬ Cc b := fun b hb z => by
    obtain ⟨o, e, n⟩ := T.obj _ _ st3 b hb
    obtain ⟨o', w, e1, e2, _⟩ := cObj b z
    rw [e] at e1
    cases e1
    exact n w e2
  have cBase : ∀ b o, X.base.get? b = some o → ¬ Cc b := fun b o e z => by
    obtain ⟨k, y, ey, _⟩ := cIn b z
    have ge := hab k y b ey
    exact Nat.lt_irrefl _ (Nat.lt_of_lt_of_le (Heap.lt_size e) (Nat.le_trans I3.ok.bsz ge))
  have hC : ∀ b, Cc b → upd H2 D (.lst []) b = none ∧ ∃ o, G b = some (CellX b o) ∧ s3.heap.get? b = some o := fun b z => by
    obtain ⟨o, w, e1, e2, e3⟩ := cObj b z
    exact ⟨cNo b z, o, e3, e1⟩
  have nfp : ∀ b ∈ fp, mrg Cc G (upd H2 D (.lst [])) b = none := fun b hb => by rw [mrg_out (cFp b hb)]; exact (f3 b hb).1.1
  show codeAny _ _ (.compStart (.ListComp elt [⟨tg, iter, ifs, 0⟩] scope pos) 0 (.ref it) (.ref D) (compEnvC scope (cellsFrom (s3.heap.objs.size + 1) scope.names (cloFrom X.env.cells scope.names [])) s3.heap.objs.size X.env)) (blkEnd (model X.prog X.w) X.A X.xe X.env.frame use Qf (.ref D) s3.heap.objs.size) { s3 with heap := pushCells (s3.heap.push { cls := .type "dict", data := .dict #[] }) scope.names }
  generalize hcl : cellsFrom (s3.heap.objs.size + 1) scope.names (cloFrom X.env.cells scope.names []) = cl at I4 cCells ⊢
  generalize hH3 : upd H2 D (.lst []) = H3 at I3 I4 w0 nfp f3 hC cNo
  have kp4 : ∀ b o, s3.heap.get? b = some o → (pushCells (s3.heap.push { cls := .type "dict", data := .dict #[] }) scope.names).get? b = some o := fun b o e => pushCells_keeps _ _ _ _ (Heap.get?_push_of_some _ e)
  generalize hs4 : ({ s3 with heap := pushCells (s3.heap.push { cls := .type "dict", data := .dict #[] }) scope.names } : Shared) = s4 at I4 ⊢
  have kp : ∀ b o, s3.heap.get? b = some o → s4.heap.get? b = some o := fun b o e => by rw [← hs4]; exact kp4 b o e
  have st4 : tn 0 s4.heap := T.keep _ _ _ st3 fun b _ o e => kp b o e
  obtain ⟨xe, hxe⟩ : ∃ xe : Value → Shared → Prop, xe = notedBy (model X.prog X.w) X.A (compEnvC scope cl s3.heap.objs.size X.env) fun e s' => blkEnd (model X.prog X.w) X.A X.xe X.env.frame use Qf (.ref D) s3.heap.objs.size (.error e) s' := ⟨_, rfl⟩
  have pg := hg s3 (mrg Cc G H3) s3.heap.objs.size cl fp xe
  have pt := ht s3 (mrg Cc G H3) s3.heap.objs.size cl fp xe
  have fpc : ∀ b ∈ fp, (b ∈ X.ex ∨ X.s_0.heap.objs.size ≤ b) ∧ b ≠ X.env.locals ∧ (∀ x c, X.env.cells.lookup x = some c → c ≠ b) ∧ ∀ p ∈ X.pn ++ pins, p.1 ≠ b := fun b hb => ⟨(f3 b hb).1.2.2.2.1, (f3 b hb).1.2.1, (f3 b hb).1.2.2.2.2.1, (f3 b hb).1.2.2.2.2.2⟩
  have tkB : L2N.Takes (blkT X s3 (mrg Cc G H3) scope s3.heap.objs.size cl fp xe) (fun cls d _ H8 => (∀ b, Cc b → H8 b = G b) ∧ W cls d σ (hid Cc H8)) := by
    rw [hxe]
    exact blk_takes (ce := compEnvC scope cl s3.heap.objs.size X.env) (acc := .ref D) tk hs0 hf0 I3 rfl rfl fpc fun H8 h8 un hok hc h9 k1 k2 k3 hok9 => un_hid hC cFr cFp un hok hc k1 k2 k3 hok9
  have pe := he s3 (mrg Cc G H3) s3.heap.objs.size cl fp xe _ tkB
  have I4' : Inv (blkT X s3 (mrg Cc G H3) scope s3.heap.objs.size cl fp xe) [] (wipe σ (own.map (·.2))) (mrg Cc G H3) s4 := by
    have hokM : HOk X.prog X.w (mrg Cc G H3) s4.heap := mrg_ok I4.hok fun b z => ⟨cNo b z, by
      obtain ⟨_, o, e1, e2⟩ := hC b z
      exact ⟨o, e1, kp b o e2⟩⟩
    have nL : ¬ Cc s3.heap.objs.size := fun z => by
      obtain ⟨o, w, e1, _⟩ := cObj _ z
      exact Nat.lt_irrefl _ (Heap.lt_size e1)
    refine ⟨⟨I4.ok.mod, I4.ok.kind, I4.ok.glob, I4.ok.blt, I4.ok.above, I4.ok.inj, I4.ok.has, I4.ok.cab, I4.ok.hd, I4.ok.frames, I4.ok.stk, I4.ok.exf, fun b o e => ⟨(I4.ok.bs b o e).1, ?_⟩, I4.ok.bsz, I4.ok.noex, I4.ok.exfs, I4.ok.funs, fun b hb => ?_⟩, I4.os, I4.bare, Un.kept kp, I4.loc, I4.cell, ?_, fun x c e => ?_, fun p hp => absurd (show p ∈ ([] : List (Addr × Obj)) ++ [] from hp) (by simp), hokM, I4.len⟩
    · rw [show (blkT X s3 (mrg Cc G H3) scope s3.heap.objs.size cl fp xe).H_0 b = mrg Cc G H3 b from rfl, mrg_out (cBase b o e)]
      exact (I4.ok.bs b o e).2
    · rw [show (blkT X s3 (mrg Cc G H3) scope s3.heap.objs.size cl fp xe).H_0 b = mrg Cc G H3 b from rfl, mrg_out (cFr b hb)]
      exact I4.ok.frf b hb
    · rw [mrg_out (show ¬ Cc (compEnvC scope cl s3.heap.objs.size X.env).locals from nL)]
      exact I4.free
    · rw [mrg_out (cCells x c e)]
      exact I4.freeC x c e
  have stat : ∀ {σ' : L2.St} {H' : Hp} {s' : Shared}, Inv (blkT X s3 (mrg Cc G H3) scope s3.heap.objs.size cl fp xe) [] σ' H' s' → (∀ b ∈ fp, H' b = none) → ∀ b ∈ fp, FpOk (blkT X s3 (mrg Cc G H3) scope s3.heap.objs.size cl fp xe) [] H' b := fun {σ' H' s'} I' hn b hb =>
    ⟨hn b hb, (I'.ok.exf b hb).1, I'.ok.exfs b hb, .inl hb, fun x c e => (I'.ok.exf b hb).2 x c e, fun p hp => absurd (show p ∈ ([] : List (Addr × Obj)) ++ [] from hp) (by simp)⟩
  have loop : codeAny (model X.prog X.w) X.A (.compLoop (.ListComp elt [⟨tg, iter, ifs, 0⟩] scope pos) 0 (.ref it) (.ref D) (compEnvC scope cl s3.heap.objs.size X.env)) (blkEnd (model X.prog X.w) X.A X.xe X.env.frame use Qf (.ref D) s3.heap.objs.size) s4 := by
    refine compLoop_any (fun n s' => ∃ i H', Inv (blkT X s3 (mrg Cc G H3) scope s3.heap.objs.size cl fp xe) [] (wipe σ (own.map (·.2))) H' s' ∧ tn i s'.heap ∧ (∀ b ∈ fp, H' b = none) ∧ V i n H') ?_ m0 ⟨0, mrg Cc G H3, I4', st4, nfp, w0⟩
    rintro n s5 ⟨i, H5, I5, st5, n5, w5⟩
    rw [← hxe]
    rcases turn i n H5 w5 with ⟨stop, hcc, qq⟩ | ⟨go, Nx, hNx, step⟩
    · refine thn (T.done (blkT X s3 (mrg Cc G H3) scope s3.heap.objs.size cl fp xe) rfl rfl rfl hc i [] s5 _ H5 xe I5 (stat I5 n5) st5 stop) fun r s6 ⟨hr, I6⟩ => ?_
      subst hr
      have un6 := un_hid hC cFr cFp I6.base I6.hok hcc (fun b o _ _ e => e) (fun b o _ _ e => e) (fun b o _ _ e => e) I6.hok
      have I7 : Inv X pins σ (hid Cc H5) s6 := I3.call' (ch := fp) I6.os un6.1 un6.2 I6.bare fpc
      have nC : hid Cc H5 s3.heap.objs.size = none := by
        have z : H5 s3.heap.objs.size = none := I6.free
        by_cases c : Cc s3.heap.objs.size
        · exact hid_in c
        · rw [hid_out c]; exact z
      obtain ⟨m, hn, _⟩ := I6.loc
      exact hRR D s3.heap.objs.size s6 m _ I7 qq hn (I3.fpOk (Nat.le_refl _) nC)
    · refine thn (T.item (blkT X s3 (mrg Cc G H3) scope s3.heap.objs.size cl fp xe) rfl rfl rfl hc i [] s5 _ H5 xe I5 (stat I5 n5) st5 go) fun r s6 ⟨u, hr, h6⟩ => ?_
      subst hr
      refine thn h6 fun _ s7 ⟨x, H7, I7, r7, y7, st7, n7⟩ => ?_
      have I7' := I7.pinned (stat I7 n7) (T.obj _ _ st7)
      refine thn (pg.run _ s7 _ H7 x u _ I7' r7 (step x H7 y7)) fun _ s8 ⟨σ8, H8, I8, hw8, q8⟩ => ?_
      refine thn (pt.run _ s8 σ8 H8 _ I8 q8) fun b s9 ⟨H9, I9, q9⟩ => ?_
      have fin : ∀ {s' : Shared} {H' : Hp}, Inv (blkT X s3 (mrg Cc G H3) scope s3.heap.objs.size cl fp xe) ([] ++ pinsAt fp s7.heap) σ8 H' s' → Nx H' → ∃ m, m < n ∧ ∃ i H', Inv (blkT X s3 (mrg Cc G H3) scope s3.heap.objs.size cl fp xe) [] (wipe σ (own.map (·.2))) H' s' ∧ tn i s'.heap ∧ (∀ b ∈ fp, H' b = none) ∧ V i m H' := fun {s' H'} I' nx => by
        obtain ⟨m', hm, w'⟩ := hNx H' nx
        have pin' : ∀ b ∈ fp, ∀ o, s7.heap.get? b = some o → s'.heap.get? b = some o ∧ H' b = none := fun b hb o e =>
          let z := I'.pin (b, o) (List.mem_append_right _ (List.mem_append_right _ (mem_pinsAt hb e)))
          ⟨z.1, z.2.1⟩
        have hl : (wipe σ (own.map (·.2))).length = σ8.length := by rw [← hw8, wipe_length]
        refine ⟨m', hm, i + 1, H', (I'.unpinned (pins := [])).weak hl (fun j v e => ?_), T.keep _ _ _ st7 fun b hb o e => (pin' b hb o e).1, fun b hb => ?_, w'⟩
        · rw [← hw8] at e
          exact (wipe_some e).1
        · obtain ⟨o, e, _⟩ := T.obj _ _ st7 b hb
          exact (pin' b hb o e).2
      cases b with
      | false =>
        simp only [Bool.false_eq_true, if_false] at q9 ⊢
        exact fin I9 q9
      | true =>
        simp only [if_true] at q9 ⊢
        refine thn (pe.run _ s9 σ8 H9 _ I9 q9) fun z s10 ⟨yv, H10, I10, r10, acc, hD10, hz10, nx⟩ => ?_
        exact app_ok (X := blkT X s3 (mrg Cc G H3) scope s3.heap.objs.size cl fp xe) I10 hD10 hz10 r10 fun s11 I11 => fin I11 nx
  exact codeAny_compStart_list loop (T.self X.A 0 _ _ _ st4 loop)
end
end MT

set_option maxRecDepth 100000
/-! MtLc: comprehensions over the data, errors told. -/
namespace MT
open PySem PySem.Spec PyProof.Rows L2 LamX NdefX
section
variable {X : Cx} {W : WX}
theorem pe_lc2 {kn : Bool} {elt tg iter : Expr} {ifs : List Expr} {scope : Scope} {own : List (Str × Nat)} {pos : Pos} {wi : TI} {g : TG} {tt : TT} {te : WX → TE} (tk : L2N.Takes X W) (hs0 : X.stack = X.env :: X.outer) (hf0 : X.env.frame = some X.env.locals) (hab : kn = true → ∀ y c, X.env.cells.lookup y = some c → X.s_0.heap.objs.size ≤ c)
    (hc : X.calm = true) (hN : X.N.Nodup) (hi : PI X tg iter wi) (ok : BlkOk X.N X.env.scope scope own) (hg : ∀ (s : Shared) (H : Hp) (C : Addr) (cl : List (Str × Addr)) (fp : List Addr) (xe : Value → Shared → Prop), PG (blkT X s H scope C cl fp xe) tg g) (ht : ∀ (s : Shared) (H : Hp) (C : Addr) (cl : List (Str × Addr)) (fp : List Addr) (xe : Value → Shared → Prop), PTs (blkT X s H scope C cl fp xe) ifs tt)
    (he : ∀ (s : Shared) (H : Hp) (C : Addr) (cl : List (Str × Addr)) (fp : List Addr) (xe : Value → Shared → Prop) (W' : WX), L2N.Takes (blkT X s H scope C cl fp xe) W' → PE (blkT X s H scope C cl fp xe) elt (te W')) (hs : ∀ x, foldedSetIterable iter X.env x = pure x) :
    PE X (.ListComp elt [⟨tg, iter, ifs, 0⟩] scope pos) (tLc2 kn X scope W wi g tt te (own.map (·.2))) := by
  refine ⟨fun pins s σ H Q I h => ?_⟩
  rw [eval_ListComp]
  refine lc_core2 (use := none) tk hs0 hf0 hab hc hN I hi ok hg ht he hs h fun D C s' m H' I' q hn ⟨f0, f1, f2, f3, f4, f5⟩ => ⟨m, hn, fun g sb => ⟨.ref D, H', I'.turned (t' := s'.toks) (fun b o hb e => (sb.2 b hb).trans e) f0 f1 f3 f4 f5, rfl, q⟩⟩
theorem ps_setLc2 {kn : Bool} {i : Nat} {y : Str} {py : Pos} {elt tg iter : Expr} {ifs : List Expr} {scope : Scope} {own : List (Str × Nat)} {pos spos : Pos} {wi : TI} {g : TG} {tt : TT} {te : WX → TE} (tk : L2N.Takes X W) (hs0 : X.stack = X.env :: X.outer) (hf0 : X.env.frame = some X.env.locals) (hab : kn = true → ∀ y c, X.env.cells.lookup y = some c → X.s_0.heap.objs.size ≤ c)
    (hc : X.calm = true) (hN : X.N.Nodup) (hy : X.N[i]? = some y) (hyl : X.env.scope.names.lookup y = some .local) (hsw : swapsWith (.ListComp elt [⟨tg, iter, ifs, 0⟩] scope pos) (some (.Name y py)) spos.line X.env = pure true) (hi : PI X tg iter wi) (ok : BlkOk X.N X.env.scope scope own)
    (hg : ∀ (s : Shared) (H : Hp) (C : Addr) (cl : List (Str × Addr)) (fp : List Addr) (xe : Value → Shared → Prop), PG (blkT X s H scope C cl fp xe) tg g) (ht : ∀ (s : Shared) (H : Hp) (C : Addr) (cl : List (Str × Addr)) (fp : List Addr) (xe : Value → Shared → Prop), PTs (blkT X s H scope C cl fp xe) ifs tt)
    (he : ∀ (s : Shared) (H : Hp) (C : Addr) (cl : List (Str × Addr)) (fp : List Addr) (xe : Value → Shared → Prop) (W' : WX), L2N.Takes (blkT X s H scope C cl fp xe) W' → PE (blkT X s H scope C cl fp xe) elt (te W')) (hs : ∀ x, foldedSetIterable iter X.env x = pure x) :
    PS X (.Assign [.Name y py] (.ListComp elt [⟨tg, iter, ifs, 0⟩] scope pos) spos) (fun D σ H => tLc2 kn X scope W wi g tt te (own.map (·.2)) σ H fun x H1 => D.nx (σ.set i (some x)) H1) := by
  refine ⟨fun pins s σ H D I h => ?_⟩
  rw [exec_Assign_Name_used _ _ _ _ hsw]
  refine wpAny_bind (wpAny_standAt (wpAny_bind ?_))
  show wpAny _ X.A (do let _ ← comprehension (.ListComp elt [⟨tg, iter, ifs, 0⟩] scope pos) scope X.env (firstIterPos [⟨tg, iter, ifs, 0⟩] pos) (newList []) false (eval iter X.env) (some (assign (.Name y py) X.env))) _ _ s
  refine wpAny_bind (thn (lc_core2 (use := some (assign (.Name y py) X.env)) (Qf := fun _ s' => SP X pins D .next s') tk hs0 hf0 hab hc hN I hi ok hg ht he hs h fun L C s' m H' I' q hn ⟨f0, f1, f2, f3, f4, f5⟩ => ?_) fun _ s' hq => wpAny_pure (wpAny_pure hq))
  show wpAny _ _ (assign (.Name y py) X.env (.ref L)) _ _ _
  refine wpAny_assign_Name (store_ok2 (v := V.ref L) I' hN hy (.inl hyl) rfl (fun s2 I2 ⟨a, sb, ha⟩ => ?_) (.inr hyl))
  have hCa : C ≠ a := fun e => ha.elim (fun z => f1 (e.trans z)) fun z => f4 y a z e.symm
  exact ⟨m, hn.sameBut sb hCa, fun g3 sb3 => ⟨_, H', I2.turned (t' := s2.toks) (fun b o hb e => (sb3.2 b hb).trans e) f0 f1 f3 f4 f5, q⟩⟩
end
/-! ### over the data -/
open Classical in
noncomputable def runC (g : DGt) (c : DT) (m : DM) (ok : Mem → Prop) : List D → Slots → Mem → Res (List D)
  | [], _, M => if ok M then .ok [] M else .stuck
  | d :: ds, σ, M => if ok M then (match g d σ M with
    | some p => (match c p.1 p.2 with
      | .ok true M1 => (m p.1 M1).bind fun r M2 => (runC g c m ok ds σ M2).bind fun rs M3 => .ok (r :: rs) M3
      | .ok false M1 => runC g c m ok ds σ M1
      | _ => .stuck)
    | none => .stuck) else .stuck
section
variable {Γ : Gam} {W : WX}
/-- what is left gives, with what is there, the whole -/
def Left (whole : Res (List D)) (acc : List D) (r : Res (List D)) : Prop := whole = r.bind fun rs M => .ok (acc ++ rs) M
theorem St.unpin {Γ : Gam} {F P : Hp} {ι : List Addr} {M : Mem} {H : Hp} {p : Addr} {o : HO} (s : St Γ F (upd P p o) ι M H) (hP : P p = none) : St Γ F P ι M H :=
  ⟨s.fr, fun a u e => s.pr a u (by rw [upd_ne (ne_of_none e hP)]; exact e), fun a => by
    rcases s.dj a with h | h
    · exact .inl h
    · by_cases z : a = p
      · rw [z]; exact .inr hP
      · rw [upd_ne z] at h; exact .inr h, s.len, s.nd, fun i a m e1 e2 => by
    obtain ⟨a1, a2, o, a3, a4⟩ := s.ob i a m e1 e2
    refine ⟨a1, ?_, o, a3, a4⟩
    by_cases z : a = p
    · rw [z]; exact hP
    · rw [upd_ne z] at a2; exact a2, s.tb, s.fp, fun a u e => s.pp a u (by rw [upd_ne (ne_of_none e hP)]; exact e)⟩
theorem tlc2_of {its : Its} {J : It} {gt : DGt} {mt : DT} {me : DM} {vs ts : List Nat} {σ : L2.St} {σd : Slots} {F P : Hp} {ι : List Addr} {M : Mem} {H : Hp} {Q : VK} {L0 : Addr} {Cc : Addr → Prop} {G : Hp} {R : Res (List D)} (hts : ∀ i ∈ ts, i ∈ vs) (hD : H L0 = none)
    (hG : ∀ b, Cc b → ∃ o, G b = some o ∧ F b = some o) (n : Now Γ P σd M σ H F ι) (it : ItOk Γ F ι its J) (hl : its.items.length ≤ 1000000) (e : runC gt mt me its.ok its.items (wipeD σd vs) M = R) (ns : R ≠ .stuck)
    (qok : ∀ rs Mz, R = .ok rs Mz → ∀ v H' F' ι', Ext F ι F' ι' → St Γ F' P ι' Mz H' → Rep Γ F' ι' (.lst rs) v → Q v (hid Cc H'))
    (qex : ∀ c fs Mz, R = .exc c fs Mz → ∀ cls od H' F' ι', Ext F ι F' ι' → St Γ F' P ι' Mz H' → RepX Γ F' ι' H' c fs cls od → W cls od σ (hid Cc H')) :
    ∃ V : Nat → Nat → Hp → Prop, (∃ m, V 0 m (upd H L0 (.lst []))) ∧ ∀ i m H, V i m H → (J.stop i H ∧ (∀ b, Cc b → H b = G b) ∧ Q (.ref L0) (hid Cc H)) ∨
      (J.go i H ∧ ∃ Nx : Hp → Prop, (∀ H', Nx H' → ∃ m', m' < m ∧ V (i + 1) m' H') ∧ ∀ x H', J.yld i H x H' → liftG Γ ts gt x (wipe σ vs) H' fun σ2 H2 => wipe σ2 vs = wipe σ vs ∧ liftT Γ WF mt σ2 H2 fun b H3 =>
        if b = true then lift Γ (fun cls d _ H4 => (∀ b, Cc b → H4 b = G b) ∧ W cls d σ (hid Cc H4)) me σ2 H3 fun y H4 => ∃ acc, H4 L0 = some (.lst acc) ∧ acc.length < sizeLine ∧ Nx (upd H4 L0 (.lst (acc ++ [y]))) else Nx H3) := by
  obtain ⟨Gd, Y, w, hGd, hY⟩ := it
  have hPD := n.st.freshP hD
  have slw := wipe_rep n.sl vs
  have still : ∀ {F2 P2 : Hp} {ι2 : List Addr} {M2 : Mem} {H2 : Hp}, Ext F ι F2 ι2 → St Γ F2 P2 ι2 M2 H2 → ∀ b, Cc b → H2 b = G b := fun x s b z => by
    obtain ⟨o, e1, e2⟩ := hG b z
    rw [e1]
    exact s.fr _ _ (x.f _ _ e2)
  obtain ⟨Pv, hPv⟩ : ∃ Pv : Nat → Hp → Prop, Pv = fun i H => ∃ F2 ι2 M2 acc xs, Ext F ι F2 ι2 ∧ St Γ F2 (upd P L0 (.lst xs)) ι2 M2 H ∧ RepL Γ F2 ι2 acc xs ∧ Left R acc (runC gt mt me its.ok (its.items.drop i) (wipeD σd vs) M2) ∧ acc.length ≤ i := ⟨_, rfl⟩
  refine ⟨fun i m H => i ≤ its.items.length ∧ m = its.items.length - i ∧ Pv i H, ⟨_, Nat.zero_le _, rfl, by
    rw [hPv]
    refine ⟨F, ι, M, [], [], Ext.refl, n.st.pin hD lst_plain, RepL.nil, ?_, Nat.le_refl _⟩
    unfold Left
    rw [List.drop_zero, e]
    cases R <;> rfl⟩, ?_⟩
  rintro i m H2 ⟨hin, hm, pv⟩
  rw [hPv] at pv
  obtain ⟨F2, ι2, M2, acc, xs, x2, s2, r2, e2, hla⟩ := pv
  by_cases hi : i < its.items.length
  · have ed : its.items.drop i = its.items[i] :: its.items.drop (i + 1) := List.drop_eq_getElem_cons hi
    rw [ed] at e2
    unfold runC at e2
    split at e2
    · rename_i hok
      refine .inr ⟨w.goes i H2 hi (hGd F2 _ ι2 M2 H2 x2 s2 hok), Pv (i + 1), fun H' p' => ⟨_, by omega, by omega, rfl, p'⟩, fun x H3 y => ?_⟩
      have y := w.yields i H2 x H3 hi (hGd F2 _ ι2 M2 H2 x2 s2 hok) y
      obtain ⟨F3, d, e1, x3, s3, r3⟩ := hY i x H2 H3 F2 _ ι2 M2 hi y x2 s2 hok
      rw [List.getElem?_eq_getElem hi] at e1
      cases e1
      cases eg : gt its.items[i] (wipeD σd vs) M2 with
      | none =>
        rw [eg] at e2
        exact absurd e2 ns
      | some pg =>
        simp only [eg] at e2
        refine ⟨F3, _, ι2, M2, wipeD σd vs, _, pg.1, pg.2, ⟨s3, slw.ext (x2.trans x3)⟩, r3, eg, fun σ4 H4 F4 ι4 x4 n4 a4 => ⟨wipe_agree hts a4, F4, _, ι4, pg.2, pg.1, n4, ?_⟩⟩
        cases ec : mt pg.1 pg.2 with
        | stuck => rw [ec] at e2; exact absurd e2 ns
        | exc c fs M5 => rw [ec] at e2; exact absurd e2 ns
        | ok b M5 =>
          intro v5 H5 F5 ι5 x5 s5 ev
          have ev : b = v5 := ev
          subst ev
          have x25 := x2.trans (x3.trans (x4.trans x5))
          cases b with
          | false =>
            simp only [ec] at e2
            exact iteF (by rw [hPv]; exact ⟨F5, ι5, M5, acc, xs, x25, s5, RepL.ext (x3.trans (x4.trans x5)) _ _ r2, e2, by omega⟩)
          | true =>
            simp only [ec] at e2
            refine iteT ⟨F5, _, ι5, M5, pg.1, ⟨s5, n4.sl.ext x5⟩, ?_⟩
            cases em : me pg.1 M5 with
            | stuck =>
              rw [em] at e2
              exact absurd e2 ns
            | exc c fs M6 =>
              rw [em] at e2
              have e2 : R = .exc c fs M6 := e2
              intro cls od H6 F6 ι6 x6 s6 rx
              refine ⟨still (x25.trans x6) s6, qex c fs M6 e2 cls od H6 F6 ι6 (x25.trans x6) (s6.unpin hPD) rx⟩
            | ok r M6 =>
              rw [em] at e2
              have e2 : R = ((runC gt mt me its.ok (its.items.drop (i + 1)) (wipeD σd vs) M6).bind fun rs M3 => .ok (r :: rs) M3).bind fun rs M => .ok (acc ++ rs) M := e2
              intro v6 H6 F6 ι6 x6 s6 r6
              have ra := RepL.ext (x3.trans (x4.trans (x5.trans x6))) _ _ r2
              refine ⟨xs, s6.pr L0 _ upd_same, ?_, by
                rw [hPv]
                refine ⟨F6, ι6, M6, acc ++ [r], xs ++ [v6], x25.trans x6, s6.repin lst_plain, ra.app (RepL.one r6), ?_, by rw [List.length_append]; simp; omega⟩
                unfold Left
                rw [e2]
                cases runC gt mt me its.ok (its.items.drop (i + 1)) (wipeD σd vs) M6 with
                | ok rs M7 => simp [Res.bind]
                | exc _ _ _ => rfl
                | stuck => rfl⟩
              rw [r2.length]
              have : (sizeLine : Nat) = 16777216 := sizeLine_eq
              omega
    · exact absurd e2 ns
  · have hi : i = its.items.length := by omega
    subst hi
    rw [List.drop_length] at e2
    unfold runC at e2
    split at e2
    · rename_i hok
      have e2 : R = .ok (acc ++ []) M2 := e2
      rw [List.append_nil] at e2
      refine .inl ⟨w.stops H2 (hGd F2 _ ι2 M2 H2 x2 s2 hok), still x2 s2, ?_⟩
      obtain ⟨s3, x3⟩ := s2.freeze hPD
      refine qok acc M2 e2 _ H2 _ ι2 (x2.trans x3) s3 ?_
      simp only [Rep]
      exact ⟨L0, xs, rfl, upd_same, RepL.ext x3 _ _ r2⟩
    · exact absurd e2 ns
end
theorem mrg_empty {C : Addr → Prop} {G H : Hp} (h : ∀ b, ¬ C b) : mrg C G H = H := funext fun b => mrg_out (h b)
theorem hid_empty {C : Addr → Prop} {H : Hp} (h : ∀ b, ¬ C b) : hid C H = H := funext fun b => hid_out (h b)
noncomputable def mCompX (mi : DIt) (g : DGt) (c : DT) (m : DM) (vs : List Nat) : DM := fun σ M => (mi σ M).bind fun its M1 => if its.items.length ≤ 1000000 then (runC g c m its.ok its.items (wipeD σ vs) M1).bind fun rs M2 => .ok (.lst rs) M2 else .stuck
section
variable {X : Cx} {Γ : Gam} {W : WX}
theorem lcx_read {scope : Scope} {mi : DIt} {gt : DGt} {mt : DT} {me : DM} {vs ts : List Nat} {σ : L2.St} {H : Hp} {Q : VK} {F P : Hp} {ι : List Addr} {M : Mem} {σd : Slots} (hts : ∀ i ∈ ts, i ∈ vs) (n : Now Γ P σd M σ H F ι) (p : Post Γ W P F ι σ (Rep Γ) (mCompX mi gt mt me vs σd M) Q) :
    tLc2 false X scope W (liftI Γ W mi) (liftG Γ ts gt) (liftT Γ WF mt) (fun W' => lift Γ W' me) vs σ H Q :=
  ⟨F, P, ι, M, σd, n, Post.seq p fun its M1 J H1 F1 ι1 er x1 s1 it p1 => by
    intro L0 Cc G hL nL kw
    have em : ∀ b, ¬ Cc b := fun b z => by
      have := (kw.dom b z).1
      cases this
    rw [mrg_empty em]
    split at p1
    · rename_i hl
      refine tlc2_of (W := W) (R := runC gt mt me its.ok its.items (wipeD σd vs) M1) hts hL (fun b z => absurd z (em b)) ⟨s1, n.sl.ext x1⟩ it hl rfl (fun e => by rw [e] at p1; exact p1) (fun rs Mz e v H' F' ι' x s r => ?_) fun c fs Mz e cls od H' F' ι' x s r => ?_
      · rw [e] at p1
        rw [hid_empty em]
        exact p1 v H' F' ι' x s r
      · rw [e] at p1
        rw [hid_empty em]
        exact p1 cls od H' F' ι' x s r
    · exact p1.elim⟩
variable {elt tg iter : Expr} {ifs : List Expr} {scope : Scope} {own : List (Str × Nat)} {pos : Pos} {ts : List Nat} {mi : DIt} {gt : DGt} {mt : DT} {me : DM}
theorem de_lcx (g : Ok X Γ) (hc : X.calm = true) (tk : L2N.Takes X W) (hs0 : X.stack = X.env :: X.outer) (hf0 : X.env.frame = some X.env.locals) (hN : X.N.Nodup) (hi : DI X Γ W tg iter mi) (ok : BlkOk X.N X.env.scope scope own) (hts : ∀ i ∈ ts, i ∈ own.map (·.2))
    (hg : ∀ (s : Shared) (H : Hp) (C : Addr) (cl : List (Str × Addr)) (fp : List Addr) (xe : Value → Shared → Prop), DG (blkT X s H scope C cl fp xe) Γ ts tg gt) (ht : ∀ (s : Shared) (H : Hp) (C : Addr) (cl : List (Str × Addr)) (fp : List Addr) (xe : Value → Shared → Prop), DTs (blkT X s H scope C cl fp xe) Γ WF ifs mt)
    (he : ∀ (s : Shared) (H : Hp) (C : Addr) (cl : List (Str × Addr)) (fp : List Addr) (xe : Value → Shared → Prop) (W' : WX), L2N.Takes (blkT X s H scope C cl fp xe) W' → DE (blkT X s H scope C cl fp xe) Γ W' elt me) (hs : ∀ x, foldedSetIterable iter X.env x = pure x) :
    DE X Γ W (.ListComp elt [⟨tg, iter, ifs, 0⟩] scope pos) (mCompX mi gt mt me (own.map (·.2))) :=
  PE.imp (pe_lc2 (kn := false) tk hs0 hf0 (fun z => nomatch z) hc hN hi ok hg ht he hs) fun σ H Q ⟨F, P, ι, M, σd, n, p⟩ => lcx_read hts n p
theorem ds_setLcx (g : Ok X Γ) (hc : X.calm = true) (tk : L2N.Takes X W) (hs0 : X.stack = X.env :: X.outer) (hf0 : X.env.frame = some X.env.locals) {i : Nat} {y : Str} {py spos : Pos} (hN : X.N.Nodup) (hy : X.N[i]? = some y) (hyl : X.env.scope.names.lookup y = some .local)
    (hsw : swapsWith (.ListComp elt [⟨tg, iter, ifs, 0⟩] scope pos) (some (.Name y py)) spos.line X.env = pure true) (hi : DI X Γ W tg iter mi) (ok : BlkOk X.N X.env.scope scope own) (hts : ∀ i ∈ ts, i ∈ own.map (·.2))
    (hg : ∀ (s : Shared) (H : Hp) (C : Addr) (cl : List (Str × Addr)) (fp : List Addr) (xe : Value → Shared → Prop), DG (blkT X s H scope C cl fp xe) Γ ts tg gt) (ht : ∀ (s : Shared) (H : Hp) (C : Addr) (cl : List (Str × Addr)) (fp : List Addr) (xe : Value → Shared → Prop), DTs (blkT X s H scope C cl fp xe) Γ WF ifs mt)
    (he : ∀ (s : Shared) (H : Hp) (C : Addr) (cl : List (Str × Addr)) (fp : List Addr) (xe : Value → Shared → Prop) (W' : WX), L2N.Takes (blkT X s H scope C cl fp xe) W' → DE (blkT X s H scope C cl fp xe) Γ W' elt me) (hs : ∀ x, foldedSetIterable iter X.env x = pure x) :
    DS X Γ W (.Assign [.Name y py] (.ListComp elt [⟨tg, iter, ifs, 0⟩] scope pos) spos) (sSet i (mCompX mi gt mt me (own.map (·.2)))) :=
  PS.imp (ps_setLc2 (kn := false) tk hs0 hf0 (fun z => nomatch z) hc hN hy hyl hsw hi ok hg ht he hs) fun D σ H ⟨F, P, ι, M, σd, n, p⟩ =>
    lcx_read (W := W) hts n (PostS.begin n.sl p fun d M' v H' F' ι' _ x n' r p' => p' _ H' F' ι' Ext.refl (n'.set r i))
end
end MT

set_option maxRecDepth 100000
/-! MtCallL: lambdas of the running frame, handed to a def; within a comprehension. -/
namespace MT
open PySem PySem.Spec PyProof.Rows L2 LamX NdefX
mutual
/-- lambdas of the frame with what they capture -/
def convD (cap : Nat → Option (List D)) : D → Option D
  | .lam k => (cap k).map (.clo k)
  | .tup ds => (convL cap ds).map .tup
  | .lst ds => (convL cap ds).map .lst
  | d => if noLam d then some d else none
def convL (cap : Nat → Option (List D)) : List D → Option (List D)
  | [] => some []
  | d :: ds => (convD cap d).bind fun e => (convL cap ds).map (e :: ·)
end
def capsOf (σ : Slots) : List Nat → Option (List D)
  | [] => some []
  | j :: r => match σ[j]? with
    | some (some d) => if noLam d then (capsOf σ r).map (d :: ·) else none
    | _ => none
def capF (σ : Slots) (ks : List Nat) (js : Nat → List Nat) : Nat → Option (List D) := fun k => if k ∈ ks then capsOf σ (js k) else none
section
variable {Γ : Gam} {F F' : Hp} {ι : List Addr} {cap : Nat → Option (List D)}
mutual
theorem rep_conv (x : Ext F ι F' ι) (hc : ∀ k caps f c dV cells, cap k = some caps → Γ.cells = some cells → LamAt F (Γ.lam k) f (cloFrom cells (Γ.lam k).scope.names []) c dV → ∃ ws, CapsAt F' (cloFrom cells (Γ.lam k).scope.names []) (Γ.lam k).fr ws ∧ RepL Γ.bare F' ι caps ws) :
    ∀ (d d' : D) (v : V), Rep Γ F ι d v → convD cap d = some d' → Rep Γ.bare F' ι d' v
  | .lam k, d', v, r, e => by
    simp only [convD, Option.map_eq_some_iff] at e
    obtain ⟨caps, e1, rfl⟩ := e
    simp only [Rep] at r ⊢
    obtain ⟨f, c, dV, cells, rfl, e2, l⟩ := r
    obtain ⟨ws, h1, h2⟩ := hc k caps f c dV cells e1 e2 l
    exact ⟨f, _, c, dV, ws, rfl, l.ext x.f, h1, h2⟩
  | .tup ds, d', v, r, e => by
    simp only [convD, Option.map_eq_some_iff] at e
    obtain ⟨es, e1, rfl⟩ := e
    simp only [Rep] at r ⊢
    obtain ⟨a, xs, rfl, s, r⟩ := r
    exact ⟨a, xs, rfl, SqT.ext x.f s, repL_conv x hc ds es xs r e1⟩
  | .lst ds, d', v, r, e => by
    simp only [convD, Option.map_eq_some_iff] at e
    obtain ⟨es, e1, rfl⟩ := e
    simp only [Rep] at r ⊢
    obtain ⟨a, xs, rfl, s, r⟩ := r
    exact ⟨a, xs, rfl, x.f _ _ s, repL_conv x hc ds es xs r e1⟩
  | .non, d', v, r, e => by simp only [convD, noLam, if_true, Option.some.injEq] at e; subst e; exact rep_bare _ _ (Rep.ext x _ _ r) rfl
  | .bl _, d', v, r, e => by simp only [convD, noLam, if_true, Option.some.injEq] at e; subst e; exact rep_bare _ _ (Rep.ext x _ _ r) rfl
  | .int _, d', v, r, e => by simp only [convD, noLam, if_true, Option.some.injEq] at e; subst e; exact rep_bare _ _ (Rep.ext x _ _ r) rfl
  | .str _, d', v, r, e => by simp only [convD, noLam, if_true, Option.some.injEq] at e; subst e; exact rep_bare _ _ (Rep.ext x _ _ r) rfl
  | .flt _, d', v, r, e => by simp only [convD, noLam, if_true, Option.some.injEq] at e; subst e; exact rep_bare _ _ (Rep.ext x _ _ r) rfl
  | .obj _, d', v, r, e => by simp only [convD, noLam, if_true, Option.some.injEq] at e; subst e; exact rep_bare _ _ (Rep.ext x _ _ r) rfl
  | .scr _, d', v, r, e => by simp only [convD, noLam, if_true, Option.some.injEq] at e; subst e; exact rep_bare _ _ (Rep.ext x _ _ r) rfl
  | .exn k ds, d', v, r, e => by
    simp only [convD] at e
    split at e
    · rename_i h; cases e; exact rep_bare _ _ (Rep.ext x _ _ r) h
    · cases e
  | .dic ks ds, d', v, r, e => by
    simp only [convD] at e
    split at e
    · rename_i h; cases e; exact rep_bare _ _ (Rep.ext x _ _ r) h
    · cases e
  | .ins k ds, d', v, r, e => by
    simp only [convD] at e
    split at e
    · rename_i h; cases e; exact rep_bare _ _ (Rep.ext x _ _ r) h
    · cases e
  | .clo k ds, d', v, r, e => by
    simp only [convD] at e
    split at e
    · rename_i h; cases e; exact rep_bare _ _ (Rep.ext x _ _ r) h
    · cases e
theorem repL_conv (x : Ext F ι F' ι) (hc : ∀ k caps f c dV cells, cap k = some caps → Γ.cells = some cells → LamAt F (Γ.lam k) f (cloFrom cells (Γ.lam k).scope.names []) c dV → ∃ ws, CapsAt F' (cloFrom cells (Γ.lam k).scope.names []) (Γ.lam k).fr ws ∧ RepL Γ.bare F' ι caps ws) :
    ∀ (ds es : List D) (vs : List V), RepL Γ F ι ds vs → convL cap ds = some es → RepL Γ.bare F' ι es vs
  | [], es, vs, r, e => by simp only [convL, Option.some.injEq] at e; subst e; simp only [RepL] at r ⊢; exact r
  | d :: ds, es, vs, r, e => by
    simp only [convL, Option.bind_eq_some_iff, Option.map_eq_some_iff] at e
    obtain ⟨d', e1, es', e2, rfl⟩ := e
    simp only [RepL] at r ⊢
    obtain ⟨v, xs, rfl, r1, r2⟩ := r
    exact ⟨v, xs, rfl, rep_conv x hc d d' v r1 e1, repL_conv x hc ds es' xs r2 e2⟩
end
end
/-- what is looked up in the texts: the lambdas ks of the frame, js where their names stand; scope: the block in which they are called -/
structure LamsOk (X : Cx) (Γ : Gam) (scope : Scope) (js : Nat → List Nat) (ks : List Nat) : Prop where
  cells : Γ.cells = some X.env.cells
  kin : ∀ k ∈ ks, ∀ y ∈ (Γ.lam k).fr, (X.env.scope.names.lookup y = some .cell ∨ X.env.scope.names.lookup y = some .free) ∧ scope.names.lookup y ≠ some .free
  at_ : ∀ k ∈ ks, (js k).map (fun j => X.N[j]?) = (Γ.lam k).fr.map some
  sub : ∀ k ∈ ks, ∀ y ∈ (Γ.lam k).scope.names, y.2 = .free → y.1 ∈ (Γ.lam k).fr
  sup : ∀ k ∈ ks, ∀ y ∈ (Γ.lam k).fr, (y, NameKind.free) ∈ (Γ.lam k).scope.names
theorem capsOf_rep {Γ : Gam} {F : Hp} {ι : List Addr} {σd : Slots} {σ : L2.St} (r : RepS Γ F ι σd σ) : ∀ {js : List Nat} {caps : List D}, capsOf σd js = some caps → ∃ ws, RepL Γ.bare F ι caps ws ∧ js.map (fun j => σ[j]?) = ws.map fun w => some (some w)
  | [], caps, e => by cases e; exact ⟨[], RepL.nil, rfl⟩
  | j :: js, caps, e => by
    simp only [capsOf] at e
    split at e
    · rename_i d ed
      split at e
      · rename_i hd
        simp only [Option.map_eq_some_iff] at e
        obtain ⟨cs, e1, rfl⟩ := e
        obtain ⟨v, ev, rv⟩ := r.2 j d ed
        obtain ⟨ws, h1, h2⟩ := capsOf_rep r e1
        exact ⟨v :: ws, .cons (rep_bare _ _ rv hd) h1, by rw [List.map_cons, List.map_cons, ev, h2]⟩
      · cases e
    · cases e
theorem caps_at {X : Cx} {Γ : Gam} {scope : Scope} {js : Nat → List Nat} {ks : List Nat} {σ : L2.St} {σd : Slots} {F H G : Hp} {ι : List Addr} {Cc : Addr → Prop} (ok : X.Ok) (L : LamsOk X Γ scope js ks) (kw : Known X σ scope true Cc G H) (r : RepS Γ F ι σd σ) (hF : ∀ b, Cc b → F b = none) :
    ∀ k caps cells, capF σd ks js k = some caps → Γ.cells = some cells → ∃ ws, CapsAt (mrg Cc G F) (cloFrom cells (Γ.lam k).scope.names []) (Γ.lam k).fr ws ∧ RepL Γ.bare (mrg Cc G F) ι caps ws := by
  intro k caps cells e hce
  unfold capF at e
  split at e
  · rename_i hk
    rw [L.cells] at hce
    cases hce
    obtain ⟨ws, h1, h2⟩ := capsOf_rep r e
    have hfr : ∀ y ∈ (Γ.lam k).scope.names, y.2 = .free → ∃ c, X.env.cells.lookup y.1 = some c := fun y hy e => by
      have hm := L.sub k hk y hy e
      exact ok.has _ (L.kin k hk _ hm).1
    have len : ws.length = (Γ.lam k).fr.length := by
      have e1 := congrArg List.length (L.at_ k hk)
      have e2 := congrArg List.length h2
      simp only [List.length_map] at e1 e2
      omega
    refine ⟨ws, ⟨len, fun y c e => ?_, fun x y c e1 e2 => ok.inj x y c (clo_cm hfr e1) (clo_cm hfr e2), fun i y hy => ?_⟩, RepL.ext (ext_mrg hF) _ _ h1⟩
    · rcases cloFrom_mem (PySem.mem_of_lookup e) with hm | ⟨hm, _⟩
      · cases hm
      · exact L.sub k hk _ hm rfl
    · have hm := List.mem_of_getElem? hy
      obtain ⟨kd, nf⟩ := L.kin k hk y hm
      obtain ⟨b, hb⟩ := ok.has y kd
      have cb := kw.all rfl y b hb nf
      obtain ⟨o, w, e1, e2, e3⟩ := kw.val y b hb cb
      have hi : i < ws.length := by rw [len]; exact (List.getElem?_eq_some_iff.mp hy).1
      have a1 : ((js k).map fun j => X.N[j]?)[i]? = some (some y) := by rw [L.at_ k hk, List.getElem?_map, hy]; rfl
      have a2 : ((js k).map fun j => σ[j]?)[i]? = some (some (some ws[i])) := by rw [h2, List.getElem?_map, List.getElem?_eq_getElem hi]; rfl
      rw [List.getElem?_map] at a1 a2
      cases ej : (js k)[i]? with
      | none => rw [ej] at a1; cases a1
      | some j =>
        rw [ej] at a1 a2
        have a1 : X.N[j]? = some y := Option.some.inj a1
        have a2 : σ[j]? = some (some ws[i]) := Option.some.inj a2
        obtain ⟨u, hu, ru⟩ := e3 j _ a1 a2 kd
        subst hu
        exact ⟨b, o, u, ws[i], clo_has hfr (L.sup k hk y hm) hb, by rw [mrg_in cb]; exact e1, e2, List.getElem?_eq_getElem hi, ru⟩
  · cases e
/-! ### known for a call -/
section
variable {P : Program} {w : World} {outer : List Env} {H G : Hp} {s s' : Shared} {Cc : Addr → Prop} {u : Value}
theorem ce_shw {Q : VK} (hC : ∀ b, Cc b → H b = none ∧ ∃ o, G b = some (CellX b o) ∧ s.heap.get? b = some o) (hf : ∀ b ∈ frs outer, ¬ Cc b) (hQ : ∀ v H3, Q v H3 → ∀ b, Cc b → H3 b = G b) (h : CE outer P w (mrg Cc G H) s Q u s') : CE outer P w H s (fun v H4 => ∃ H3, H4 = hid Cc H3 ∧ Q v H3) u s' := by
  obtain ⟨v, H3, os, bare, un, hok, r, q⟩ := h
  obtain ⟨u1, u2⟩ := un_hid hC hf (fun b hb => absurd hb (by simp)) un hok (hQ v H3 q) (fun _ _ _ _ e => e) (fun _ _ _ _ e => e) (fun _ _ _ _ e => e) hok
  exact ⟨v, hid Cc H3, os, bare, u1, u2, r, H3, rfl, q⟩
theorem cx_shw {E : XK} (hC : ∀ b, Cc b → H b = none ∧ ∃ o, G b = some (CellX b o) ∧ s.heap.get? b = some o) (hf : ∀ b ∈ frs outer, ¬ Cc b) (hQ : ∀ c d H3, E c d H3 → ∀ b, Cc b → H3 b = G b) (h : L2N.CX P w outer (mrg Cc G H) s E u s') : L2N.CX P w outer H s (fun c d H4 => ∃ H3, H4 = hid Cc H3 ∧ E c d H3) u s' := by
  obtain ⟨a, B, H3, cls, d, rfl, fl, hok, ub, na, os, ag, hE⟩ := h
  have hc := hQ cls d H3 hE
  have cH3 : Cells Cc H3 := fun b z => by
    obtain ⟨_, o, e, _⟩ := hC b z
    exact ⟨o, by rw [hc b z]; exact e⟩
  have no : ∀ {b o}, H b = some o → ¬ Cc b := fun {b o} e z => by rw [(hC b z).1] at e; cases e
  refine ⟨a, B, hid Cc H3, cls, d, rfl, fl, hid_ok hok cH3, ⟨fun b o e n hb => ?_, ub.slot, fun b o e n => ?_, ub.there, fun b xs e => ?_, fun b o u e => ?_, fun b ps e => ?_⟩, ?_, os, ag, H3, rfl, hE⟩
  · by_cases z : Cc b
    · obtain ⟨_, o', e1, e2⟩ := hC b z
      rw [e] at e2
      cases e2
      exact cellX_at hok (by rw [hc b z]; exact e1)
    · exact ub.keep b o e (by rw [mrg_out z]; exact n) hb
  · by_cases z : Cc b
    · exact hid_in z
    · rw [hid_out z]; exact ub.free b o e (by rw [mrg_out z]; exact n)
  · rw [hid_out (no e)]; exact ub.tups b xs (by rw [mrg_out (no e)]; exact e)
  · rw [hid_out (no e)]; exact ub.frzs b o u (by rw [mrg_out (no e)]; exact e)
  · rw [hid_out (no e)]; exact ub.tbls b ps (by rw [mrg_out (no e)]; exact e)
  · by_cases z : Cc a
    · exact hid_in z
    · rw [hid_out z]; exact na
end
theorem env0_mrg {P : Program} {w : World} {K : PySem.W.Frag} {mg : Str → Option Value} {base : Heap} {A : Around} {outer : List Env} {s : Shared} {H G : Hp} {Cc : Addr → Prop} (e : Env0 P w K mg base A outer s H) (hC : ∀ b, Cc b → H b = none ∧ ∃ o, G b = some (CellX b o) ∧ s.heap.get? b = some o)
    (hf : ∀ b ∈ frs outer, ¬ Cc b) (hb : ∀ b o, base.get? b = some o → ¬ Cc b) : Env0 P w K mg base A outer s (mrg Cc G H) :=
  ⟨e.frames, e.mod, fun b o z => ⟨(e.bs b o z).1, by rw [mrg_out (hb b o z)]; exact (e.bs b o z).2⟩, e.bsz, e.funs, fun b z => by rw [mrg_out (hf b z)]; exact e.frf b z, mrg_ok e.hok hC, e.bare⟩
def noNames (sc : Scope) : Scope := { sc with names := [] }
/-- the frame's own cells, known -/
theorem frame_known {X : Cx} {pins : List (Addr × Obj)} {σ : L2.St} {H : Hp} {s : Shared} (I : Inv X pins σ H s) (hab : ∀ y c, X.env.cells.lookup y = some c → X.s_0.heap.objs.size ≤ c) : ∃ (Cc : Addr → Prop) (G : Hp), Known X σ (noNames X.env.scope) true Cc G H ∧
    (∀ b, Cc b → H b = none ∧ ∃ o, G b = some (CellX b o) ∧ s.heap.get? b = some o) ∧ (∀ b, Cc b → ∃ o v, s.heap.get? b = some o ∧ o.data = .cell v) ∧ (∀ b ∈ frs X.stack, ¬ Cc b) ∧ ∀ b o, X.base.get? b = some o → ¬ Cc b := by
  refine ⟨fun b => ∃ y, X.env.cells.lookup y = some b, fun b => (s.heap.get? b).map (CellX b), ⟨fun b ⟨y, e⟩ => ⟨rfl, y, e, fun z => by cases z⟩, fun _ y b e _ => ⟨y, e⟩, fun b ⟨y, e⟩ => I.freeC y b e, fun y b e _ => ?_, ⟨s.heap, fun b ⟨y, e⟩ => ?_⟩⟩, fun b ⟨y, e⟩ => ?_, fun b ⟨y, e⟩ => ?_, fun b hb ⟨y, ey⟩ => ?_, fun b o e ⟨y, ey⟩ => ?_⟩
  · obtain ⟨w, o, e1, e2⟩ := I.cell y b e
    refine ⟨o, w, by show (s.heap.get? b).map _ = _; rw [e1]; rfl, e2, fun j v ej ev hk => ?_⟩
    obtain ⟨m, hn, hl⟩ := I.loc
    obtain ⟨u, r, l⟩ := hl j y v ej ev (hk.elim (fun z => .inr (.inl z)) fun z => .inr (.inr z))
    rcases l with ⟨z', _⟩ | ⟨_, c', hc', o', e4, e5⟩
    · have z' : X.env.scope.names.lookup y = some .local := z'
      rcases hk with k | k <;> rw [k] at z' <;> cases z'
    · rw [e] at hc'
      cases hc'
      rw [e1] at e4
      cases e4
      rw [e2] at e5
      cases e5
      exact ⟨u, rfl, r⟩
  · obtain ⟨w, o, e1, e2⟩ := I.cell y b e
    exact ⟨o, w, by show (s.heap.get? b).map _ = _; rw [e1]; rfl, e1, e2⟩
  · obtain ⟨w, o, e1, e2⟩ := I.cell y b e
    exact ⟨I.freeC y b e, o, by show (s.heap.get? b).map _ = _; rw [e1]; rfl, e1⟩
  · obtain ⟨w, o, e1, e2⟩ := I.cell y b e
    exact ⟨o, w, e1, e2⟩
  · have ge := hab y b ey
    rcases List.mem_cons.mp (I.stkSub b hb) with q | q
    · obtain ⟨m, hn, _⟩ := I.loc
      obtain ⟨o, es, ep, e1, e2, _⟩ := hn
      obtain ⟨w, o', e3, e4⟩ := I.cell y b ey
      rw [← q, e3] at e1
      cases e1
      rw [e4] at e2
      cases e2
    · obtain ⟨_, o, ho, _⟩ := I.ok.funs.mem q
      exact Nat.lt_irrefl _ (Nat.lt_of_lt_of_le (Heap.lt_size ho) ge)
  · exact Nat.lt_irrefl _ (Nat.lt_of_lt_of_le (Heap.lt_size e) (Nat.le_trans I.ok.bsz (hab y b ey)))
/-- cells that are known in a later state, too, are no functions -/
theorem cells_in {C : Addr → Prop} {G H3 : Hp} {h : Heap} (hG : ∀ b, C b → ∃ o, G b = some (CellX b o) ∧ h.get? b = some o) (hd : ∀ b, C b → ∃ o v, h.get? b = some o ∧ o.data = .cell v) (h3 : ∀ b, C b → H3 b = G b) : CellsIn C H3 := by
  have key : ∀ b φ, C b → H3 b = some (.ext φ) → φ h := fun b φ z e => by
    obtain ⟨o, e1, e2⟩ := hG b z
    rw [h3 b z, e1] at e
    have e3 := Option.some.inj e
    unfold CellX at e3
    injection e3 with e3
    rw [← e3]
    exact e2
  refine ⟨fun b o z e => ?_, fun b L cl cc dV e z => ?_, fun b q e z => ?_⟩
  · obtain ⟨o', e1, _⟩ := hG b z
    rw [h3 b z, e1] at e
    exact ⟨o', (Option.some.inj e).symm⟩
  · obtain ⟨od, sl, doc, pm, ctv, e2⟩ := key b _ z e
    obtain ⟨o, v, e3, e4⟩ := hd b z
    rw [e3] at e2
    cases e2
    cases e4
  · obtain ⟨oc, vs, t, e2, e5, _⟩ := key b _ z e
    obtain ⟨o, v, e3, e4⟩ := hd b z
    rw [e3] at e2
    cases e2
    rw [e4] at e5
    cases e5
/-- no lambda is handed back -/
def clean {α : Type} (f : α → Bool) (r : Res α) : Res α := match r with
  | .ok d M => if f d = true ∧ M.all (inO noCloL) = true then .ok d M else .stuck
  | .exc c fs M => if noCloL fs = true ∧ M.all (inO noCloL) = true then .exc c fs M else .stuck
  | .stuck => .stuck
def mCallL (np : Nat) (r : List D → Mem → Res D) (ks : List Nat) (js : Nat → List Nat) (a : DA) : DM := fun σ M => (a σ M).bind fun ds M1 => match convL (capF σ ks js) ds with
  | some es => if es.length = np ∧ M1.all (inO noLamL) = true then clean noClo (r es M1) else .stuck
  | none => .stuck
section
variable {X : Cx} {Γ : Gam} {W : WX} {pos p : Pos} {x : Str} {e : Expr} {es : List Expr} {a : DA} {np : Nat} {r : List D → Mem → Res D} {ks : List Nat} {js : Nat → List Nat}
/-- what a run with known cells leaves, without them -/
theorem post_hid {P F : Hp} {ι : List Addr} {σ : L2.St} {G : Hp} {s : Shared} {Cc : Addr → Prop} {R : Res D} {Q : VK} (hG : ∀ b, Cc b → ∃ o, G b = some (CellX b o) ∧ s.heap.get? b = some o) (hd : ∀ b, Cc b → ∃ o v, s.heap.get? b = some o ∧ o.data = .cell v) (hF : ∀ b, Cc b → F b = none)
    (q : Post Γ W P F ι σ (Rep Γ) (clean noClo R) Q) : Post Γ.bare (fun cls od _ H3 => (∀ b, Cc b → H3 b = G b) ∧ W cls od σ (hid Cc H3)) P (mrg Cc G F) ι [] (Rep Γ.bare) R fun v H3 => (∀ b, Cc b → H3 b = G b) ∧ Q v (hid Cc H3) := by
  have still : ∀ {F3 : Hp} {ι3 : List Addr} {M3 : Mem} {H3 : Hp}, Ext (mrg Cc G F) ι F3 ι3 → St Γ.bare F3 P ι3 M3 H3 → ∀ b, Cc b → H3 b = G b := fun x s b z => by
    obtain ⟨o, e1, _⟩ := hG b z
    rw [e1]
    exact s.fr _ _ (x.f _ _ (by rw [mrg_in z]; exact e1))
  have ext : ∀ {F3 : Hp} {ι3 : List Addr}, Ext (mrg Cc G F) ι F3 ι3 → Ext F ι (hid Cc F3) ι3 := fun {F3 ι3} x => ⟨fun b o e => by
    have n : ¬ Cc b := fun z => by rw [hF b z] at e; cases e
    rw [hid_out n]
    exact x.f _ _ (by rw [mrg_out n]; exact e), x.i⟩
  cases R with
  | ok d M' =>
    unfold clean at q
    dsimp only at q
    split at q
    · rename_i hh
      intro v H3 F3 ι3 x3 s3 r3
      have hc := still x3 s3
      have ci := cells_in hG hd hc
      have cF := ci.sub s3.fr
      refine ⟨hc, q v _ _ ι3 (ext x3) (s3.toFull.hid ci hh.2) (rep_hid cF.cell cF.fn cF.code _ _ (rep_full _ _ r3) hh.1)⟩
    · exact q.elim
  | exc c fs M' =>
    unfold clean at q
    dsimp only at q
    split at q
    · rename_i hh
      intro cls od H3 F3 ι3 x3 s3 rx
      have hc := still x3 s3
      have ci := cells_in hG hd hc
      have cF := ci.sub s3.fr
      refine ⟨hc, q cls od _ _ ι3 (ext x3) (s3.toFull.hid ci hh.2) ⟨rx.1, ?_⟩⟩
      rcases rx.2 with h | ⟨d, xs, a1, a2, a3, a4⟩
      · exact .inl h
      · refine .inr ⟨d, xs, a1, ?_, a3, repL_hid cF.cell cF.fn cF.code _ _ (repL_full _ _ a4) hh.1⟩
        rw [hid_out fun z => by
          obtain ⟨y, e⟩ := ci.cell d _ z a2
          unfold CellX at e
          cases e]
        exact a2
    · exact q.elim
  | stuck => exact q.elim
theorem de_callL (c : Cal X Γ.bare x np r) (L : LamsOk X Γ (noNames X.env.scope) js ks) (hab : ∀ y c, X.env.cells.lookup y = some c → X.s_0.heap.objs.size ≤ c) (tk : L2N.Takes X W) (hg : Gl X x) (ha : DAs X Γ W (e :: es) a) (hdb : (x == ("__debug__" : Str)) = false)
    (he : starEach (e :: es) X.env = (false, eval e X.env) :: starEach es X.env) (hpl : (backTo pos (starEach es X.env)).any (·.1) = false) : DE X Γ W (.Call (.Name x p) (e :: es) [] pos) (mCallL np r ks js a) := by
  obtain ⟨f, fd, ps, Fn, hm, hk, hb⟩ := c.ex
  refine ⟨fun pins s σ H Q I ⟨F, P, ι, M, σd, nw, q⟩ => ?_⟩
  refine wpAny_Call_Name_kw (ld_glob I hg hm ?_ hdb)
  refine PySem.W.callWith_K (h₀ := X.base) I.ok.mod.kin hk (thn (ha.run pos pins s σ H (fun vs H1 => ∃ F1 ι1 M1 ds, Ext F ι F1 ι1 ∧ St Γ F1 P ι1 M1 H1 ∧ RepL Γ F1 ι1 ds vs ∧ Post Γ W P F1 ι1 σ (Rep Γ) (match convL (capF σd ks js) ds with
      | some es => if es.length = np ∧ M1.all (inO noLamL) = true then clean noClo (r es M1) else .stuck
      | none => .stuck) Q) I ⟨F, P, ι, M, σd, nw, Post.seq q fun ds M1 vs H1 F1 ι1 er x1 s1 r1 p1 => ⟨F1, ι1, M1, ds, x1, s1, r1, p1⟩⟩) fun us s1 ⟨vs, H1, I1, r1, F1, ι1, M1, ds, x1, st1, rd, p1⟩ => ⟨I1.kIn, (?_ : wpAny _ _ (call (.ref f) us) _ _ _)⟩) he hpl
  split at p1
  · rename_i es' ec
    split at p1
    · rename_i hh
      obtain ⟨Cc, G, kw, hC, hd, hf, hbs⟩ := frame_known I1 hab
      have hH : ∀ b, Cc b → H1 b = none := fun b z => (hC b z).1
      have hF : ∀ b, Cc b → F1 b = none := fun b z => st1.freshF (hH b z)
      have hG : ∀ b, Cc b → ∃ o, G b = some (CellX b o) ∧ s1.heap.get? b = some o := fun b z => (hC b z).2
      have rd' : RepL Γ.bare (mrg Cc G F1) ι1 es' vs := repL_conv (ext_mrg hF) (fun k cs _ _ _ cells a b _ => caps_at I1.ok L kw (nw.sl.ext x1) hF k cs cells a b) _ _ _ rd ec
      have st' : St Γ.bare (mrg Cc G F1) P ι1 M1 (mrg Cc G H1) := (st1.toBare hh.2).mrg hH fun b o z e => ⟨e, by
        obtain ⟨o', e', _⟩ := hG b z
        rw [e] at e'
        exact ⟨o', Option.some.inj e'⟩⟩
      have sp : spR Γ.bare np r vs (mrg Cc G H1) (fun v H3 => (∀ b, Cc b → H3 b = G b) ∧ Q v (hid Cc H3)) (fun cls od H3 => (∀ b, Cc b → H3 b = G b) ∧ W cls od σ (hid Cc H3)) :=
        ⟨mrg Cc G F1, P, ι1, M1, es', st', rd', hh.1, post_hid hG hd hF p1⟩
      have hus : us.length = ps.length := by rw [← r1.length]; exact Fn.size _ _ _ _ sp
      have bd := hb s1 us I1.kIn (by rw [List.append_nil]; exact hus)
      rw [List.append_nil] at bd
      refine wpAny_call (codeAny_mono (Fn.go X.stack s1 _ ⟨us, []⟩ us vs _ _ (env0_mrg I1.env0 hC hf hbs) bd r1 sp) fun res s' hq => ?_)
      cases res with
      | error er =>
        have hc := cx_shw hC hf (fun c d H3 z => z.1) hq
        exact tk er s' (L2N.XE.of_call I1 (fun cls d H4 ⟨H3, e4, z⟩ => by rw [e4]; exact z.2) hc)
      | ok fl =>
        cases fl with
        | ret u =>
          obtain ⟨v, H4, J, rv, H3, e4, z⟩ := I1.after (ce_shw hC hf (fun v H3 z => z.1) hq)
          exact ⟨v, H4, J, rv, by rw [e4]; exact z.2⟩
        | next => exact hq.elim
        | brk => exact hq.elim
        | cont => exact hq.elim
    · exact p1.elim
  · exact p1.elim
end
end MT

set_option maxRecDepth 100000
/-! MtLcL: a comprehension over the frame's lambdas. -/
namespace MT
open PySem PySem.Spec PyProof.Rows L2 LamX NdefX
def bareS (σ : Slots) : Slots := σ.map fun o => o.bind fun d => if noLam d then some d else none
noncomputable def mCompL (mi : DIt) (g : DGt) (c : DT) (m : DM) (vs : List Nat) (ks : List Nat) (js : Nat → List Nat) : DM := fun σ M => (mi σ M).bind fun its M1 => match convL (capF σ ks js) its.items with
  | some items => if items.length ≤ 1000000 ∧ items.length = its.items.length ∧ M1.all (inO noLamL) = true then (clean noCloL (runC g c m its.ok items (wipeD (bareS σ) vs) M1)).bind fun rs M2 => .ok (.lst rs) M2 else .stuck
  | none => .stuck
theorem convL_len {cap : Nat → Option (List D)} : ∀ {ds es : List D}, convL cap ds = some es → es.length = ds.length
  | [], es, e => by simp only [convL, Option.some.injEq] at e; subst e; rfl
  | d :: ds, es, e => by
    simp only [convL, Option.bind_eq_some_iff, Option.map_eq_some_iff] at e
    obtain ⟨d', _, es', e2, rfl⟩ := e
    rw [List.length_cons, List.length_cons, convL_len e2]
theorem convL_at {cap : Nat → Option (List D)} : ∀ {ds es : List D} {i : Nat} {d : D}, convL cap ds = some es → ds[i]? = some d → ∃ d', es[i]? = some d' ∧ convD cap d = some d'
  | [], _, _, _, _, e2 => by simp at e2
  | d :: ds, es, i, d0, e, e2 => by
    simp only [convL, Option.bind_eq_some_iff, Option.map_eq_some_iff] at e
    obtain ⟨d', e1, es', e3, rfl⟩ := e
    cases i with
    | zero =>
      simp only [List.getElem?_cons_zero, Option.some.injEq] at e2
      subst e2
      exact ⟨d', rfl, e1⟩
    | succ i =>
      simp only [List.getElem?_cons_succ] at e2 ⊢
      exact convL_at e3 e2
theorem bareS_rep {Γ : Gam} {F : Hp} {ι : List Addr} {σd : Slots} {σ : L2.St} (r : RepS Γ F ι σd σ) : RepS Γ.bare F ι (bareS σd) σ := by
  refine ⟨by unfold bareS; rw [List.length_map]; exact r.1, fun i d e => ?_⟩
  unfold bareS at e
  rw [List.getElem?_map] at e
  cases h : σd[i]? with
  | none => rw [h] at e; cases e
  | some o =>
    rw [h] at e
    cases o with
    | none => cases e
    | some d0 =>
      have e : (if noLam d0 then some d0 else none) = some d := Option.some.inj e
      split at e
      · rename_i hd
        cases e
        obtain ⟨v, ev, rv⟩ := r.2 i _ h
        exact ⟨v, ev, rep_bare _ _ rv hd⟩
      · cases e
section
variable {Γ : Gam} {F : Hp} {ι : List Addr}
mutual
theorem bare_noLam : ∀ (d : D) (v : V), Rep Γ.bare F ι d v → noLam d = true
  | .non, _, _ => rfl
  | .bl _, _, _ => rfl
  | .int _, _, _ => rfl
  | .str _, _, _ => rfl
  | .flt _, _, _ => rfl
  | .exn c ds, _, r => by
    simp only [Rep] at r
    obtain ⟨a, d, e1, e2, r⟩ := r
    simp only [noLam]
    rcases r with r | ⟨dd, xs, h1, h2, h3, h4⟩
    · rw [r.2.1]; rfl
    · exact bareL_noLam ds xs h4
  | .scr _, _, _ => rfl
  | .obj _, _, _ => rfl
  | .lam _, _, r => by
    simp only [Rep] at r
    obtain ⟨f, c, dV, cells, _, e, _⟩ := r
    cases e
  | .tup ds, _, r => by
    simp only [Rep] at r
    obtain ⟨a, xs, e, s, r⟩ := r
    simp only [noLam]
    exact bareL_noLam ds xs r
  | .lst ds, _, r => by
    simp only [Rep] at r
    obtain ⟨a, xs, e, s, r⟩ := r
    simp only [noLam]
    exact bareL_noLam ds xs r
  | .dic ks ds, _, r => by
    simp only [Rep] at r
    obtain ⟨a, kvs, e, s, q, r⟩ := r
    simp only [noLam]
    exact bareL_noLam ds _ r
  | .ins c ds, _, r => by
    simp only [Rep] at r
    obtain ⟨a, dx, xs, e, s, q, r⟩ := r
    simp only [noLam]
    exact bareL_noLam ds xs r
  | .clo k ds, _, r => by
    simp only [Rep] at r
    obtain ⟨f, cl, c, dV, ws, e, s, q, r⟩ := r
    simp only [noLam]
    exact bareL_noLam ds ws r
theorem bareL_noLam : ∀ (ds : List D) (vs : List V), RepL Γ.bare F ι ds vs → noLamL ds = true
  | [], _, _ => rfl
  | d :: ds, _, r => by
    simp only [RepL] at r
    obtain ⟨x, xs, e, r1, r2⟩ := r
    simp only [noLamL, Bool.and_eq_true]
    exact ⟨bare_noLam d x r1, bareL_noLam ds xs r2⟩
end
theorem St.noLam {P : Hp} {M : Mem} {H : Hp} (s : St Γ.bare F P ι M H) : M.all (inO noLamL) = true := by
  rw [List.all_eq_true]
  intro m hm
  obtain ⟨i, hi⟩ := List.mem_iff_getElem?.mp hm
  have hl : i < ι.length := by
    rw [s.len]
    exact (List.getElem?_eq_some_iff.mp hi).1
  obtain ⟨_, _, o, _, r⟩ := s.ob i _ m (List.getElem?_eq_getElem hl) hi
  cases m with
  | lst ds => obtain ⟨xs, e, r⟩ := r; exact bareL_noLam ds xs r
  | ins c ns ds => obtain ⟨dx, xs, e, l, r⟩ := r; exact bareL_noLam ds xs r
  | dic ks ds => obtain ⟨kvs, e, l, r⟩ := r; exact bareL_noLam ds _ r
end
section
variable {X : Cx} {Γ : Gam} {W : WX}
theorem lcl_read {scope : Scope} {mi : DIt} {gt : DGt} {mt : DT} {me : DM} {vs ts : List Nat} {σ : L2.St} {H : Hp} {Q : VK} {F P : Hp} {ι : List Addr} {M : Mem} {σd : Slots} {ks : List Nat} {js : Nat → List Nat} (ok : X.Ok) (L : LamsOk X Γ scope js ks) (hts : ∀ i ∈ ts, i ∈ vs) (n : Now Γ P σd M σ H F ι)
    (p : Post Γ W P F ι σ (Rep Γ) (mCompL mi gt mt me vs ks js σd M) Q) : tLc2 true X scope W (liftI Γ W mi) (liftG Γ.bare ts gt) (liftT Γ.bare WF mt) (fun W' => lift Γ.bare W' me) vs σ H Q :=
  ⟨F, P, ι, M, σd, n, Post.seq p fun its M1 J H1 F1 ι1 er x1 s1 it p1 => by
    intro L0 Cc G hL nL kw
    split at p1
    · rename_i items ec
      split at p1
      · rename_i hh
        have hH : ∀ b, Cc b → H1 b = none := kw.fresh
        have hF : ∀ b, Cc b → F1 b = none := fun b z => s1.freshF (hH b z)
        obtain ⟨h0, hh0⟩ := kw.heap
        have hG : ∀ b, Cc b → ∃ o, G b = some (CellX b o) ∧ h0.get? b = some o := fun b z => by
          obtain ⟨o, v, a1, a2, a3⟩ := hh0 b z
          exact ⟨o, a1, a2⟩
        have hd : ∀ b, Cc b → ∃ o v, h0.get? b = some o ∧ o.data = .cell v := fun b z => by
          obtain ⟨o, v, a1, a2, a3⟩ := hh0 b z
          exact ⟨o, v, a2, a3⟩
        have e0 : mrg Cc G (upd H1 L0 (.lst [])) = upd (mrg Cc G H1) L0 (.lst []) := funext fun b => by
          by_cases z : Cc b
          · rw [mrg_in z, upd_ne (fun q => nL (by rw [← q]; exact z)), mrg_in z]
          · rw [mrg_out z]
            by_cases q : b = L0
            · subst q; rw [upd_same, upd_same]
            · rw [upd_ne q, upd_ne q, mrg_out z]
        have sl1 := n.sl.ext x1
        have caps := caps_at ok L kw sl1 hF
        have st' : St Γ.bare (mrg Cc G F1) P ι1 M1 (mrg Cc G H1) := (s1.toBare hh.2.2).mrg hH fun b o z e => ⟨e, by
          obtain ⟨o', e', _⟩ := hG b z
          rw [e] at e'
          exact ⟨o', Option.some.inj e'⟩⟩
        have it' : ItOk Γ.bare (mrg Cc G F1) ι1 ⟨items, its.ok⟩ J := by
          obtain ⟨Gd, Y, w, hGd, hY⟩ := it
          refine ⟨Gd, Y, by rw [show (Its.mk items its.ok).items.length = its.items.length from hh.2.1]; exact w, fun F2 P2 ι2 M2 H2 x2 s2 hk => hGd F2 P2 ι2 M2 H2 ((ext_mrg hF).trans x2) s2.toFull hk, fun i x H2 H3 F2 P2 ι2 M2 hi y x2 s2 hk => ?_⟩
          obtain ⟨F3, d, e1, x3, s3, r3⟩ := hY i x H2 H3 F2 P2 ι2 M2 (by rw [← hh.2.1]; exact hi) y ((ext_mrg hF).trans x2) s2.toFull hk
          obtain ⟨d', e2, e3⟩ := convL_at ec e1
          have s3' : St Γ.bare F3 P2 ι2 M2 H3 := s3.toBare s2.noLam
          refine ⟨F3, d', e2, x3, s3', rep_conv Ext.refl (fun k cs f c dV cells q1 q2 _ => ?_) _ _ _ r3 e3⟩
          obtain ⟨ws, c1, c2⟩ := caps k cs cells q1 q2
          exact ⟨ws, c1.ext (x2.trans x3).f, RepL.ext (x2.trans x3) _ _ c2⟩
        rw [e0]
        have ext : ∀ {F3 : Hp} {ι3 : List Addr}, Ext (mrg Cc G F1) ι1 F3 ι3 → Ext F1 ι1 (hid Cc F3) ι3 := fun {F3 ι3} x => ⟨fun b o e => by
          have n : ¬ Cc b := fun z => by rw [hF b z] at e; cases e
          rw [hid_out n]
          exact x.f _ _ (by rw [mrg_out n]; exact e), x.i⟩
        have still : ∀ {F3 : Hp} {ι3 : List Addr} {M3 : Mem} {H3 : Hp}, Ext (mrg Cc G F1) ι1 F3 ι3 → St Γ.bare F3 P ι3 M3 H3 → ∀ b, Cc b → H3 b = G b := fun x s b z => by
          obtain ⟨o, e1, _⟩ := hG b z
          rw [e1]
          exact s.fr _ _ (x.f _ _ (by rw [mrg_in z]; exact e1))
        refine tlc2_of (Γ := Γ.bare) (W := W) (its := ⟨items, its.ok⟩) (R := runC gt mt me its.ok items (wipeD (bareS σd) vs) M1) hts (by rw [mrg_out nL]; exact hL) (fun b z => ?_) ⟨st', RepS.ext (ext_mrg hF) (bareS_rep sl1)⟩ it' hh.1 rfl (fun e => by rw [e] at p1; exact p1) (fun rs Mz e v H' F' ι' x s r => ?_) fun c fs Mz e cls od H' F' ι' x s r => ?_
        · obtain ⟨o, e1, _⟩ := hG b z
          exact ⟨_, e1, by rw [mrg_in z]; exact e1⟩
        · rw [e] at p1
          unfold clean at p1
          dsimp only at p1
          split at p1
          · rename_i hcl
            have ci := cells_in hG hd (still x s)
            have cF := ci.sub s.fr
            exact p1 v _ _ ι' (ext x) (s.toFull.hid ci hcl.2) (rep_hid cF.cell cF.fn cF.code _ _ (rep_full _ _ r) (by simp only [noClo]; exact hcl.1))
          · exact p1.elim
        · rw [e] at p1
          unfold clean at p1
          dsimp only at p1
          split at p1
          · rename_i hcl
            have ci := cells_in hG hd (still x s)
            have cF := ci.sub s.fr
            refine p1 cls od _ _ ι' (ext x) (s.toFull.hid ci hcl.2) ⟨r.1, ?_⟩
            rcases r.2 with h | ⟨d, xs, a1, a2, a3, a4⟩
            · exact .inl h
            · refine .inr ⟨d, xs, a1, ?_, a3, repL_hid cF.cell cF.fn cF.code _ _ (repL_full _ _ a4) hcl.1⟩
              rw [hid_out fun z => by
                obtain ⟨y, e⟩ := ci.cell d _ z a2
                unfold CellX at e
                cases e]
              exact a2
          · exact p1.elim
      · exact p1.elim
    · exact p1.elim⟩
variable {elt tg iter : Expr} {ifs : List Expr} {scope : Scope} {own : List (Str × Nat)} {pos : Pos} {ts : List Nat} {mi : DIt} {gt : DGt} {mt : DT} {me : DM} {ks : List Nat} {js : Nat → List Nat}
theorem de_lcl (g : Ok X Γ) (hc : X.calm = true) (tk : L2N.Takes X W) (hs0 : X.stack = X.env :: X.outer) (hf0 : X.env.frame = some X.env.locals) (hab : ∀ y c, X.env.cells.lookup y = some c → X.s_0.heap.objs.size ≤ c) (L : LamsOk X Γ scope js ks) (hN : X.N.Nodup) (hi : DI X Γ W tg iter mi) (ok : BlkOk X.N X.env.scope scope own) (hts : ∀ i ∈ ts, i ∈ own.map (·.2))
    (hg : ∀ (s : Shared) (H : Hp) (C : Addr) (cl : List (Str × Addr)) (fp : List Addr) (xe : Value → Shared → Prop), DG (blkT X s H scope C cl fp xe) Γ.bare ts tg gt) (ht : ∀ (s : Shared) (H : Hp) (C : Addr) (cl : List (Str × Addr)) (fp : List Addr) (xe : Value → Shared → Prop), DTs (blkT X s H scope C cl fp xe) Γ.bare WF ifs mt)
    (he : ∀ (s : Shared) (H : Hp) (C : Addr) (cl : List (Str × Addr)) (fp : List Addr) (xe : Value → Shared → Prop) (W' : WX), L2N.Takes (blkT X s H scope C cl fp xe) W' → DE (blkT X s H scope C cl fp xe) Γ.bare W' elt me) (hs : ∀ x, foldedSetIterable iter X.env x = pure x) :
    DE X Γ W (.ListComp elt [⟨tg, iter, ifs, 0⟩] scope pos) (mCompL mi gt mt me (own.map (·.2)) ks js) := by
  have h := pe_lc2 (kn := true) (W := W) (elt := elt) (own := own) (te := fun W' => lift Γ.bare W' me) (pos := pos) tk hs0 hf0 (fun _ => hab) hc hN hi ok hg ht he hs
  exact ⟨fun pins s σ H Q I ⟨F, P, ι, M, σd, n, p⟩ => h.run pins s σ H Q I (lcl_read I.ok L hts n p)⟩
end
end MT

set_option maxRecDepth 100000
/-! MtHot: the exception that is handled: its class, its fields. -/
namespace MT
open PySem PySem.Spec PyProof.Rows L2 LamX NdefX
/-! ### isinstance of an exception that has a dict -/
section
open PySem.W PySem.Calls
variable {prog : Program} {w : World} {A : Around} {E : Value → Shared → Prop} {s : Shared} {K : PySem.W.Frag} {x D : Addr} {ox : Obj} {od : Option Obj}
theorem findObj_cls {C : Addr} {name : Str} {a g : Value} (hc : (clsIn K C).isSome = true) (ha : findIn K (.ref C) name = some (some a)) (hg : specialIn K a "__get__" = some (some g)) (ht : takesIn K a = some true) : findObj K C od name = some (.bind g a) := by
  obtain ⟨cd, hc⟩ := Option.isSome_iff_exists.mp hc
  unfold findObj
  rw [hc, Option.bind_some, ha, Option.bind_some]
  simp [hg, ht]
theorem ask_class {Q : Option Value → Shared → Prop} (c : L2.ExcC K D) (X : K.In s.heap) (I : InstAt s.heap x ox D od) (h : Q (some (.ref D)) { s with toks := s.toks + 1 }) : wpAny (model prog w) A (getAttr? (.ref x) "__class__") Q E s := by
  have hf : findObj K D od "__class__" = some (.bind (.builtin "getset_descriptor.__get__") (.builtin "object.__class__")) := findObj_cls (by obtain ⟨cd, hc, _⟩ := any_some c.hd; rw [hc]; rfl) c.ha c.hn c.ht
  obtain ⟨hp, g, d, t, os⟩ := s
  have Lt := I.type (M := model prog w)
  have Lg := looks_findIn (M := model prog w) X c.hg
  have La := looks_findIn (M := model prog w) X c.hk
  have Lf := looks_find (M := model prog w) X I hf
  have sub : Looks (model prog w) hp (isInstance (.ref x) (.type "BaseException")) true := Lt.andThen (looks_subIn X c.hs)
  have n0 : (false && onTheHeap (Value.builtin "BaseException.__getattribute__")) = false := rfl
  have n1 : (onTheHeap (Value.ref D) && Value.builtin "BaseException.__getattribute__" == Value.builtin "object.__getattribute__") = false := by
    rw [show (Value.builtin "BaseException.__getattribute__" == Value.builtin "object.__getattribute__") = false by decide +kernel]
    rfl
  unfold getAttr? getAttrBy? getAttrBy
  refine wpAny_bind (wpAny_mkText (wpAny_bind (wpAny_attempt (wpAny_holding (wpAny_bind (Lt.at (wpAny_bind (Lg.at ?_))))))))
  show wpAny _ _ (if (onTheHeap (Value.ref D) && Value.builtin "BaseException.__getattribute__" == Value.builtin "object.__getattribute__") = true then _ else _) _ _ _
  rw [n1, if_neg Bool.false_ne_true]
  unfold getAttrByItsOwn hookBefore
  refine wpAny_bind ?_
  rw [if_pos (show onTheHeap (Value.ref D) = true from rfl)]
  refine La.at (wpAny_bind (wpAny_attempt (wpAny_holding ?_)))
  unfold callGetattribute
  rw [n0, if_neg Bool.false_ne_true]
  unfold boundAndCalled
  rw [PySem.F.excAttr_ValueError.ga.bind (.ref x)]
  refine wpAny_bind (wpAny_pure (?_ : wpAny _ _ (call (.builtin "BaseException.__getattribute__") [.ref x, .str "__class__" t]) _ _ _))
  refine wpAny_call (codeAny_call_builtin PySem.F.excAttr_ValueError.ga.plain PySem.F.entry_bexc_ga ?_)
  refine @check_slot (model prog w) _ _ ⟨hp, g, d, t + 1, os⟩ "BaseException.__getattribute__" "BaseException" "__getattribute__" (.ref x) [.str "__class__" t] [] _ (by decide +kernel) (by decide +kernel) sub (PySem.F.args_bexc_ga (.ref x) (.str "__class__" t)) ?_
  unfold Builtin.«object.__getattribute__»
  refine wpAny_bind (wpAny_of_eq (a := ((Value.ref x : Value), [Value.str "__class__" t])) (by first | rfl | (simp only [slotArgs]; rfl)) ?_)
  refine wpAny_bind (wpAny_pure (wpAny_bind (Lt.at (wpAny_bind (Lf.at ?_)))))
  show wpAny _ _ (holding [Value.builtin "object.__class__"] (call (.builtin "getset_descriptor.__get__") [.builtin "object.__class__", .ref x, .ref D]) >>= ret) _ _ _
  refine wpAny_bind (wpAny_holding (wpAny_call (class_get (s := ⟨hp, g, d, t + 1, os⟩) (ox := ox) (od := od) X I c.hm (wpAny_pure ?_))))
  show wpAny _ _ (handedOut (.ref D)) _ _ _
  rw [handedOut_of (v := .ref D) rfl]
  first
    | exact wpAny_pure (wpAny_pure h)
    | exact wpAny_pure h
    | exact wpAny_pure (wpAny_bind (wpAny_pure (wpAny_pure h)))
theorem kit_exc (c : L2.ExcC K D) : KitX K (.ref x) (.ref D) (fun h => InstAt h x ox D od) where
  ty := fun _ _ _ I => I.type
  it := fun _ _ X _ => by
    obtain ⟨cdD, hcD, _⟩ := any_some c.hd
    unfold clsIn at hcD
    split at hcD
    · rename_i ho
      intro A' Q' E' s' k q
      unfold isType loadHead
      exact wpAny_bind (wpAny_loadPart (k _ _ (X _ _ ho)) (wpAny_pure q))
    · cases hcD
  ne := fun h tp dd its n sl X htp => by
    obtain ⟨cdD, hcD, _⟩ := any_some c.hd
    refine Bool.eq_false_iff.mpr fun q => ?_
    have e : D = tp := Value.ref.inj (beq_iff_eq.mp q)
    subst e
    unfold clsIn at hcD
    split at hcD
    · rename_i ho
      have z := (X _ _ ho).symm.trans htp
      cases z
    · cases hcD
  ca := fun X I k => ask_class c X I k
end
/-! ### in the data -/
mutual
def noExn : D → Bool
  | .exn _ _ => false
  | .tup ds => noExnL ds
  | .lst ds => noExnL ds
  | .dic _ ds => noExnL ds
  | .ins _ ds => noExnL ds
  | .clo _ ds => noExnL ds
  | _ => true
def noExnL : List D → Bool
  | [] => true
  | d :: ds => noExn d && noExnL ds
end
def Gam.heat (Γ : Gam) (h : Addr × Option Addr × Nat) : Gam := { Γ with hot := some h }
section
variable {Γ : Gam} {F : Hp} {ι : List Addr} {hh : Addr × Option Addr × Nat}
mutual
theorem rep_heat (hn : Γ.hot = none) : ∀ (d : D) (v : V), Rep Γ F ι d v → Rep (Γ.heat hh) F ι d v
  | .non, _, r => by simpa only [Rep] using r
  | .bl _, _, r => by simpa only [Rep] using r
  | .int _, _, r => by simpa only [Rep] using r
  | .str _, _, r => by simpa only [Rep] using r
  | .flt _, _, r => by simpa only [Rep] using r
  | .scr _, _, r => by simp only [Rep] at r ⊢; exact r
  | .obj _, _, r => by simpa only [Rep] using r
  | .exn _ _, _, r => by
    simp only [Rep] at r
    obtain ⟨a, d, e, _⟩ := r
    rw [hn] at e
    cases e
  | .lam _, _, r => by simp only [Rep] at r ⊢; exact r
  | .tup ds, _, r => by
    simp only [Rep] at r ⊢
    obtain ⟨a, xs, e, s, r⟩ := r
    exact ⟨a, xs, e, s, repL_heat hn ds xs r⟩
  | .lst ds, _, r => by
    simp only [Rep] at r ⊢
    obtain ⟨a, xs, e, s, r⟩ := r
    exact ⟨a, xs, e, s, repL_heat hn ds xs r⟩
  | .dic ks ds, _, r => by
    simp only [Rep] at r ⊢
    obtain ⟨a, kvs, e, s, q, r⟩ := r
    exact ⟨a, kvs, e, s, q, repL_heat hn ds _ r⟩
  | .ins c ds, _, r => by
    simp only [Rep] at r ⊢
    obtain ⟨a, dx, xs, e, s, q, r⟩ := r
    exact ⟨a, dx, xs, e, s, q, repL_heat hn ds _ r⟩
  | .clo k ds, _, r => by
    simp only [Rep] at r ⊢
    obtain ⟨f, cl, c, dV, ws, e, s, q, r⟩ := r
    exact ⟨f, cl, c, dV, ws, e, s, q, repL_heat hn ds ws r⟩
theorem repL_heat (hn : Γ.hot = none) : ∀ (ds : List D) (vs : List V), RepL Γ F ι ds vs → RepL (Γ.heat hh) F ι ds vs
  | [], _, r => by simpa only [RepL] using r
  | d :: ds, _, r => by
    simp only [RepL] at r ⊢
    obtain ⟨x, xs, e, r1, r2⟩ := r
    exact ⟨x, xs, e, rep_heat hn d x r1, repL_heat hn ds xs r2⟩
end
mutual
theorem rep_cool : ∀ (d : D) (v : V), Rep (Γ.heat hh) F ι d v → noExn d = true → Rep Γ F ι d v
  | .non, _, r, _ => by simpa only [Rep] using r
  | .bl _, _, r, _ => by simpa only [Rep] using r
  | .int _, _, r, _ => by simpa only [Rep] using r
  | .str _, _, r, _ => by simpa only [Rep] using r
  | .flt _, _, r, _ => by simpa only [Rep] using r
  | .scr _, _, r, _ => by simp only [Rep] at r ⊢; exact r
  | .obj _, _, r, _ => by simpa only [Rep] using r
  | .exn _ _, _, _, h => by simp [noExn] at h
  | .lam _, _, r, _ => by simp only [Rep] at r ⊢; exact r
  | .tup ds, _, r, h => by
    simp only [Rep] at r ⊢
    obtain ⟨a, xs, e, s, r⟩ := r
    exact ⟨a, xs, e, s, repL_cool ds xs r (by simpa only [noExn] using h)⟩
  | .lst ds, _, r, h => by
    simp only [Rep] at r ⊢
    obtain ⟨a, xs, e, s, r⟩ := r
    exact ⟨a, xs, e, s, repL_cool ds xs r (by simpa only [noExn] using h)⟩
  | .dic ks ds, _, r, h => by
    simp only [Rep] at r ⊢
    obtain ⟨a, kvs, e, s, q, r⟩ := r
    exact ⟨a, kvs, e, s, q, repL_cool ds _ r (by simpa only [noExn] using h)⟩
  | .ins c ds, _, r, h => by
    simp only [Rep] at r ⊢
    obtain ⟨a, dx, xs, e, s, q, r⟩ := r
    exact ⟨a, dx, xs, e, s, q, repL_cool ds _ r (by simpa only [noExn] using h)⟩
  | .clo k ds, _, r, h => by
    simp only [Rep] at r ⊢
    obtain ⟨f, cl, c, dV, ws, e, s, q, r⟩ := r
    exact ⟨f, cl, c, dV, ws, e, s, q, repL_cool ds ws r (by simpa only [noExn] using h)⟩
theorem repL_cool : ∀ (ds : List D) (vs : List V), RepL (Γ.heat hh) F ι ds vs → noExnL ds = true → RepL Γ F ι ds vs
  | [], _, r, _ => by simpa only [RepL] using r
  | d :: ds, _, r, h => by
    simp only [RepL] at r ⊢
    obtain ⟨x, xs, e, r1, r2⟩ := r
    simp only [noExnL, Bool.and_eq_true] at h
    exact ⟨x, xs, e, rep_cool d x r1 h.1, repL_cool ds xs r2 h.2⟩
end
theorem St.heat {P : Hp} {M : Mem} {H : Hp} (hn : Γ.hot = none) (s : St Γ F P ι M H) : St (Γ.heat hh) F P ι M H :=
  ⟨s.fr, s.pr, s.dj, s.len, s.nd, fun i a m e1 e2 => by
    obtain ⟨a1, a2, o, a3, a4⟩ := s.ob i a m e1 e2
    refine ⟨a1, a2, o, a3, ?_⟩
    cases m with
    | lst ds => obtain ⟨xs, e, r⟩ := a4; exact ⟨xs, e, repL_heat hn _ _ r⟩
    | ins c ns ds => obtain ⟨dx, xs, e, l, r⟩ := a4; exact ⟨dx, xs, e, l, repL_heat hn _ _ r⟩
    | dic ks ds => obtain ⟨kvs, e, l, r⟩ := a4; exact ⟨kvs, e, l, repL_heat hn _ _ r⟩, s.tb, s.fp, s.pp⟩
theorem St.cool {P : Hp} {M : Mem} {H : Hp} (s : St (Γ.heat hh) F P ι M H) (h : M.all (inO noExnL) = true) : St Γ F P ι M H :=
  ⟨s.fr, s.pr, s.dj, s.len, s.nd, fun i a m e1 e2 => by
    obtain ⟨a1, a2, o, a3, a4⟩ := s.ob i a m e1 e2
    have hm := List.all_eq_true.mp h m (List.mem_of_getElem? e2)
    refine ⟨a1, a2, o, a3, ?_⟩
    cases m with
    | lst ds => obtain ⟨xs, e, r⟩ := a4; exact ⟨xs, e, repL_cool _ _ r hm⟩
    | ins c ns ds => obtain ⟨dx, xs, e, l, r⟩ := a4; exact ⟨dx, xs, e, l, repL_cool _ _ r hm⟩
    | dic ks ds => obtain ⟨kvs, e, l, r⟩ := a4; exact ⟨kvs, e, l, repL_cool _ _ r hm⟩, s.tb, s.fp, s.pp⟩
end
end MT

set_option maxRecDepth 100000
/-! MtTry: try: .. except E as e: return f(e). -/
namespace MT
open PySem PySem.Spec PyProof.Rows L2 LamX NdefX L2H
/-- what is known of the handled exception's fields -/
def ExRep (Γ : Gam) (F : Hp) (ι : List Addr) (c : Nat) (fs : List D) (d : Option Addr) : Prop :=
  (d = none ∧ fs = [] ∧ Γ.fld c = []) ∨ ∃ dd xs, d = some dd ∧ F dd = some (.xd ((Γ.fld c).zip xs)) ∧ xs.length = (Γ.fld c).length ∧ RepL Γ F ι fs xs
/-- the context holds the exception that Γ tells of -/
structure HotX (X : Cx) (Γ : Gam) : Prop where
  ex : ∃ a d c oe, Γ.hot = some (a, d, c) ∧ (a, oe) ∈ X.pn ∧ Zc (.ref (Γ.cls c)) d oe ∧ ∃ vs, oe.data = .fields vs
section
variable {X : Cx} {Γ : Gam} {W : WX}
theorem inst_hot {pins : List (Addr × Obj)} {σ : L2.St} {H F P : Hp} {ι : List Addr} {M : Mem} {s : Shared} {c : Nat} {fs : List D} {v : V} (hx : HotX X Γ) (I : Inv X pins σ H s) (st : St Γ F P ι M H) (r : Rep Γ F ι (.exn c fs) v) :
    ∃ a oe od, v = .ref a ∧ PySem.W.InstAt s.heap a oe (Γ.cls c) od ∧ ((fs = [] ∧ Γ.fld c = []) ∨ ∃ dd xs mA, od.isSome = true ∧ oe.dict = some dd ∧ H dd = some (.xd ((Γ.fld c).zip xs)) ∧ xs.length = (Γ.fld c).length ∧ RepL Γ F ι fs xs ∧ s.heap.Ns1 dd mA ∧ (∀ f, RelO (((Γ.fld c).zip xs).lookup f) (mA f)) ∧
      ∃ ob, od = some ob ∧ s.heap.get? dd = some ob) := by
  obtain ⟨a, d, c', oe, h1, h2, h3, vs, h4⟩ := hx.ex
  simp only [Rep] at r
  obtain ⟨a', d', e1, rfl, r⟩ := r
  rw [h1] at e1
  cases e1
  obtain ⟨hget, _⟩ := I.pin (a, oe) (List.mem_append_left _ h2)
  have hno : PySem.W.notCls oe = true := by unfold PySem.W.notCls; rw [h4]
  rcases r with ⟨e2, e3, e4⟩ | ⟨dd, xs, e2, e3, e4, e5⟩
  · refine ⟨a, oe, none, rfl, ⟨hget, h3.1, hno, ?_⟩, .inl ⟨e3, e4⟩⟩
    rw [h3.2, e2]
    trivial
  · have hx := I.hok dd _ (st.fr _ _ e3)
    obtain ⟨mA, hns, hr⟩ := hx
    obtain ⟨ob, es, ep, q1, q2, q3⟩ := hns
    refine ⟨a, oe, some ob, rfl, ⟨hget, h3.1, hno, ?_⟩, .inr ⟨dd, xs, mA, rfl, by rw [h3.2, e2], st.fr _ _ e3, e4, e5, ⟨ob, es, ep, q1, q2, q3⟩, hr, ob, rfl, q1⟩⟩
    rw [h3.2, e2]
    exact q1
/-- isinstance(e, C) -/
def mIsE (sub : Nat → Option Bool) (m : DM) : DM := fun σ M => (m σ M).bind fun d M1 => match d with
  | .exn c _ => ofOpt ((sub c).map D.bl) M1
  | _ => .stuck
theorem de_isE {sub : Nat → Option Bool} {x t : Str} {p p2 pos : Pos} {e : Expr} {m : DM} {tc : V} {cv : Value} (g : Ok X Γ) (hx : HotX X Γ) (hsub : ∀ c b, sub c = some b → PySem.W.kitOne X.K (.ref (Γ.cls c)) cv = some b ∧ L2.ExcC X.K (Γ.cls c)) (hg : Gl X x) (hm : X.mg x = none) (hv : bootBuiltins x = some (.builtin "isinstance")) (hn : x ≠ "__name__") (hdb : (x == ("__debug__" : Str)) = false)
    (ha : DE X Γ W e m) (hc : PE X (.Name t p2) (tC tc)) (htc : ∀ u, L2.RelV tc u → u = cv) (he : starEach [e, .Name t p2] X.env = (false, eval e X.env) :: starEach [.Name t p2] X.env) (he2 : starEach [.Name t p2] X.env = (false, eval (.Name t p2) X.env) :: starEach [] X.env)
    (hpl : (backTo pos (starEach [.Name t p2] X.env)).any (·.1) = false) : DE X Γ W (.Call (.Name x p) [e, .Name t p2] [] pos) (mIsE sub m) := by
  have call : CallR X (.builtin "isinstance") (fun xs H Q => ∃ F P ι M c fs v b, St Γ F P ι M H ∧ Rep Γ F ι (.exn c fs) v ∧ xs = [v, tc] ∧ sub c = some b ∧ Q (.bl b) H) := by
    intro pins s σ H xs us Q I r ⟨F, P, ι, M, c, fs, v, b, st, rv, ex, eb, q⟩
    subst ex
    cases r with
    | cons rx rr =>
      cases rr with
      | cons rt rr =>
        cases rr
        have ec := htc _ rt
        subst ec
        obtain ⟨a, oe, od, rfl, J, _⟩ := inst_hot hx I st rv
        cases rx
        obtain ⟨k1, k2⟩ := hsub c b eb
        exact PySem.W.kia_one (kit_exc k2) I.kIn J k1 (fun z => nomatch z) fun tk => ⟨.bl b, H, I.kept (t' := tk) fun _ _ z => z, rfl, q⟩
  refine PE.imp (pe_callB call hg hm hv (pa_cons ha (pa_cons hc pa_nil he2) he) hn hdb he hpl) fun σ H Q ⟨F, P, ι, M, σd, n, p⟩ => ⟨F, P, ι, M, σd, n, Post.seq p fun d M1 v H1 F1 ι1 er x1 s1 r1 p1 => ?_⟩
  split at p1
  · rename_i c fs
    unfold ofOpt at p1
    split at p1
    · rename_i r eg
      simp only [Option.map_eq_some_iff] at eg
      obtain ⟨b, e1, rfl⟩ := eg
      exact ⟨F1, P, ι1, M1, c, fs, v, b, s1, r1, rfl, e1, p1.here s1 (by simp only [Rep])⟩
    · exact p1.elim
  · exact p1.elim
/-- e.f -/
def mXf (Γ : Gam) (f : Str) (okc : Nat → Bool) (m : DM) : DM := fun σ M => (m σ M).bind fun d M1 => match d with
  | .exn c fs => if okc c then ofOpt (((Γ.fld c).findIdx? (· == f)).bind fun i => fs[i]?) M1 else .stuck
  | _ => .stuck
theorem zip_look {f : Str} {Γ : Gam} {F : Hp} {ι : List Addr} : ∀ {ns : List Str} {fs : List D} {xs : List V} {i : Nat} {d : D}, xs.length = ns.length → RepL Γ F ι fs xs → ns.findIdx? (· == f) = some i → fs[i]? = some d → ∃ v, (ns.zip xs).lookup f = some v ∧ Rep Γ F ι d v
  | [], _, _, _, _, _, _, e, _ => by simp at e
  | n :: ns, fs, [], _, _, h, _, _, _ => by simp at h
  | n :: ns, fs, x :: xs, i, d, h, r, e, e2 => by
    cases fs with
    | nil => simp only [RepL] at r; cases r
    | cons d0 fs =>
      simp only [RepL] at r
      obtain ⟨y, ys, q, r1, r2⟩ := r
      cases q
      rw [List.findIdx?_cons] at e
      rw [List.zip_cons_cons, lookup_put]
      by_cases hn : (n == f) = true
      · rw [if_pos hn] at e
        cases e
        rw [if_pos (beq_iff_eq.mp hn).symm]
        simp only [List.getElem?_cons_zero, Option.some.injEq] at e2
        subst e2
        exact ⟨x, rfl, r1⟩
      · rw [if_neg hn] at e
        simp only [Option.map_eq_some_iff] at e
        obtain ⟨j, e, rfl⟩ := e
        rw [if_neg fun z => hn (beq_iff_eq.mpr z.symm)]
        simp only [List.getElem?_cons_succ] at e2
        exact zip_look (by simpa using h) r2 e e2
theorem de_xf {f : Str} {okc : Nat → Bool} {e : Expr} {m : DM} {pos : Pos} (g : Ok X Γ) (hx : HotX X Γ) (hok : ∀ c, okc c = true → L2.XfC X.K (Γ.cls c) ∧ PySem.W.findIn X.K (.ref (Γ.cls c)) f = some none) (he : DE X Γ W e m) (hb : attributeBase e f X.env (eval e X.env) = eval e X.env) :
    DE X Γ W (.Attribute e f pos) (mXf Γ f okc m) := by
  refine ⟨fun pins s σ H Q I ⟨F, P, ι, M, σd, n, p⟩ => ?_⟩
  refine attr_of hb (thn (he.run pins s σ H (fun v H1 => ∃ F1 ι1 M1 d, St Γ F1 P ι1 M1 H1 ∧ Rep Γ F1 ι1 d v ∧ Post Γ W P F1 ι1 σ (Rep Γ) (match d with
    | .exn c fs => if okc c then ofOpt (((Γ.fld c).findIdx? (· == f)).bind fun i => fs[i]?) M1 else .stuck
    | _ => .stuck) Q) I ⟨F, P, ι, M, σd, n, Post.seq p fun d M1 v H1 F1 ι1 er x1 s1 r1 p1 => ⟨F1, ι1, M1, d, s1, r1, p1⟩⟩) fun u s1 ⟨v, H1, I1, ru, F1, ι1, M1, d, st1, r1, p1⟩ => ?_)
  split at p1
  · rename_i c fs
    split at p1
    · rename_i hc
      obtain ⟨T, hno⟩ := hok c hc
      unfold ofOpt at p1
      split at p1
      · rename_i r eg
        simp only [Option.bind_eq_some_iff] at eg
        obtain ⟨i, e1, e2⟩ := eg
        obtain ⟨a, oe, od, rfl, J, h⟩ := inst_hot hx I1 st1 r1
        obtain rfl : u = Value.ref a := ru
        rcases h with ⟨rfl, _⟩ | ⟨dd, xs, mA, _, hdict, hH, hl, rf, hns, hr, ob, rfl, hob⟩
        · simp at e2
        · obtain ⟨w, e3, rw'⟩ := zip_look hl rf e1 e2
          obtain ⟨od2, ho, hlk⟩ := lookIn_ns hns
          rw [hob] at ho
          cases ho
          obtain ⟨uu, hu, ruu⟩ := RelO.some_of (v := w) (o := mA f) (by rw [← e3]; exact hr f)
          exact HandSPX.exc_get I1.kIn J T.ga T.gg T.exC (PySem.W.findObj_own T.hdC hno rfl (by rw [hlk, hu])) (handed_of ruu) ⟨w, H1, I1.tok _, ruu, p1.here st1 rw'⟩
      · exact p1.elim
    · exact p1.elim
  · exact p1.elim
end
/-! ### the def that is asked in the suite -/
structure RefOk (P : Program) (w : World) (K : PySem.W.Frag) (mg : Str → Option Value) (base : Heap) (Γ : Gam) (k : Nat) (f : Addr) (fd : FuncData) (ps : List Str) (rr : Nat → List D → Mem → Res D) : Prop where
  len : ps.length = 1
  run : ∀ (A : Around) (outer : List Env) (s : Shared) (H : Hp) (args : Args) (us : List Value) (Q : VK) (E : XK) (p : Addr × Obj) (c : Nat) (d : Option Addr) (F P' : Hp) (ι : List Addr) (M : Mem) (fs : List D), RoomH k A → Hot1 A p → PinOk outer H s p → Env0 P w K mg base A outer s H → BindsTo s fd args (ps.zip us) → us = [.ref p.1] → Zc (.ref (Γ.cls c)) d p.2 → (∃ vs, p.2.data = .fields vs) →
    St Γ F P' ι M H → ExRep Γ F ι c fs d → Post Γ (fun cls od _ H' => E cls od H') P' F ι [] (Rep Γ) (rr c fs M) Q → codeAny (model P w) A (.call (.ref f) args) (CR (L2N.CX P w) outer P w H s Q E) s
/-- its run -/
def runRef (nn : Nat) (b : DSt) (c : Nat) (fs : List D) (M : Mem) : Res D :=
  match b ([some (.exn c fs)] ++ List.replicate (nn - 1) none) M with
  | .rt d M' => if noExn d = true ∧ M'.all (inO noExnL) = true then .ok d (trim M.length [d] M') else .stuck
  | _ => .stuck
theorem refok_of {P : Program} {w : World} {K : PySem.W.Frag} {mg : Str → Option Value} {base : Heap} {Γ : Gam} {x qual : Str} {st : Stmt} {f : Addr} {fd : FuncData} {N ps : List Str} {k : Nat} (hn : Γ.hot = none) (F : Fun K x qual st f fd) (S : FnScope N ps (defScope st)) (hps : ps.length = 1) {b : DSt}
    (hb : ∀ (cdv : Value) (A : Around) (outer : List Env) (s : Shared) (H : Hp) (E : XK) (p : Addr × Obj) (c : Nat) (d : Option Addr), Hot1 A p → Zc (.ref (Γ.cls c)) d p.2 → (∃ vs, p.2.data = .fields vs) → RoomH k (A.deeper (envOfC qual (defScope st) s.heap.objs.size f cdv)) →
      DSs (cxH (L2N.CX P w) P w K mg base N qual (defScope st) f cdv A outer s H E p) (Γ.heat (p.1, d, c)) (fun cls d _ H' => E cls d H') (defBody st) b) :
    RefOk P w K mg base Γ (k + 1) f fd ps (runRef N.length b) := by
  obtain ⟨oc, od, kV, doc, pm, an, cdv, ct, osl, rfl, lk, hcd⟩ := F.ex
  refine ⟨hps, fun A outer s H args us Q E p c d F P' ι M fs hr hot hpin e0 hbd hus hz hf st' hex hp => ?_⟩
  subst hus
  let H0 := H
  have sp : (fun (vs : List V) (H' : Hp) (_ : VK) (_ : XK) => vs = [V.ref p.1] ∧ H' = H0) [V.ref p.1] H Q E := ⟨rfl, rfl⟩
  have r : Vals [V.ref p.1] [Value.ref p.1] := .cons rfl .nil
  have KX : K.In s.heap := e0.mod.kin.keeps fun b o e => (e0.bs b o e).1
  have lim : s.heap.NoLimit := e0.mod.nolimit.keeps fun b o e => (e0.bs b o e).1
  have hkind : ∀ y ∈ ps.zip [Value.ref p.1], (defScope st).names.lookup y.1 = some .local ∨ ((defScope st).names.lookup y.1 = some .cell ∧ ((cellsFrom (s.heap.objs.size + 1) (defScope st).names []).lookup y.1).isSome = true) := fun ⟨n, v⟩ hy => (S.par n (List.of_mem_zip hy).1).imp id fun q => ⟨q, PySem.W.cellsFrom_some _ _ _ (.inl q)⟩
  refine codeAny_call_function hr.depth (KX _ _ lk) rfl S.co S.gen rfl (PySem.W.codeRec_of KX hcd) (hbd _ _ _ _ (wpAny_newFunctionEnv_cells S.kind hkind fun env he s1 x => ?_))
  subst he
  refine ⟨lim.keeps x.toInCall.keep, codeAny_func ?_⟩
  have ht := hb cdv A outer s H E p c d hot hz hf (hr.deeper _)
  have I : Inv (cxH (L2N.CX P w) P w K mg base N qual (defScope st) f cdv A outer s H E p) [] (L2.start N [V.ref p.1]) H s1 := inv_startH S hpin e0 (by rw [hps]; rfl) r x
  have hN : 1 ≤ N.length := by
    have := congrArg List.length S.pre
    rw [List.length_take, hps] at this
    omega
  refine wpAny_mono (ht.run [] s1 (L2.start N [V.ref p.1]) H { nx := fun _ H' => Q .non H', rt := Q } I ⟨F, P', ι, M, [some (.exn c fs)] ++ List.replicate (N.length - 1) none, ⟨st'.heat hn, ?_⟩, ?_⟩) (fun fl s' hs => ?_) fun e s' hs => hs
  · have re : RepL (Γ.heat (p.1, d, c)) F ι [.exn c fs] [V.ref p.1] := by
      refine RepL.one ?_
      simp only [Rep]
      refine ⟨p.1, d, rfl, rfl, ?_⟩
      rcases hex with h | ⟨dd, xs, h1, h2, h3, h4⟩
      · exact .inl h
      · exact .inr ⟨dd, xs, h1, h2, h3, repL_heat hn _ _ h4⟩
    exact reps_of re rfl
  · unfold runRef at hp
    cases eb : b ([some (.exn c fs)] ++ List.replicate (N.length - 1) none) M with
    | rt d0 M' =>
      rw [eb] at hp
      dsimp only at hp
      split at hp
      · rename_i hh
        intro v H2 F2 ι2 x2 s2 r2
        obtain ⟨ι3, x3, s3, r3⟩ := trim_ok st' x2 (s2.cool hh.2) (RepL.one (rep_cool _ _ r2 hh.1))
        simp only [RepL] at r3
        obtain ⟨y, _, e', r3, _⟩ := r3
        cases e'
        exact hp v H2 F2 ι3 x3 s3 r3
      · exact hp.elim
    | nx _ _ => rw [eb] at hp; exact hp.elim
    | bk _ _ => rw [eb] at hp; exact hp.elim
    | ct _ _ => rw [eb] at hp; exact hp.elim
    | exc _ _ _ _ => rw [eb] at hp; exact hp.elim
    | stuck => rw [eb] at hp; exact hp.elim
  · have fin : ∀ {σ' : L2.St} {H' : Hp} {v : V} {u : Value}, Inv (cxH (L2N.CX P w) P w K mg base N qual (defScope st) f cdv A outer s H E p) [] σ' H' s' → L2.RelV v u → Q v H' → CE outer P w H s Q u s' :=
      fun {σ' H' v u} J rv q => ⟨v, H', J.os, J.bare, J.base, J.hok, rv, q⟩
    cases fl with
    | ret u =>
      obtain ⟨v, σ', H', J, rv, q⟩ := hs
      exact fin J rv q
    | next =>
      obtain ⟨σ', H', J, q⟩ := hs
      exact fin (v := V.non) (u := Value.none) J rfl q
    | brk => exact (hs.elim fun _ h => h.elim fun _ h => h.2.elim)
    | cont => exact (hs.elim fun _ h => h.elim fun _ h => h.2.elim)
/-- at x: such a def -/
structure RefCal (X : Cx) (Γ : Gam) (x : Str) (rr : Nat → List D → Mem → Res D) : Prop where
  ex : ∃ k f fd ps, RefOk X.prog X.w X.K X.mg X.base Γ k f fd ps rr ∧ RoomH k X.A ∧ X.mg x = some (.ref f) ∧ PySem.W.keepIn X.K (.ref f) = true ∧ Binds X.K fd ps []
def sTold (catch_ : Nat → Bool) (i : Nat) (mb : DSt) (rr : Nat → List D → Mem → Res D) : DSt := fun σ M => match mb σ M with
  | .exc c fs σ' M' => if catch_ c = true ∧ i < σ'.length then (match rr c fs M' with
    | .ok d M2 => .rt d M2
    | _ => .stuck) else .stuck
  | r => r
theorem ds_told {X : Cx} {Γ : Gam} {W : WX} {x n r : Str} {cm : Addr} {i : Nat} {body : List Stmt} {np pos pos' rp ep cp sp : Pos} {mb : DSt} {rr : Nat → List D → Mem → Res D} {catch_ : Nat → Bool} (hs : X.stack = X.env :: X.outer) (hf : X.env.frame = some X.env.locals) (hN : X.N.Nodup) (hi : X.N[i]? = some n) (hln : X.env.kindOf n = some .local)
    (hc : Names X x (.ref cm)) (tk : L2N.Takes X W) (hcatch : ∀ c, catch_ c = true → PySem.W.exmOne X.K (.ref (Γ.cls c)) (.ref cm) = some true) (hb : ∀ (W' : WX) (pn : List (Addr × Obj)) (xe : Value → Shared → Prop), L2N.Takes (X.tr pn xe) W' → DSs (X.tr pn xe) Γ W' body mb)
    (rc : RefCal X Γ r rr) (hgr : Gl X r) (hdr : (r == ("__debug__" : Str)) = false) (hdn : (n == ("__debug__" : Str)) = false) (hcn : (n == ("__classdict__" : Str)) = false)
    (hst : starEach [.Name n ep] X.env = (false, eval (.Name n ep) X.env) :: starEach [] X.env) (hpl : (backTo cp (starEach [] X.env)).any (·.1) = false) :
    DS X Γ W (.Try body [.ExceptHandler (some (.Name x np)) (some n) [.Return (some (.Call (.Name r rp) [.Name n ep] [] cp)) sp] pos'] [] [] pos) (sTold catch_ i mb rr) := by
  obtain ⟨k, f, fd, ps, R, hr, hm, hk, hbd⟩ := rc.ex
  let te : Addr → Value → Option Addr → TE := fun a cls d => fun σ' H' Q => ∃ F P ι M c fs, St Γ F P ι M H' ∧ σ'[i]? = some (some (.ref a)) ∧ cls = .ref (Γ.cls c) ∧ ExRep Γ F ι c fs d ∧ Post Γ WF P F ι [] (Rep Γ) (rr c fs M) Q
  have suite : ∀ (a : Addr) (oe : Obj) (cls : Value) (d : Option Addr) (pn : List (Addr × Obj)), L2N.Zn cls d oe → (∃ vs, oe.data = .fields vs) → PSs (X.suite a ((a, oe) :: pn)) [.Return (some (.Call (.Name r rp) [.Name n ep] [] cp)) sp] (tRet (te a cls d)) := fun a oe cls d pn hz hv => by
    refine pss_one (ps_ret ?_)
    refine ⟨fun pins s σ H Q I ⟨F, P, ι, M, c, fs, st, hsl, ecls, hex, q⟩ => ?_⟩
    subst ecls
    have hgr' : Gl (X.suite a ((a, oe) :: pn)) r := hgr
    refine wpAny_Call_Name_kw (ld_glob I hgr' hm ?_ hdr)
    have ha : PA (X.suite a ((a, oe) :: pn)) [.Name n ep] (tCons (tVar i) tNil) := pa_cons (pe_var hi (.inl hln) hdn hcn) pa_nil hst
    refine PySem.W.callWith_K (h₀ := X.base) I.ok.mod.kin hk (thn (ha.run cp pins s σ H (fun vs H1 => vs = [V.ref a] ∧ H1 = H) I ⟨_, hsl, rfl, rfl⟩) fun us s1 ⟨vs, H1, I1, r1, e1, e2⟩ => ⟨I1.kIn, (?_ : wpAny _ _ (call (.ref f) us) _ _ _)⟩) hst hpl
    subst e1 e2
    have eu : us = [Value.ref a] := by
      cases r1 with
      | cons ra rt =>
        cases rt
        cases ra
        rfl
    subst eu
    obtain ⟨vs0, hv0⟩ := hv
    have hot : Hot1 (X.suite a ((a, oe) :: pn)).A (a, oe) := ⟨rfl, vs0, hv0, hz.2.2 vs0 hv0⟩
    have P1 := I1.pin (a, oe) (List.mem_append_left _ List.mem_cons_self)
    have hpin : PinOk X.stack H1 s1 (a, oe) := ⟨P1.1, P1.2.1, fun hm => (List.mem_cons.mp (I1.stkSub a hm)).elim P1.2.2.1 P1.2.2.2.1, P1.2.2.2.2⟩
    have b := hbd s1 [Value.ref a] I1.kIn (by rw [List.append_nil, R.len]; rfl)
    rw [List.append_nil] at b
    have hr' : RoomH k (X.suite a ((a, oe) :: pn)).A := ⟨hr.dp, hr.un⟩
    refine wpAny_call (codeAny_mono (R.run _ X.stack s1 H1 ⟨[.ref a], []⟩ [.ref a] Q (fun _ _ _ => False) (a, oe) c d F P ι M fs hr' hot hpin I1.env0 b rfl hz.zc ⟨vs0, hv0⟩ st hex q) fun res s' hq => ?_)
    cases res with
    | error e =>
      obtain ⟨_, _, _, _, _, _, _, _, _, _, _, _, z⟩ := hq
      exact z.elim
    | ok fl =>
      cases fl with
      | ret u => exact I1.after hq
      | next => exact hq.elim
      | brk => exact hq.elim
      | cont => exact hq.elim
  have h := L2N.ps_try_as (X := X) (np := np) (pos := pos) (pos' := pos') (Wout := W) (tb := fun W' => liftS Γ W' mb) hs hf hN hi hln hc tk (fun W' pn xe t _ => hb W' pn xe t) suite
  refine PS.imp h fun D σ H ⟨F, P, ι, M, σd, nw, p⟩ => ⟨F, P, ι, M, σd, nw, ?_⟩
  unfold sTold at p
  cases em : mb σd M with
  | exc c fs σ' M' =>
    rw [em] at p
    dsimp only at p
    split at p
    · rename_i hct
      cases er : rr c fs M' with
      | ok dd M2 =>
        rw [er] at p
        intro cls od σ2 H2 F2 ι2 x2 n2 rx
        obtain ⟨ec, rx⟩ := rx
        refine ⟨true, by rw [ec]; exact hcatch c hct.1, fun _ a ha => ?_, fun z => nomatch z⟩
        have hlen : i < σ2.length := by rw [← n2.sl.1]; exact hct.2
        have fin : ∀ {F3 : Hp}, Ext F2 ι2 F3 ι2 → St Γ F3 P ι2 M' H2 → ExRep Γ F3 ι2 c fs od → te a cls od (σ2.set i (some (.ref a))) H2 D.rt := fun {F3} x3 s3 hex => by
          refine ⟨F3, P, ι2, M', c, fs, s3, by rw [List.getElem?_set_self hlen], ec, hex, ?_⟩
          rw [er]
          exact fun v H4 F4 ι4 x4 s4 r4 => p v H4 F4 ι4 ((x2.trans x3).trans x4) s4 r4
        show te a cls od (σ2.set i (some (.ref a))) H2 D.rt
        rcases rx with ⟨h1, h2, h3⟩ | ⟨d, xs, h1, h2, h3, h4⟩
        · exact fin Ext.refl n2.st (.inl ⟨h3, h1, h2⟩)
        · have hP : P d = none := by
            cases e : P d with
            | none => rfl
            | some o =>
              have := n2.st.pr _ _ e
              rw [h2] at this
              cases this
              exact absurd rfl ((n2.st.pp _ _ e).2.2.2 _)
          have hI : d ∉ ι2 := fun hm => by
            obtain ⟨j, ej⟩ := List.getElem?_of_mem hm
            obtain ⟨m, o, _, _, _, e1, r⟩ := n2.st.there ej
            rw [h2] at e1
            cases e1
            exact (repO_plain r).2.2.2 _ rfl
          obtain ⟨s3, x3⟩ := n2.st.adopt h2 hP hI (fun ps z => by cases z)
          exact fin x3 s3 (.inr ⟨d, xs, h1, upd_same, h3, RepL.ext x3 _ _ h4⟩)
      | exc _ _ _ => rw [er] at p; exact p.elim
      | stuck => rw [er] at p; exact p.elim
    · exact p.elim
  | nx _ _ => rw [em] at p; exact p
  | rt _ _ => rw [em] at p; exact p
  | bk _ _ => rw [em] at p; exact p
  | ct _ _ => rw [em] at p; exact p
  | stuck => rw [em] at p; exact p.elim
end MT

set_option maxRecDepth 100000
/-! MtRunL: a def that makes lambdas. -/
namespace MT
open PySem PySem.Spec PyProof.Rows L2 LamX NdefX
def Gam.at (Γ : Gam) (c : List (Str × Addr)) : Gam := { Γ with cells := some c }
theorem bare_at {Γ : Gam} (h : Γ.cells = none) (c : List (Str × Addr)) : (Γ.at c).bare = Γ := by
  cases Γ
  cases h
  rfl
def runDefL (np nn : Nat) (b : DSt) (ds : List D) (M : Mem) : Res D :=
  match b (ds.map some ++ List.replicate (nn - np) none) M with
  | .nx _ M' => if M'.all (inO noLamL) = true then .ok .non (trim M.length [] M') else .stuck
  | .rt d M' => if noLam d = true ∧ M'.all (inO noLamL) = true then .ok d (trim M.length [d] M') else .stuck
  | .exc c fs _ M' => if noLamL fs = true ∧ M'.all (inO noLamL) = true then .exc c fs (trim M.length fs M') else .stuck
  | _ => .stuck
theorem fn_runLA {P : Program} {w : World} {K : PySem.W.Frag} {mg : Str → Option Value} {base : Heap} {Γ : Gam} {x qual : Str} {st : Stmt} {f : Addr} {fd : FuncData} {N ps : List Str} {k : Nat} {A : Around} (hce : Γ.cells = none) (F : Fun K x qual st f fd) (S : FnScope N ps (defScope st)) (room : Room (k + 1) A) {b : DSt}
    (hb : ∀ (cdv : Value) (outer : List Env) (s : Shared) (H : Hp) (E : XK), (∃ oc od kV doc pm an ct osl, fd = PySem.W.fnOf x qual (defArgs st) (defBody st) (defScope st) .none kV doc pm an cdv ct ∧ K.lookup f = some ⟨oc, od, .func fd, osl⟩) → Room k (A.deeper (envOfC qual (defScope st) s.heap.objs.size f cdv)) →
      DSs (cxOf (L2N.CX P w) P w K mg base N qual (defScope st) f cdv A outer s H E) (Γ.at (envOfC qual (defScope st) s.heap.objs.size f cdv).cells) (fun cls d _ H' => E cls d H') (defBody st) b) :
    FnA P w K mg base (L2N.CX P w) A f fd ps (spR Γ ps.length (runDefL ps.length N.length b)) := by
  obtain ⟨oc, od, kV, doc, pm, an, cdv, ct, osl, rfl, lk, hcd⟩ := F.ex
  refine fn_ofA lk hcd S spR_size room fun outer s H vs Q E hr hsp => ⟨_, hb cdv outer s H E ⟨oc, od, kV, doc, pm, an, ct, osl, rfl, lk⟩ hr, ?_⟩
  · obtain ⟨F, P', ι, M, ds, st', r, e, p⟩ := hsp
    have be := bare_at hce (envOfC qual (defScope st) s.heap.objs.size f cdv).cells
    have stF : St (Γ.at (envOfC qual (defScope st) s.heap.objs.size f cdv).cells) F P' ι M H := St.toFull (by rw [be]; exact st')
    have rF : RepL (Γ.at (envOfC qual (defScope st) s.heap.objs.size f cdv).cells) F ι ds vs := repL_full _ _ (by rw [be]; exact r)
    have back : ∀ {F2 : Hp} {ι2 : List Addr} {M2 : Mem} {H2 : Hp}, St (Γ.at (envOfC qual (defScope st) s.heap.objs.size f cdv).cells) F2 P' ι2 M2 H2 → M2.all (inO noLamL) = true → St Γ F2 P' ι2 M2 H2 := fun s2 h2 => by
      have := s2.toBare h2
      rw [be] at this
      exact this
    have backL : ∀ {F2 : Hp} {ι2 : List Addr} {ds2 : List D} {vs2 : List V}, RepL (Γ.at (envOfC qual (defScope st) s.heap.objs.size f cdv).cells) F2 ι2 ds2 vs2 → noLamL ds2 = true → RepL Γ F2 ι2 ds2 vs2 := fun r2 h2 => by
      have := repL_bare _ _ r2 h2
      rw [be] at this
      exact this
    refine ⟨F, P', ι, M, ds.map some ++ List.replicate (N.length - ps.length) none, ⟨stF, ?_⟩, ?_⟩
    · unfold L2.start
      exact reps_of rF (by rw [r.length, e])
    · unfold runDefL at p
      cases eb : b (ds.map some ++ List.replicate (N.length - ps.length) none) M with
      | nx σ' M' =>
        rw [eb] at p
        dsimp only at p
        split at p
        · rename_i hh
          intro σ2 H2 F2 ι2 x2 n2
          obtain ⟨ι3, x3, s3, _⟩ := trim_ok st' x2 (back n2.st hh) (ds := []) (vs := []) RepL.nil
          exact p .non H2 F2 ι3 x3 s3 (by simp only [Rep])
        · exact p.elim
      | rt d M' =>
        rw [eb] at p
        dsimp only at p
        split at p
        · rename_i hh
          intro v H2 F2 ι2 x2 s2 r2
          obtain ⟨ι3, x3, s3, r3⟩ := trim_ok st' x2 (back s2 hh.2) (backL (RepL.one r2) (by simp only [noLamL, hh.1]; rfl))
          simp only [RepL] at r3
          obtain ⟨y, _, e', r3, _⟩ := r3
          cases e'
          exact p v H2 F2 ι3 x3 s3 r3
        · exact p.elim
      | exc c fs σ' M' =>
        rw [eb] at p
        dsimp only at p
        split at p
        · rename_i hh
          intro cls od2 σ2 H2 F2 ι2 x2 n2 rx
          obtain ⟨ec, rx⟩ := rx
          rcases rx with ⟨h1, h0⟩ | ⟨dd, xs, e1, e2, e3, r2⟩
          · subst h1
            obtain ⟨ι3, x3, s3, _⟩ := trim_ok st' x2 (back n2.st hh.2) (ds := []) (vs := []) RepL.nil
            exact p cls od2 H2 F2 ι3 x3 s3 ⟨ec, .inl ⟨rfl, h0⟩⟩
          · obtain ⟨ι3, x3, s3, r3⟩ := trim_ok st' x2 (back n2.st hh.2) (backL r2 hh.1)
            exact p cls od2 H2 F2 ι3 x3 s3 ⟨ec, .inr ⟨dd, xs, e1, e2, e3, r3⟩⟩
        · exact p.elim
      | bk σ' M' => rw [eb] at p; exact p.elim
      | ct σ' M' => rw [eb] at p; exact p.elim
      | stuck => rw [eb] at p; exact p.elim
theorem fn_runL {P : Program} {w : World} {K : PySem.W.Frag} {mg : Str → Option Value} {base : Heap} {Γ : Gam} {x qual : Str} {st : Stmt} {f : Addr} {fd : FuncData} {N ps : List Str} {k : Nat} (hce : Γ.cells = none) (F : Fun K x qual st f fd) (S : FnScope N ps (defScope st)) {b : DSt}
    (hb : ∀ (cdv : Value) (A : Around) (outer : List Env) (s : Shared) (H : Hp) (E : XK), (∃ oc od kV doc pm an ct osl, fd = PySem.W.fnOf x qual (defArgs st) (defBody st) (defScope st) .none kV doc pm an cdv ct ∧ K.lookup f = some ⟨oc, od, .func fd, osl⟩) → Room k (A.deeper (envOfC qual (defScope st) s.heap.objs.size f cdv)) →
      DSs (cxOf (L2N.CX P w) P w K mg base N qual (defScope st) f cdv A outer s H E) (Γ.at (envOfC qual (defScope st) s.heap.objs.size f cdv).cells) (fun cls d _ H' => E cls d H') (defBody st) b) :
    FnOk P w K mg base (L2N.CX P w) (k + 1) f fd ps (spR Γ ps.length (runDefL ps.length N.length b)) := fnOk_of spR_size fun A hr => fn_runLA hce F S hr fun cdv outer s H E => hb cdv A outer s H E
end MT

set_option maxRecDepth 100000
/-! MtGen: the rules in short, as the printer of the derivations uses them. -/
namespace MT
open PySem PySem.Spec PyProof.Rows L2
section
variable {X : Cx} {Γ : Gam} {W : WX} {pos : Pos}
theorem q_v (i : Nat) {x : Str} (hN : X.N[i]? = some x := by rfl) (hv : Vis X.env.scope x := by first | exact Or.inl rfl | exact Or.inr (Or.inl rfl) | exact Or.inr (Or.inr rfl)) (hd : (x == ("__debug__" : Str)) = false := by decide) (hcd : (x == ("__classdict__" : Str)) = false := by decide) :
    DE X Γ W (.Name x pos) (mVar i) := de_var hN hv hd hcd
theorem q_s (l : List Nat) {x : Str} {j : Nat} (e : x = txt l := by decide) : DE X Γ W (.Constant (.str x) j pos) (mC (.str l)) := de_str e
/-- a name of the top that holds d -/
structure Cst (K : PySem.W.Frag) (P : Program) (mg : Str → Option Value) (Γ : Gam) (x : Str) (d : D) : Prop where
  ex : ∃ v u, mg x = some u ∧ RelV v u ∧ ∀ F ι, Rep Γ F ι d v
theorem q_c {x : Str} {d : D} {K : PySem.W.Frag} {P : Program} (h : Cst K P X.mg Γ x d) (hg : Gl X x := by rfl) (hd : (x == ("__debug__" : Str)) = false := by decide) : DE X Γ W (.Name x pos) (mC d) := by
  obtain ⟨v, u, h1, h2, h3⟩ := h.ex
  exact de_glob hg h1 h2 h3 hd
section
variable {a b c e : Expr} {es : List Expr} {ma mb mc m : DM} {r : DA} {p : Pos}
theorem q_n : DAs X Γ W [] aNil := da_nil
theorem q_a (h : DE X Γ W e m) (hr : DAs X Γ W es r) (hs : starEach (e :: es) X.env = (false, eval e X.env) :: starEach es X.env := by rfl) : DAs X Γ W (e :: es) (aCons m r) := da_cons h hr hs
theorem q_len (g : Ok X Γ) (hm : X.mg "len" = none) (ha : DE X Γ W e m) (hg : Gl X "len" := by rfl) (he : starEach [e] X.env = [(false, eval e X.env)] := by rfl) : DE X Γ W (.Call (.Name "len" p) [e] [] pos) (mB gLen (aCons m aNil)) :=
  de_B (cal_len g) hg hm PySem.boot_len (da_cons ha da_nil he) (by decide) (by decide) he rfl
theorem q_all (g : Ok X Γ) (hm : X.mg "all" = none) (ha : DE X Γ W e m) (hg : Gl X "all" := by rfl) (he : starEach [e] X.env = [(false, eval e X.env)] := by rfl) (hc : X.calm = true := by rfl) : DE X Γ W (.Call (.Name "all" p) [e] [] pos) (mB gAll (aCons m aNil)) :=
  de_B (cal_all g hc) hg hm (by decide +kernel) (da_cons ha da_nil he) (by decide) (by decide) he rfl
theorem q_any (g : Ok X Γ) (hm : X.mg "any" = none) (ha : DE X Γ W e m) (hg : Gl X "any" := by rfl) (he : starEach [e] X.env = [(false, eval e X.env)] := by rfl) (hc : X.calm = true := by rfl) : DE X Γ W (.Call (.Name "any" p) [e] [] pos) (mB gAny (aCons m aNil)) :=
  de_B (cal_any g hc) hg hm (by decide +kernel) (da_cons ha da_nil he) (by decide) (by decide) he rfl
theorem q_int (g : Ok X Γ) (hm : X.mg "int" = none) (ha : DE X Γ W e m) (hg : Gl X "int" := by rfl) (he : starEach [e] X.env = [(false, eval e X.env)] := by rfl) : DE X Γ W (.Call (.Name "int" p) [e] [] pos) (mB gInt (aCons m aNil)) :=
  de_T cal_int hg hm (by decide +kernel) (da_cons ha da_nil he) (by decide) (by decide) he rfl
theorem q_str (g : Ok X Γ) (hm : X.mg "str" = none) (ha : DE X Γ W e m) (hg : Gl X "str" := by rfl) (he : starEach [e] X.env = [(false, eval e X.env)] := by rfl) : DE X Γ W (.Call (.Name "str" p) [e] [] pos) (mB gStr (aCons m aNil)) :=
  de_T cal_str hg hm (by decide +kernel) (da_cons ha da_nil he) (by decide) (by decide) he rfl
theorem q_tuple (g : Ok X Γ) (hm : X.mg "tuple" = none) (ha : DE X Γ W e m) (hg : Gl X "tuple" := by rfl) (he : starEach [e] X.env = [(false, eval e X.env)] := by rfl) : DE X Γ W (.Call (.Name "tuple" p) [e] [] pos) (mB gTuple (aCons m aNil)) :=
  de_T (cal_tuple g) hg hm (by decide +kernel) (da_cons ha da_nil he) (by decide) (by decide) he rfl
theorem q_list (g : Ok X Γ) (hm : X.mg "list" = none) (ha : DE X Γ W e m) (hg : Gl X "list" := by rfl) (he : starEach [e] X.env = [(false, eval e X.env)] := by rfl) : DE X Γ W (.Call (.Name "list" p) [e] [] pos) (mB gList (aCons m aNil)) :=
  de_T (cal_list g) hg hm (by decide +kernel) (da_cons ha da_nil he) (by decide) (by decide) he rfl
theorem boot_isi : bootBuiltins "isinstance" = some (.builtin "isinstance") := by decide +kernel
theorem boot_ty : ∀ T : Ty, bootBuiltins (Str.ofString T.name) = some (.type T.name) := by intro T; cases T <;> decide +kernel
/-- isinstance(e, T) -/
theorem q_isi (g : Ok X Γ) (T : Ty) {t : Str} {p2 : Pos} (hm : X.mg "isinstance" = none) (hmt : X.mg t = none) (ha : DE X Γ W e m) (ht : t = Str.ofString T.name := by rfl) (hg : Gl X "isinstance" := by rfl) (hgt : Gl X t := by rfl) (hnt : t ≠ "__name__" := by decide) (hdt : (t == ("__debug__" : Str)) = false := by decide)
    (he : starEach [e, .Name t p2] X.env = (false, eval e X.env) :: starEach [.Name t p2] X.env := by rfl) : DE X Γ W (.Call (.Name "isinstance" p) [e, .Name t p2] [] pos) (mIsi T m) :=
  de_isi g T hg hm boot_isi (by decide) (by decide) ha hgt hmt (ht ▸ boot_ty T) hnt hdt he rfl rfl
variable {g1 g2 : Mem → D → D → Option D}
theorem q_cmp {op : CmpOp} (ho : OpD X Γ (compareOp op) g1) (ha : DE X Γ W a ma) (hb : DE X Γ W b mb) (hm : behindInMarks op b = false := by with_unfolding_all rfl) : DE X Γ W (.Compare a [op] [b] pos) (mOp g1 ma mb) := de_cmp ho ha hb hm
theorem t_cmp {op : CmpOp} (ho : OpD X Γ (compareOp op) g1) (ha : DE X Γ W a ma) (hb : DE X Γ W b mb) (hm : behindInMarks op b = false := by with_unfolding_all rfl) : DTe X Γ W (.Compare a [op] [b] pos) (fun σ M => tB1 (mOp g1 ma mb σ M)) := dt_cmp ho ha hb hm
theorem q_chn {op op' : CmpOp} (ho : OpD X Γ (compareOp op) g1) (ho' : OpD X Γ (compareOp op') g2) (ha : DE X Γ W a ma) (hb : DE X Γ W b mb) (hc : DE X Γ W c mc) (hm : lastMarks [op, op'] [b, c] = false := by with_unfolding_all rfl) :
    DE X Γ W (.Compare a [op, op'] [b, c] pos) (mChain g1 g2 ma mb mc) := de_chain ho ho' ha hb hc hm
theorem t_chn {op op' : CmpOp} (ho : OpD X Γ (compareOp op) g1) (ho' : OpD X Γ (compareOp op') g2) (ha : DE X Γ W a ma) (hb : DE X Γ W b mb) (hc : DE X Γ W c mc) (hm : lastMarks [op, op'] [b, c] = false := by with_unfolding_all rfl) :
    DTe X Γ W (.Compare a [op, op'] [b, c] pos) (fun σ M => tB1 (mChain g1 g2 ma mb mc σ M)) := dt_chain ho ho' ha hb hc hm
theorem t_val (h : DE X Γ W e m) (he : ∀ whole, isTrue e X.env whole = (do let v ← whole; standAt e.pos; holding [v] (truthy v)) := by exact fun _ => rfl) : DTe X Γ W e (fun σ M => tB1 (m σ M)) := dt_val h he
theorem q_ix (g : Ok X Γ) (ha : DE X Γ W a ma) (hb : DE X Γ W b mb) (hs : PlainIx b := by exact fun _ _ => rfl) : DE X Γ W (.Subscript a b pos) (mOp gIx ma mb) := de_ix g ha hb hs
/-- -e -/
def mNeg (m : DM) : DM := fun σ M => (m σ M).bind fun d M1 => match d with
  | .int i => .ok (.int (-i)) M1
  | _ => .stuck
theorem q_neg (h : DE X Γ W a m) : DE X Γ W (.UnaryOp .USub a pos) (mNeg m) :=
  PE.imp (pe_un un_neg h) fun σ H Q ⟨F, P, ι, M, σd, n, p⟩ => ⟨F, P, ι, M, σd, n, Post.seq p fun d M1 v H1 F1 ι1 _ x1 s1 r1 p1 => by
    cases d with
    | int i =>
      simp only [Rep] at r1
      exact ⟨i, r1, p1.here s1 (by simp only [Rep])⟩
    | _ => exact p1.elim⟩
abbrev tV (m : DM) : DT := fun σ M => tB1 (m σ M)
/-! methods -/
section
variable {o : Expr} {mo : DM} {apos cpos : Pos} {name : Str}
theorem q_m1 {T id : String} {gm : Mem → D → List D → Option (D × Mem)} (g : Ok X Γ) (pa : PlainAttrs T) (slot : Slot T name id) (hty : typeOf (.builtin id) = pure (.type "method_descriptor")) (hm : MtD X Γ id gm) (ho : DE X Γ W o mo) (ha : DE X Γ W e m)
    (hbase : attributeBase o name X.env (eval o X.env) = eval o X.env := by rfl)
    (hfew : ((backTo cpos (starEach [e] X.env)).all (fun x => !x.1) && (backToKw cpos (keywordEach [] X.env)).all (fun x => x.1.isSome)
      && decide (([e] : List Expr).length + ([] : List Keyword).length + (if ([] : List Keyword).isEmpty then 0 else 1) < 30)) = true := by rfl)
    (hline : (apos.endLine == cpos.line) = true := by rfl) (hs : starEach [e] X.env = (false, eval e X.env) :: starEach [] X.env := by rfl) :
    DE X Γ W (.Call (.Attribute o name apos) [e] [] cpos) (mMt T gm mo (aCons m aNil)) := de_mt g pa slot hty hm ho (da_cons ha da_nil hs) hbase hfew hline hs rfl
theorem q_m0 {T id : String} {gm : Mem → D → List D → Option (D × Mem)} (g : Ok X Γ) (pa : PlainAttrs T) (slot : Slot T name id) (hty : typeOf (.builtin id) = pure (.type "method_descriptor")) (hm : MtD X Γ id gm) (ho : DE X Γ W o mo)
    (hbase : attributeBase o name X.env (eval o X.env) = eval o X.env := by rfl) (hline : (apos.endLine == cpos.line) = true := by rfl) : DE X Γ W (.Call (.Attribute o name apos) [] [] cpos) (mMt T gm mo aNil) := de_mt0 g pa slot hty hm ho hbase hline
theorem q_append (g : Ok X Γ) (ho : DE X Γ W o mo) (ha : DE X Γ W e m) (hbase : attributeBase o "append" X.env (eval o X.env) = eval o X.env := by rfl)
    (hfew : ((backTo cpos (starEach [e] X.env)).all (fun x => !x.1) && (backToKw cpos (keywordEach [] X.env)).all (fun x => x.1.isSome)
      && decide (([e] : List Expr).length + ([] : List Keyword).length + (if ([] : List Keyword).isEmpty then 0 else 1) < 30)) = true := by rfl)
    (hline : (apos.endLine == cpos.line) = true := by rfl) (hs : starEach [e] X.env = (false, eval e X.env) :: starEach [] X.env := by rfl) :
    DE X Γ W (.Call (.Attribute o "append" apos) [e] [] cpos) (mMt "list" kAppend mo (aCons m aNil)) := q_m1 g PySem.F.plainAttrs_list PySem.F.slot_list_append PySem.F.type_list_append mtd_append ho ha hbase hfew hline hs
theorem q_join (g : Ok X Γ) (ho : DE X Γ W o mo) (ha : DE X Γ W e m) (hbase : attributeBase o "join" X.env (eval o X.env) = eval o X.env := by rfl)
    (hfew : ((backTo cpos (starEach [e] X.env)).all (fun x => !x.1) && (backToKw cpos (keywordEach [] X.env)).all (fun x => x.1.isSome)
      && decide (([e] : List Expr).length + ([] : List Keyword).length + (if ([] : List Keyword).isEmpty then 0 else 1) < 30)) = true := by rfl)
    (hline : (apos.endLine == cpos.line) = true := by rfl) (hs : starEach [e] X.env = (false, eval e X.env) :: starEach [] X.env := by rfl) :
    DE X Γ W (.Call (.Attribute o "join" apos) [e] [] cpos) (mMt "str" kJoin mo (aCons m aNil)) := q_m1 g PySem.F.plainAttrs_str PySem.F.slot_str_join PySem.F.type_str_join (mtd_join g) ho ha hbase hfew hline hs
theorem q_split (g : Ok X Γ) (ho : DE X Γ W o mo) (ha : DE X Γ W e m) (hbase : attributeBase o "split" X.env (eval o X.env) = eval o X.env := by rfl)
    (hfew : ((backTo cpos (starEach [e] X.env)).all (fun x => !x.1) && (backToKw cpos (keywordEach [] X.env)).all (fun x => x.1.isSome)
      && decide (([e] : List Expr).length + ([] : List Keyword).length + (if ([] : List Keyword).isEmpty then 0 else 1) < 30)) = true := by rfl)
    (hline : (apos.endLine == cpos.line) = true := by rfl) (hs : starEach [e] X.env = (false, eval e X.env) :: starEach [] X.env := by rfl) :
    DE X Γ W (.Call (.Attribute o "split" apos) [e] [] cpos) (mMt "str" kSplit mo (aCons m aNil)) := q_m1 g PySem.F.plainAttrs_str PySem.F.slot_str_split PySem.F.type_str_split mtd_split ho ha hbase hfew hline hs
theorem q_index (g : Ok X Γ) (ho : DE X Γ W o mo) (ha : DE X Γ W e m) (hbase : attributeBase o "index" X.env (eval o X.env) = eval o X.env := by rfl)
    (hfew : ((backTo cpos (starEach [e] X.env)).all (fun x => !x.1) && (backToKw cpos (keywordEach [] X.env)).all (fun x => x.1.isSome)
      && decide (([e] : List Expr).length + ([] : List Keyword).length + (if ([] : List Keyword).isEmpty then 0 else 1) < 30)) = true := by rfl)
    (hline : (apos.endLine == cpos.line) = true := by rfl) (hs : starEach [e] X.env = (false, eval e X.env) :: starEach [] X.env := by rfl) :
    DE X Γ W (.Call (.Attribute o "index" apos) [e] [] cpos) (mMt "list" kIndex mo (aCons m aNil)) := q_m1 g PySem.F.plainAttrs_list PySem.F.slot_list_index PySem.F.type_list_index (mtd_index g) ho ha hbase hfew hline hs
theorem q_count (g : Ok X Γ) (ho : DE X Γ W o mo) (ha : DE X Γ W e m) (hbase : attributeBase o "count" X.env (eval o X.env) = eval o X.env := by rfl)
    (hfew : ((backTo cpos (starEach [e] X.env)).all (fun x => !x.1) && (backToKw cpos (keywordEach [] X.env)).all (fun x => x.1.isSome)
      && decide (([e] : List Expr).length + ([] : List Keyword).length + (if ([] : List Keyword).isEmpty then 0 else 1) < 30)) = true := by rfl)
    (hline : (apos.endLine == cpos.line) = true := by rfl) (hs : starEach [e] X.env = (false, eval e X.env) :: starEach [] X.env := by rfl) :
    DE X Γ W (.Call (.Attribute o "count" apos) [e] [] cpos) (mMt "list" kCount mo (aCons m aNil)) := q_m1 g PySem.F.plainAttrs_list PySem.F.slot_list_count PySem.F.type_list_count (mtd_count g) ho ha hbase hfew hline hs
theorem q_get {f : Expr} {md mk mv : DM} (g : Ok X Γ) (ho : DE X Γ W o md) (he : DE X Γ W e mk) (hf : DE X Γ W f mv) (m : M2 X o "get" apos e f cpos := by exact ⟨rfl, rfl, rfl, rfl⟩) : DE X Γ W (.Call (.Attribute o "get" apos) [e, f] [] cpos) (mGet2 md mk mv) := de_get2 g ho he hf m
end
theorem de_flt {b : UInt64} {j : Nat} : DE X Γ W (.Constant (.float b) j pos) (mC (.flt b)) :=
  PE.imp pe_flt fun σ H Q ⟨F, P, ι, M, σd, n, p⟩ => p.here n.st (by simp only [Rep])
theorem g_sub {o i : Expr} {mo mi : DM} (ho : DE X Γ WF o mo) (hi : DE X Γ WF i mi)
    (ha : ∀ v, assign (.Subscript o i pos) X.env v = (do
      let ov ← holding [v] (eval o X.env)
      let iv ← holding [v, ov] (eval i X.env)
      standAt pos
      holding [v, ov, iv] (setItem ov iv v)
      release [v, ov, iv] []) := by exact fun _ => rfl) : DG X Γ [] (.Subscript o i pos) (gtSub mo mi) := dg_sub ho hi ha
/-! displays, slices -/
theorem q_disp {ks : List (Option Expr)} {vs : List Expr} {r : DPr} (h : DPs X Γ pos ks vs r) (hall : ks.all (·.isSome) = true := by rfl) (hl : ks.length = vs.length := by rfl) (h0 : ks ≠ [] := by exact List.cons_ne_nil _ _) (h15 : ks.length ≤ 15 := by decide) : DE X Γ W (.Dict ks vs pos) (mDisp r) := de_disp h hall hl h0 h15
/-! calls of defs -/
/-- the def x keeps the promise r at level k -/
def Cl (P : Program) (w : World) (K : PySem.W.Frag) (mg : Str → Option Value) (base : Heap) (Γ : Gam) (k : Nat) (x : Str) (np : Nat) (r : List D → Mem → Res D) : Prop :=
  ∃ f fd ps, FnOk P w K mg base (L2N.CX P w) k f fd ps (spR Γ np r) ∧ mg x = some (.ref f) ∧ PySem.W.keepIn K (.ref f) = true ∧ Binds K fd ps []
/-- the def x as it is written at the top -/
def Df (K : PySem.W.Frag) (mg : Str → Option Value) (x : Str) (st : Stmt) (ps : List Str) : Prop := ∃ f fd, Fun K x x st f fd ∧ mg x = some (.ref f) ∧ Binds K fd ps []
theorem Df.cl {P : Program} {w : World} {K : PySem.W.Frag} {mg : Str → Option Value} {base : Heap} {k : Nat} {x : Str} {st : Stmt} {ps : List Str} {np : Nat} {r : List D → Mem → Res D} (d : Df K mg x st ps)
    (h : ∀ f fd, Fun K x x st f fd → FnOk P w K mg base (L2N.CX P w) k f fd ps (spR Γ np r)) : Cl P w K mg base Γ k x np r := by
  obtain ⟨f, fd, F, hm, hb⟩ := d
  exact ⟨f, fd, ps, h f fd F, hm, F.kp, hb⟩
theorem q_call {k k' : Nat} {x : Str} {np : Nat} {rr : List D → Mem → Res D} (c : Cl X.prog X.w X.K X.mg X.base Γ k x np rr) (hr : Room k' X.A) (hk : k ≤ k') (tk : L2N.Takes X W) (ha : DAs X Γ W (e :: es) r) (hg : Gl X x := by rfl) (hdb : (x == ("__debug__" : Str)) = false := by decide)
    (he : starEach (e :: es) X.env = (false, eval e X.env) :: starEach es X.env := by rfl) (hpl : (backTo pos (starEach es X.env)).any (·.1) = false := by rfl) : DE X Γ W (.Call (.Name x p) (e :: es) [] pos) (mCall np rr r) := by
  obtain ⟨f, fd, ps, h1, h2, h3, h4⟩ := c
  exact de_call ⟨f, fd, ps, fnA_of h1 (hr.mono hk), h2, h3, h4⟩ tk hg ha hdb he hpl
theorem takes_WF : L2N.Takes X WF := fun _ _ ⟨_, _, _, _, _, _, _, _, _, _, _, _, _, _, _, _, w⟩ => w.elim
/-! statements -/
theorem s_expr (he : DE X Γ W e m) (hs : swapsWith e none pos.line X.env = pure false := by rfl) : DS X Γ W (.Expr e pos) (sExpr m) := ds_expr he hs
theorem s_set (i : Nat) {x : Str} {pos' : Pos} (hN : X.N.Nodup) (he : DE X Γ W e m) (hi : X.N[i]? = some x := by rfl) (hx : Loc X.env.scope x := by first | exact Or.inl rfl | exact Or.inr rfl) (hs : swapsWith e (some (.Name x pos')) pos.line X.env = pure false := by rfl) (hf : X.fn x = true ∨ X.env.scope.names.lookup x = some .local := by exact Or.inl rfl) :
    DS X Γ W (.Assign [.Name x pos'] e pos) (sSet i m) := ds_set hN hi hx he hs hf
theorem g_name (i : Nat) {x : Str} (hN : X.N.Nodup) (hi : X.N[i]? = some x := by rfl) (hx : Loc X.env.scope x := by first | exact Or.inl rfl | exact Or.inr rfl) (hf : X.fn x = true ∨ X.env.scope.names.lookup x = some .local := by first | exact Or.inl rfl | exact Or.inr rfl) : DG X Γ [i] (.Name x pos) (gtName i) := dg_name hN hi hx hf
theorem g_cons {tg : Expr} {tgs : List Expr} {ts us : List Nat} {g : DGt} {gs : DGs} (h1 : DG X Γ ts tg g) (h2 : DGsP X Γ us tgs gs) (hs : (assignEach (tg :: tgs) X.env).map (·.2) = assign tg X.env :: (assignEach tgs X.env).map (·.2) := by rfl) : DGsP X Γ (ts ++ us) (tg :: tgs) (gtCons g gs) := dgs_cons h1 h2 hs
theorem g_tup (g : Ok X Γ) {es : List Expr} {ts : List Nat} (k : Nat) {j : Nat} {gs : DGs} (h : DGsP X Γ ts es gs) (hn : (assignEach es X.env).length = k := by rfl) (hst : (assignEach es X.env).findIdx? (·.1) = none := by rfl) (hc : X.calm = true := by rfl) : DG X Γ ts (.Tuple es j pos) (gtTup k gs) := dg_tup g hc h hn hst
theorem s_asg {tg : Expr} {ts : List Nat} {gt : DGt} (he : DE X Γ W e m) (hg : DG X Γ ts tg gt) (hs : swapsWithSole [tg] e pos.line X.env = pure false := by rfl) (hw : swappedStores [tg] e X.env = pure none := by rfl) (h1 : (assignEach [tg] X.env).map (·.2) = [assign tg X.env] := by rfl) :
    DS X Γ W (.Assign [tg] e pos) (sAsg m gt) := ds_asg he hg hs hw h1
theorem s_par (g : Ok X Γ) (i j : Nat) {x y : Str} {px py pt : Pos} {kt k2 : Nat} {pt2 : Pos} (hN : X.N.Nodup) (ha : DAs X Γ W [a, b] r) (hi : X.N[i]? = some x := by rfl) (hj : X.N[j]? = some y := by rfl) (hij : i ≠ j := by decide)
    (hx : X.env.scope.names.lookup x = some .local := by rfl) (hy : X.env.scope.names.lookup y = some .local := by rfl)
    (hw : swappedStores [.Tuple [.Name x px, .Name y py] kt pt] (.Tuple [a, b] k2 pt2) X.env = pure (some [x, y]) := by rfl)
    (hs : swapsWithSole [.Tuple [.Name x px, .Name y py] kt pt] (.Tuple [a, b] k2 pt2) pos.line X.env = pure false := by rfl) (hc : X.calm = true := by rfl) :
    DS X Γ W (.Assign [.Tuple [.Name x px, .Name y py] kt pt] (.Tuple [a, b] k2 pt2) pos) (sPar i j r) := ds_par g hc hN hi hj hij hx hy ha hw hs
theorem s_for (g : Ok X Γ) {tg iter : Expr} {ts : List Nat} {body : List Stmt} {mi : DIt} {gt : DGt} {bs : DSt} (hp : PassesOwn (model X.prog X.w) X.A X.env X.xe) (hi : DI X Γ W tg iter mi) (hg : DG X Γ ts tg gt) (hb : DSs X Γ W body bs)
    (hs : ∀ x, foldedSetIterable iter X.env x = pure x := by exact fun _ => rfl) (hc : X.calm = true := by rfl) : DS X Γ W (.For tg iter body [] pos) (sFor mi gt bs) := ds_for g hc hp hi hg hb hs
section
variable {tg : Expr}
theorem i_range {p : Pos} (hm : X.mg "range" = none) (ha : DE X Γ W a m) (hg : Gl X "range" := by rfl) (hs : starEach [a] X.env = [(false, eval a X.env)] := by rfl) : DI X Γ W tg (.Call (.Name "range" p) [a] [] pos) (iRange1 (aCons m aNil)) := di_range1 hg hm (da_cons ha da_nil hs) hs
theorem i_range2 {p : Pos} (hm : X.mg "range" = none) (ha : DE X Γ W a ma) (hb : DE X Γ W b mb) (hg : Gl X "range" := by rfl) (hs : starEach [a, b] X.env = [(false, eval a X.env), (false, eval b X.env)] := by rfl) (hs2 : starEach [b] X.env = [(false, eval b X.env)] := by rfl) : DI X Γ W tg (.Call (.Name "range" p) [a, b] [] pos) (iRange2 (aCons ma (aCons mb aNil))) :=
  di_range2 hg hm (da_cons ha (da_cons hb da_nil hs2) (hs.trans (by rw [hs2]))) hs hs2
end
/-! comprehensions -/
section
variable {elt tg iter : Expr} {ifs : List Expr} {scope : Scope} {own : List (Str × Nat)} {ts : List Nat} {mi : DIt} {gt : DGt} {mt : DT} {me : DM}
def blkB (N : List Str) (sc scope : Scope) (own : List (Str × Nat)) : Bool := decide (scope.kind = .function) && scope.names.all (fun y => decide (scope.names.lookup y.1 = some y.2)) && own.all (fun p => decide (N[p.2]? = some p.1)) &&
  scope.names.all (fun y => !decide (y.2 = .free) || decide (sc.names.lookup y.1 = some .cell ∨ sc.names.lookup y.1 = some .free)) && scope.names.all (fun y => !decide (y.2 = .local ∨ y.2 = .cell) || decide (y.1 ∈ own.map (·.1)) || decide (y.1 ∉ N))
theorem blk_by {N : List Str} {sc scope : Scope} {own : List (Str × Nat)} (h : blkB N sc scope own = true) : BlkOk N sc scope own := by
  simp only [blkB, Bool.and_eq_true, List.all_eq_true, decide_eq_true_eq, Bool.or_eq_true, Bool.not_eq_true', decide_eq_false_iff_not] at h
  obtain ⟨⟨⟨⟨h1, h2⟩, h3⟩, h4⟩, h5⟩ := h
  refine ⟨h1, h2, h3, fun y hy e => ?_, fun y hy e => ?_⟩
  · rcases h4 y hy with z | z
    · exact absurd e z
    · exact z
  · rcases h5 y hy with (z | z) | z
    · exact absurd e z
    · exact .inl z
    · exact .inr z
theorem okb (g : Ok X Γ) (s : Shared) (H : Hp) {scope : Scope} (C : Addr) (cl : List (Str × Addr)) (fp : List Addr) (xe : Value → Shared → Prop) : Ok (blkT X s H scope C cl fp xe) Γ := ⟨g.k, g.p, g.w, g.u⟩
theorem q_lc (g : Ok X Γ) (tk : L2N.Takes X W) (hN : X.N.Nodup) (own : List (Str × Nat)) (hts : ∀ i ∈ ts, i ∈ own.map (·.2)) (hi : DI X Γ W tg iter mi) (ok : BlkOk X.N X.env.scope scope own)
    (hg : ∀ (s : Shared) (H : Hp) (C : Addr) (cl : List (Str × Addr)) (fp : List Addr) (xe : Value → Shared → Prop), Ok (blkT X s H scope C cl fp xe) Γ → DG (blkT X s H scope C cl fp xe) Γ ts tg gt) (ht : ∀ (s : Shared) (H : Hp) (C : Addr) (cl : List (Str × Addr)) (fp : List Addr) (xe : Value → Shared → Prop), Ok (blkT X s H scope C cl fp xe) Γ → DTs (blkT X s H scope C cl fp xe) Γ WF ifs mt)
    (he : ∀ (s : Shared) (H : Hp) (C : Addr) (cl : List (Str × Addr)) (fp : List Addr) (xe : Value → Shared → Prop) (W' : WX), Ok (blkT X s H scope C cl fp xe) Γ → L2N.Takes (blkT X s H scope C cl fp xe) W' → DE (blkT X s H scope C cl fp xe) Γ W' elt me) (hs : ∀ x, foldedSetIterable iter X.env x = pure x := by exact fun _ => rfl)
    (hs0 : X.stack = X.env :: X.outer := by rfl) (hf0 : X.env.frame = some X.env.locals := by rfl) (hc : X.calm = true := by rfl) :
    DE X Γ W (.ListComp elt [⟨tg, iter, ifs, 0⟩] scope pos) (mCompX mi gt mt me (own.map (·.2))) := de_lcx g hc tk hs0 hf0 hN hi ok hts (fun s H C cl fp xe => hg s H C cl fp xe (okb g s H C cl fp xe)) (fun s H C cl fp xe => ht s H C cl fp xe (okb g s H C cl fp xe)) (fun s H C cl fp xe W' => he s H C cl fp xe W' (okb g s H C cl fp xe)) hs
theorem s_setLc (g : Ok X Γ) (tk : L2N.Takes X W) (hN : X.N.Nodup) (i : Nat) {y : Str} {py spos : Pos} (own : List (Str × Nat)) (hts : ∀ i ∈ ts, i ∈ own.map (·.2)) (hi : DI X Γ W tg iter mi) (ok : BlkOk X.N X.env.scope scope own)
    (hg : ∀ (s : Shared) (H : Hp) (C : Addr) (cl : List (Str × Addr)) (fp : List Addr) (xe : Value → Shared → Prop), Ok (blkT X s H scope C cl fp xe) Γ → DG (blkT X s H scope C cl fp xe) Γ ts tg gt) (ht : ∀ (s : Shared) (H : Hp) (C : Addr) (cl : List (Str × Addr)) (fp : List Addr) (xe : Value → Shared → Prop), Ok (blkT X s H scope C cl fp xe) Γ → DTs (blkT X s H scope C cl fp xe) Γ WF ifs mt)
    (he : ∀ (s : Shared) (H : Hp) (C : Addr) (cl : List (Str × Addr)) (fp : List Addr) (xe : Value → Shared → Prop) (W' : WX), Ok (blkT X s H scope C cl fp xe) Γ → L2N.Takes (blkT X s H scope C cl fp xe) W' → DE (blkT X s H scope C cl fp xe) Γ W' elt me) (hs : ∀ x, foldedSetIterable iter X.env x = pure x := by exact fun _ => rfl)
    (hy : X.N[i]? = some y := by rfl) (hyl : X.env.scope.names.lookup y = some .local := by rfl)
    (hsw : swapsWith (.ListComp elt [⟨tg, iter, ifs, 0⟩] scope pos) (some (.Name y py)) spos.line X.env = pure true := by rfl)
    (hs0 : X.stack = X.env :: X.outer := by rfl) (hf0 : X.env.frame = some X.env.locals := by rfl) (hc : X.calm = true := by rfl) :
    DS X Γ W (.Assign [.Name y py] (.ListComp elt [⟨tg, iter, ifs, 0⟩] scope pos) spos) (sSet i (mCompX mi gt mt me (own.map (·.2)))) := ds_setLcx g hc tk hs0 hf0 hN hy hyl hsw hi ok hts (fun s H C cl fp xe => hg s H C cl fp xe (okb g s H C cl fp xe)) (fun s H C cl fp xe => ht s H C cl fp xe (okb g s H C cl fp xe)) (fun s H C cl fp xe W' => he s H C cl fp xe W' (okb g s H C cl fp xe)) hs
end
/-! raise -/
/-- the exception class number c stands at x -/
def ExcL (P : Program) (w : World) (K : PySem.W.Frag) (mg : Str → Option Value) (base : Heap) (Γ : Gam) (k : Nat) (x : Str) (c n : Nat) : Prop :=
  ∃ fI fd ps D ns, ns.length = n ∧ Γ.fld c = ns.reverse ∧ SupO K (Γ.cls c) D ∧ (∀ y ∈ ns, PySem.W.findIn K (.ref (Γ.cls c)) y = some none) ∧ PySem.W.findIn K (.ref (Γ.cls c)) "__init__" = some (some (.ref fI)) ∧ PySem.W.typeIn K (.ref fI) = some (.type "function") ∧
    FnOk P w K mg base (L2N.CX P w) k fI fd ps (spI K D ns) ∧ Binds K fd ps [] ∧ mg x = some (.ref (Γ.cls c))
theorem s_raise {k k' : Nat} {x : Str} {c n : Nat} {p2 : Pos} (g : Ok X Γ) (tk : L2N.Takes X W) (ex : ExcL X.prog X.w X.K X.mg X.base Γ k x c n) (hr : Room k' X.A) (hk : k + 1 ≤ k') (ha : DAs X Γ W (e :: es) r) (hg : Gl X x := by rfl) (hdb : (x == ("__debug__" : Str)) = false := by decide)
    (he : starEach (e :: es) X.env = (false, eval e X.env) :: starEach es X.env := by rfl) (hpl : (backTo p2 (starEach es X.env)).any (·.1) = false := by rfl) (hc : X.calm = true := by rfl) : DS X Γ W (.Raise (some (.Call (.Name x p) (e :: es) [] p2)) none pos) (sRaise c n r) := by
  obtain ⟨fI, fd, ps, D, ns, h1, h2, h3, h4, h5, h6, h7, h8, h9⟩ := ex
  exact ds_raise g hc tk ⟨fI, k, fd, ps, D, ns, h1, h2, h3, h4, h5, h6, h7, hr.mono hk, h8, h9⟩ hg ha hdb he hpl
end
end
end MT

set_option maxRecDepth 100000
/-! MtMore: isinstance with two types, a text times a number. -/
namespace MT
open PySem PySem.Spec PyProof.Rows L2
section
variable {X : Cx} {Γ : Gam} {W : WX} {pos : Pos}
def mIs2 (T U : Ty) (m : DM) : DM := fun σ M => (m σ M).bind fun d M1 => ofOpt ((tyOf M1 d).map fun n => .bl (isTy T n || isTy U n)) M1
theorem kit_two {K : PySem.W.Frag} {n : String} {T U : Ty} (h : n ∈ ["NoneType", "bool", "int", "str", "float", "tuple", "dict", "list"]) : PySem.W.kitAny K (.type n) [.type T.name, .type U.name] = some (isTy T n || isTy U n) := by
  have h1 : PySem.W.kitOne K (.type n) (.type T.name) = some (isTy T n) := kit_ty (kit_tab h T)
  have h2 : PySem.W.kitOne K (.type n) (.type U.name) = some (isTy U n) := kit_ty (kit_tab h U)
  unfold PySem.W.kitAny
  rw [h1]
  cases isTy T n with
  | true => rfl
  | false =>
    show PySem.W.kitAny K (.type n) [.type U.name] = some (isTy U n)
    unfold PySem.W.kitAny
    rw [h2]
    cases isTy U n <;> rfl
theorem q_is2 (g : Ok X Γ) (T U : Ty) {e : Expr} {m : DM} {t u : Str} {p p2 p3 p4 : Pos} {k : Nat} (hm : X.mg "isinstance" = none) (hmt : X.mg t = none) (hmu : X.mg u = none) (ha : DE X Γ W e m) (ht : t = Str.ofString T.name := by rfl) (hu : u = Str.ofString U.name := by rfl) (hg : Gl X "isinstance" := by rfl)
    (hgt : Gl X t := by rfl) (hgu : Gl X u := by rfl) (hnt : t ≠ "__name__" := by decide) (hdt : (t == ("__debug__" : Str)) = false := by decide) (hnu : u ≠ "__name__" := by decide) (hdu : (u == ("__debug__" : Str)) = false := by decide)
    (he : starEach [e, .Tuple [.Name t p2, .Name u p3] k p4] X.env = (false, eval e X.env) :: starEach [.Tuple [.Name t p2, .Name u p3] k p4] X.env := by rfl) : DE X Γ W (.Call (.Name "isinstance" p) [e, .Tuple [.Name t p2, .Name u p3] k p4] [] pos) (mIs2 T U m) :=
  PE.imp (pe_callB call_isiT hg hm boot_isi (pa_cons ha (pa_cons (pe_tup (pa_cons (pe_bltn (v := .ty T.name) hgt hmt (ht ▸ boot_ty T) rfl hnt hdt) (pa_cons (pe_bltn (v := .ty U.name) hgu hmu (hu ▸ boot_ty U) rfl hnu hdu) pa_nil))) pa_nil) he) (by decide) (by decide) he rfl) fun σ H Q ⟨F, P, ι, M, σd, n, p⟩ => ⟨F, P, ι, M, σd, n, Post.seq p fun d M1 v H1 F1 ι1 er x1 s1 r1 p1 => by
    unfold ofOpt at p1
    split at p1
    · rename_i r eg
      simp only [Option.map_eq_some_iff] at eg
      obtain ⟨k', e1, rfl⟩ := eg
      refine ⟨line1000 (n := 2) (by decide), fun a ha => ?_⟩
      have s2 := s1.laid ha (.tup [.ty T.name, .ty U.name]) (fun _ h => nomatch h)
      have x2 : Ext F1 ι1 (upd F1 a (.tup [.ty T.name, .ty U.name])) ι1 := ext_upd (s1.freshF ha)
      obtain ⟨ty, hk⟩ := ty_at g s2 (Rep.ext x2 _ _ r1) e1
      exact ⟨v, a, [.ty T.name, .ty U.name], .type k', [.type T.name, .type U.name], isTy T k' || isTy U k', rfl, upd_same, .cons (.ty _) (.cons (.ty _) .nil), ty, kit_two hk, p1 _ _ _ ι1 x2 s2 (by simp only [Rep])⟩
    · exact p1.elim⟩
/-! ### a text times a number -/
def gMulS (_ : Mem) : D → D → Option D
  | .str l, .int k => if 1 < k ∧ k ≤ 100000 ∧ l ≠ [] ∧ l.length * k.toNat ≤ 1000000 then some (.str (List.replicate k.toNat l).flatten) else none
  | _, _ => none
theorem fold_rep (a : Array Nat) : ∀ (n : Nat) (acc : Array Nat), (List.replicate n a).foldl (· ++ ·) acc = acc ++ ((List.replicate n a.toList).flatten).toArray
  | 0, acc => by simp
  | n + 1, acc => by
    rw [List.replicate_succ, List.foldl_cons, fold_rep a n, List.replicate_succ, List.flatten_cons, ← List.append_toArray, Array.append_assoc]
theorem opd_mulS : OpD X Γ (binaryOp .Mult) gMulS := by
  intro pins s σ H x y v u Q I rx ry ⟨F, P, ι, M, d, e, r, st, rd, re, eg, q⟩
  unfold gMulS at eg
  split at eg
  · rename_i l k
    split at eg
    · rename_i hc
      obtain ⟨h1, h2, h3, h4⟩ := hc
      simp only [Option.some.injEq] at eg
      subst eg
      simp only [Rep] at rd re
      subst rd re
      obtain ⟨t, rfl⟩ := rx
      obtain ⟨t', rfl⟩ := ry
      have hlen : (txt l).length = l.length := tx_len l
      have hpos : 0 < l.length := List.length_pos_iff.mpr h3
      have hn1 : ¬ k < 1 := by omega
      have hn2 : ¬ (k == 1 || (txt l).length == 0) = true := by
        rw [hlen]
        simp only [Bool.or_eq_true, beq_iff_eq, not_or]
        omega
      refine PySem.P.mul_str (by rw [decide_eq_false (by omega), decide_eq_false (by omega)]; rfl) (fun _ _ => ?_) (fun _ _ => ?_) ?_
      · rw [hlen]
        have h5 : (l.length : Int) * k ≤ 1000000 := by
          have z : ((l.length * k.toNat : Nat) : Int) ≤ 1000000 := by omega
          rw [Int.natCast_mul, Int.toNat_of_nonneg (by omega)] at z
          exact z
        have h6 : (l.length : Int) ≤ 1000000 := by
          have z : (l.length : Int) * 1 ≤ (l.length : Int) * k := Int.mul_le_mul_of_nonneg_left (by omega) (by omega)
          omega
        have h7 : (1000000 : Int) ≤ (2 ^ 63 - 1) / k := by
          rw [Int.le_ediv_iff_mul_le (by omega)]
          omega
        omega
      · rw [hlen]
        show decide (l.length * k.toNat > sizeLine) = false
        rw [decide_eq_false_iff_not, sizeLine_eq]
        omega
      · rw [if_neg hn1, if_neg hn2]
        have ez : (⟨(List.replicate k.toNat (txt l).cps).foldl (· ++ ·) #[]⟩ : Str) = txt (List.replicate k.toNat l).flatten := by
          rw [fold_rep]
          simp
        rw [ez]
        refine ⟨?_, .str (txt (List.replicate k.toNat l).flatten), H, I.tok _, ⟨_, rfl⟩, q _ _ F Ext.refl st (by simp only [Rep])⟩
        rw [tx_len, List.length_flatten]
        simp only [List.map_replicate, List.sum_replicate_nat, sizeLine_eq]
        rw [Nat.mul_comm] at h4
        omega
    · cases eg
  · cases eg
end
end MT

set_option maxRecDepth 100000
/-! MtGenL: lambdas, refusals, in short. -/
namespace MT
open PySem PySem.Spec PyProof.Rows L2 LamX
section
variable {X : Cx} {Γ : Gam} {W : WX} {pos : Pos}
/-! ### texts looked up by a way -/
def aBody : Stmt → Nat → Stmt
  | .FunctionDef _ _ b _ _ _ _ _ _ _, i => b.getD i (.Pass ⟨0, 0, 0, 0⟩)
  | .For _ _ b _ _, i => b.getD i (.Pass ⟨0, 0, 0, 0⟩)
  | .If _ b _ _, i => b.getD i (.Pass ⟨0, 0, 0, 0⟩)
  | s, _ => s
def aElse : Stmt → Nat → Stmt
  | .If _ _ b _, i => b.getD i (.Pass ⟨0, 0, 0, 0⟩)
  | s, _ => s
def noE : Expr := .Constant .none 0 ⟨0, 0, 0, 0⟩
def aVal : Stmt → Expr
  | .Assign _ e _ => e
  | .Return (some e) _ => e
  | .Expr e _ => e
  | .If e _ _ _ => e
  | _ => noE
def aArg : Expr → Nat → Expr
  | .Call _ as _ _, i => as.getD i noE
  | .List es _, i => es.getD i noE
  | .Tuple es _ _, i => es.getD i noE
  | .Dict _ vs _, i => vs.getD i noE
  | .UnaryOp _ e _, _ => e
  | .BoolOp _ es _, i => es.getD i noE
  | .ListComp e _ _ _, 0 => e
  | .ListComp _ [c] _ _, _ => c.iter
  | e, _ => e
def lamE (e : Expr) (qual : Str) (fr : List Str) (nd : Nat) : LamW := match e with
  | .Lambda ps b sc _ => ⟨qual, ps, b, sc, fr, nd⟩
  | e => ⟨qual, { posonlyargs := [], args := [], vararg := none, kwonlyargs := [], kw_defaults := [], kwarg := none, defaults := [] }, e, { kind := .function, names := [], isGenerator := false, isCoroutine := false, more := [] }, fr, nd⟩
/-! ### a def that makes lambdas -/
/-- the def at the top, its code object c -/
def DfL (K : PySem.W.Frag) (mg : Str → Option Value) (x : Str) (st : Stmt) (ps : List Str) (c : Addr) : Prop :=
  ∃ f fd, Fun K x x st f fd ∧ mg x = some (.ref f) ∧ Binds K fd ps [] ∧ ∃ oc od kV doc pm an ct osl, K.lookup f = some ⟨oc, od, .func (PySem.W.fnOf x x (defArgs st) (defBody st) (defScope st) .none kV doc pm an (.ref c) ct), osl⟩
theorem code_eq {K : PySem.W.Frag} {f : Addr} {x q : Str} {a b : Arguments} {st : Stmt} {fd : FuncData} {cdv : Value} {c : Addr} (h1 : ∃ oc od kV doc pm an ct osl, fd = PySem.W.fnOf x q (defArgs st) (defBody st) (defScope st) .none kV doc pm an cdv ct ∧ K.lookup f = some ⟨oc, od, .func fd, osl⟩)
    (h2 : ∃ oc od kV doc pm an ct osl, K.lookup f = some ⟨oc, od, .func (PySem.W.fnOf x q (defArgs st) (defBody st) (defScope st) .none kV doc pm an (.ref c) ct), osl⟩) : cdv = .ref c := by
  obtain ⟨oc, od, kV, doc, pm, an, ct, osl, rfl, e1⟩ := h1
  obtain ⟨oc', od', kV', doc', pm', an', ct', osl', e2⟩ := h2
  have e := Option.some.inj (e1.symm.trans e2)
  have e3 := congrArg Obj.data e
  injection e3 with e4
  have e5 := congrArg FuncData.code e4
  exact e5
/-- the table of the def's code object -/
structure TabL (base : Heap) (mg : Str → Option Value) (T : List NdefX.NTab) (c P : Addr) (q : Str) : Prop where
  tab : TabB base mg c P
  mem : (P, fun _ _ => q) ∈ T
  one : ∀ p ∈ T, p.1 = P → p.2 = fun _ _ => q
theorem q_lam1 {k : Nat} {c P : Addr} {p0 : Pos} {j : Nat} (g : Ok X Γ) (t : TabL X.base X.mg Γ.T c P (Γ.lam k).qual) (hcode : X.env.code = .ref c) (hce : Γ.cells = some X.env.cells := by rfl) (hq : (Γ.lam k).qual = X.env.qual ++ "<lambda>" := by rfl)
    (hfree : ∀ y ∈ (Γ.lam k).scope.names, y.2 = .free → X.env.scope.names.lookup y.1 = some .cell ∨ X.env.scope.names.lookup y.1 = some .free) (hnd : (Γ.lam k).nd = 1 := by rfl) (hd : (Γ.lam k).params.defaults = [.Constant (.int 0) j p0] := by rfl) (hk : (Γ.lam k).params.kw_defaults = [] := by rfl) :
    DE X Γ W (.Lambda (Γ.lam k).params (Γ.lam k).body (Γ.lam k).scope pos) (mLam k) :=
  de_lamR g hce (pe_lam1 t.tab hcode t.mem rfl hq t.one hfree hnd hd hk)
theorem q_lam0 {k : Nat} {c P : Addr} (g : Ok X Γ) (t : TabL X.base X.mg Γ.T c P (Γ.lam k).qual) (hcode : X.env.code = .ref c) (hce : Γ.cells = some X.env.cells := by rfl) (hq : (Γ.lam k).qual = X.env.qual ++ "<lambda>" := by rfl)
    (hfree : ∀ y ∈ (Γ.lam k).scope.names, y.2 = .free → X.env.scope.names.lookup y.1 = some .cell ∨ X.env.scope.names.lookup y.1 = some .free) (hnd : (Γ.lam k).nd = 0 := by rfl) (hd : (Γ.lam k).params.defaults = [] := by rfl) (hk : (Γ.lam k).params.kw_defaults = [] := by rfl) :
    DE X Γ W (.Lambda (Γ.lam k).params (Γ.lam k).body (Γ.lam k).scope pos) (mLam k) :=
  de_lamR g hce (pe_lam0 t.tab hcode t.mem rfl hq t.one hfree hnd hd hk)
/-- LamsOk by looking -/
def lamsB (N : List Str) (sc scope : Scope) (lam : Nat → LamW) (js : Nat → List Nat) (ks : List Nat) : Bool :=
  ks.all fun k => (lam k).fr.all (fun y => decide (sc.names.lookup y = some .cell ∨ sc.names.lookup y = some .free) && !decide (scope.names.lookup y = some .free) && decide ((y, NameKind.free) ∈ (lam k).scope.names)) &&
    decide ((js k).map (fun j => N[j]?) = (lam k).fr.map some) && (lam k).scope.names.all (fun y => !decide (y.2 = .free) || decide (y.1 ∈ (lam k).fr))
theorem lams_by {N : List Str} {sc scope : Scope} {js : Nat → List Nat} {ks : List Nat} (hc : Γ.cells = some X.env.cells) (hN : X.N = N) (hs : X.env.scope = sc) (h : lamsB N sc scope Γ.lam js ks = true) : LamsOk X Γ scope js ks := by
  subst hN hs
  simp only [lamsB, Bool.and_eq_true, List.all_eq_true, decide_eq_true_eq, Bool.or_eq_true, Bool.not_eq_true', decide_eq_false_iff_not] at h
  refine ⟨hc, fun k hk y hy => ⟨((h k hk).1.1 y hy).1.1, ((h k hk).1.1 y hy).1.2⟩, fun k hk => (h k hk).1.2, fun k hk y hy e => ?_, fun k hk y hy => ((h k hk).1.1 y hy).2⟩
  rcases (h k hk).2 y hy with z | z
  · exact absurd e z
  · exact z
theorem lams_nil {scope : Scope} {js : Nat → List Nat} (hc : Γ.cells = some X.env.cells) : LamsOk X Γ scope js [] := ⟨hc, fun _ z => (nomatch z), fun _ z => (nomatch z), fun _ z => (nomatch z), fun _ z => (nomatch z)⟩
def CellsUp (X : Cx) : Prop := ∀ y c, X.env.cells.lookup y = some c → X.s_0.heap.objs.size ≤ c
section
variable {p : Pos} {x : Str} {e : Expr} {es : List Expr} {a : DA} {np k k' : Nat} {r : List D → Mem → Res D} {ks : List Nat} {js : Nat → List Nat}
theorem q_callL (ks : List Nat) (js : Nat → List Nat) (c : Cl X.prog X.w X.K X.mg X.base Γ.bare k x np r) (hr : Room k' X.A) (hk : k ≤ k') (L : LamsOk X Γ (noNames X.env.scope) js ks) (hab : CellsUp X) (tk : L2N.Takes X W) (ha : DAs X Γ W (e :: es) a) (hg : Gl X x := by rfl) (hdb : (x == ("__debug__" : Str)) = false := by decide)
    (he : starEach (e :: es) X.env = (false, eval e X.env) :: starEach es X.env := by rfl) (hpl : (backTo pos (starEach es X.env)).any (·.1) = false := by rfl) : DE X Γ W (.Call (.Name x p) (e :: es) [] pos) (mCallL np r ks js a) := by
  obtain ⟨f, fd, ps, h1, h2, h3, h4⟩ := c
  exact de_callL ⟨f, fd, ps, fnA_of h1 (hr.mono hk), h2, h3, h4⟩ L hab tk hg ha hdb he hpl
end
section
variable {elt tg iter : Expr} {ifs : List Expr} {scope : Scope} {own : List (Str × Nat)} {ts : List Nat} {mi : DIt} {gt : DGt} {mt : DT} {me : DM} {ks : List Nat} {js : Nat → List Nat}
theorem okbb (g : Ok X Γ) (s : Shared) (H : Hp) {scope : Scope} (C : Addr) (cl : List (Str × Addr)) (fp : List Addr) (xe : Value → Shared → Prop) : Ok (blkT X s H scope C cl fp xe) Γ.bare := ⟨g.k, g.p, g.w, g.u⟩
theorem q_lcl (ks : List Nat) (js : Nat → List Nat) (g : Ok X Γ) (tk : L2N.Takes X W) (hab : CellsUp X) (hN : X.N.Nodup) (own : List (Str × Nat)) (L : LamsOk X Γ scope js ks) (hts : ∀ i ∈ ts, i ∈ own.map (·.2)) (hi : DI X Γ W tg iter mi) (ok : BlkOk X.N X.env.scope scope own)
    (hg : ∀ (s : Shared) (H : Hp) (C : Addr) (cl : List (Str × Addr)) (fp : List Addr) (xe : Value → Shared → Prop), Ok (blkT X s H scope C cl fp xe) Γ.bare → DG (blkT X s H scope C cl fp xe) Γ.bare ts tg gt) (ht : ∀ (s : Shared) (H : Hp) (C : Addr) (cl : List (Str × Addr)) (fp : List Addr) (xe : Value → Shared → Prop), Ok (blkT X s H scope C cl fp xe) Γ.bare → DTs (blkT X s H scope C cl fp xe) Γ.bare WF ifs mt)
    (he : ∀ (s : Shared) (H : Hp) (C : Addr) (cl : List (Str × Addr)) (fp : List Addr) (xe : Value → Shared → Prop) (W' : WX), Ok (blkT X s H scope C cl fp xe) Γ.bare → L2N.Takes (blkT X s H scope C cl fp xe) W' → DE (blkT X s H scope C cl fp xe) Γ.bare W' elt me) (hs : ∀ x, foldedSetIterable iter X.env x = pure x := by exact fun _ => rfl)
    (hs0 : X.stack = X.env :: X.outer := by rfl) (hf0 : X.env.frame = some X.env.locals := by rfl) (hc : X.calm = true := by rfl) :
    DE X Γ W (.ListComp elt [⟨tg, iter, ifs, 0⟩] scope pos) (mCompL mi gt mt me (own.map (·.2)) ks js) :=
  de_lcl g hc tk hs0 hf0 hab L hN hi ok hts (fun s H C cl fp xe => hg s H C cl fp xe (okbb g s H C cl fp xe)) (fun s H C cl fp xe => ht s H C cl fp xe (okbb g s H C cl fp xe)) (fun s H C cl fp xe W' => he s H C cl fp xe W' (okbb g s H C cl fp xe)) hs
end
/-! ### the handled exception -/
def mXfF (fld : Nat → List Str) (f : Str) (okc : Nat → Bool) (m : DM) : DM := fun σ M => (m σ M).bind fun d M1 => match d with
  | .exn c fs => if okc c then ofOpt (((fld c).findIdx? (· == f)).bind fun i => fs[i]?) M1 else .stuck
  | _ => .stuck
/-- what is asked of a class c that may be handled: seen from the class at cv -/
def IsF (K : PySem.W.Frag) (cls : Nat → Addr) (sub : Nat → Option Bool) (cv : Value) : Prop := ∀ c b, sub c = some b → PySem.W.kitOne K (.ref (cls c)) cv = some b ∧ L2.ExcC K (cls c)
section
variable {e : Expr} {m : DM} {p p2 : Pos} {t : Str}
theorem q_isE {a : Addr} (sub : Nat → Option Bool) (g : Ok X Γ) (hx : HotX X Γ) (hsub : IsF X.K Γ.cls sub (.ref a)) (hm : X.mg "isinstance" = none) (hmt : X.mg t = some (.ref a)) (ha : DE X Γ W e m) (hg : Gl X "isinstance" := by rfl) (hgt : Gl X t := by rfl) (hdt : (t == ("__debug__" : Str)) = false := by decide)
    (he : starEach [e, .Name t p2] X.env = (false, eval e X.env) :: starEach [.Name t p2] X.env := by rfl) : DE X Γ W (.Call (.Name "isinstance" p) [e, .Name t p2] [] pos) (mIsE sub m) :=
  de_isE (tc := .ref a) (cv := .ref a) g hx hsub hg hm boot_isi (by decide) (by decide) ha (pe_glob hgt hmt rfl hdt) (fun u r => r) he rfl rfl
theorem q_isV (sub : Nat → Option Bool) (g : Ok X Γ) (hx : HotX X Γ) {T : String} (hsub : IsF X.K Γ.cls sub (.type T)) (hm : X.mg "isinstance" = none) (hmt : X.mg t = none) (ha : DE X Γ W e m) (hv : bootBuiltins t = some (.type T) := by decide +kernel) (hg : Gl X "isinstance" := by rfl) (hgt : Gl X t := by rfl) (hnt : t ≠ "__name__" := by decide) (hdt : (t == ("__debug__" : Str)) = false := by decide)
    (he : starEach [e, .Name t p2] X.env = (false, eval e X.env) :: starEach [.Name t p2] X.env := by rfl) : DE X Γ W (.Call (.Name "isinstance" p) [e, .Name t p2] [] pos) (mIsE sub m) :=
  de_isE (tc := .ty T) (cv := .type T) g hx hsub hg hm boot_isi (by decide) (by decide) ha (pe_bltn (v := .ty T) hgt hmt hv rfl hnt hdt) (fun u r => r) he rfl rfl
theorem q_xf {f : Str} (okc : Nat → Bool) (g : Ok X Γ) (hx : HotX X Γ) (hok : ∀ c, okc c = true → L2.XfC X.K (Γ.cls c) ∧ PySem.W.findIn X.K (.ref (Γ.cls c)) f = some none) (he : DE X Γ W e m) (hb : attributeBase e f X.env (eval e X.env) = eval e X.env := by rfl) :
    DE X Γ W (.Attribute e f pos) (mXfF Γ.fld f okc m) := de_xf g hx hok he hb
end
/-- the def that is asked in the suite, at level k -/
def ClR (P : Program) (w : World) (K : PySem.W.Frag) (mg : Str → Option Value) (base : Heap) (Γ : Gam) (k : Nat) (x : Str) (rr : Nat → List D → Mem → Res D) : Prop :=
  ∃ f fd ps, RefOk P w K mg base Γ k f fd ps rr ∧ mg x = some (.ref f) ∧ PySem.W.keepIn K (.ref f) = true ∧ Binds K fd ps []
theorem Df.clR {P : Program} {w : World} {K : PySem.W.Frag} {mg : Str → Option Value} {base : Heap} {k : Nat} {x : Str} {st : Stmt} {ps : List Str} {rr : Nat → List D → Mem → Res D} (d : Df K mg x st ps)
    (h : ∀ f fd, Fun K x x st f fd → RefOk P w K mg base Γ k f fd ps rr) : ClR P w K mg base Γ k x rr := by
  obtain ⟨f, fd, F, hm, hb⟩ := d
  exact ⟨f, fd, ps, h f fd F, hm, F.kp, hb⟩
theorem Df.cl0 {P : Program} {w : World} {K : PySem.W.Frag} {mg : Str → Option Value} {base : Heap} {k : Nat} {x : Str} {st : Stmt} {ps : List Str} {np : Nat} (d : Df K mg x st ps) : Cl P w K mg base Γ k x np (fun _ _ => .stuck) := by
  obtain ⟨f, fd, F, hm, hb⟩ := d
  exact ⟨f, fd, ps, ⟨fun vs H Q E ⟨_, _, _, _, _, _, _, _, p⟩ => p.elim, fun A outer s H args us vs Q E _ _ _ _ ⟨_, _, _, _, _, _, _, _, p⟩ => p.elim⟩, hm, F.kp, hb⟩
theorem s_told {x n r : Str} {cm : Addr} (i : Nat) {k k' : Nat} {body : List Stmt} {np pos' rp ep cp sp : Pos} {mb : DSt} {rr : Nat → List D → Mem → Res D} (catch_ : Nat → Bool) (hN : X.N.Nodup) (hmx : X.mg x = some (.ref cm)) (tk : L2N.Takes X W) (hcatch : ∀ c, catch_ c = true → PySem.W.exmOne X.K (.ref (Γ.cls c)) (.ref cm) = some true)
    (rc : ClR X.prog X.w X.K X.mg X.base Γ k r rr) (hr : Room k' X.A) (hk : k ≤ k') (hb : ∀ (W' : WX) (pn : List (Addr × Obj)) (xe : Value → Shared → Prop), L2N.Takes (X.tr pn xe) W' → DSs (X.tr pn xe) Γ W' body mb)
    (hi : X.N[i]? = some n := by rfl) (hln : X.env.kindOf n = some .local := by rfl) (hgx : Gl X x := by rfl) (hdx : (x == ("__debug__" : Str)) = false := by decide) (hgr : Gl X r := by rfl) (hdr : (r == ("__debug__" : Str)) = false := by decide) (hdn : (n == ("__debug__" : Str)) = false := by decide) (hcn : (n == ("__classdict__" : Str)) = false := by decide)
    (hst : starEach [.Name n ep] X.env = (false, eval (.Name n ep) X.env) :: starEach [] X.env := by rfl) (hs : X.stack = X.env :: X.outer := by rfl) (hf : X.env.frame = some X.env.locals := by rfl) :
    DS X Γ W (.Try body [.ExceptHandler (some (.Name x np)) (some n) [.Return (some (.Call (.Name r rp) [.Name n ep] [] cp)) sp] pos'] [] [] pos) (sTold catch_ i mb rr) := by
  obtain ⟨f, fd, ps, h1, h2, h3, h4⟩ := rc
  exact ds_told hs hf hN hi hln ⟨hgx, hdx, .inl hmx⟩ tk hcatch hb ⟨k, f, fd, ps, h1, (L2H.roomH_of hr).mono hk, h2, h3, h4⟩ hgr hdr hdn hcn hst rfl
theorem q_clo0 {S : List Nat} {n n' : Nat} {crun : Nat → List D → List D → Mem → Res D} {x : Str} {p : Pos} (i : Nat) (tk : L2N.Takes X W) (hr : Room n' X.A) (hn : n ≤ n') (lo : ∀ k ∈ S, LamOk X.prog X.w X.K X.mg X.base Γ n k 0 (crun k)) (hN : X.N[i]? = some x := by rfl) (hv : Vis X.env.scope x := by first | exact Or.inl rfl | exact Or.inr (Or.inl rfl) | exact Or.inr (Or.inr rfl)) (hd : (x == ("__debug__" : Str)) = false := by decide)
    (hcd : (x == ("__classdict__" : Str)) = false := by decide) : DE X Γ W (.Call (.Name x p) [] [] pos) (mClo S 0 crun i aNil) := de_clo0 tk (hr.mono hn) lo hN hv hd hcd
end
end MT

set_option maxRecDepth 100000
/-! MtRepr: the text of nested data, floats too. -/
namespace MT
open PySem PySem.Spec PyProof.Rows L2
/-- the text of what is no container -/
def scText : Value → Option Str
  | .none => some "None"
  | .bool b => some (if b then Str.ofString "True" else Str.ofString "False")
  | .int i _ => if i.natAbs.log2 < 1920 then some (Str.ofString (toString i)) else none
  | .str x _ => if (reprText x).length ≤ sizeLine then some (reprText x) else none
  | .float b _ => if (Str.ofString (Float64.repr b)).length ≤ sizeLine then some (Str.ofString (Float64.repr b)) else none
  | _ => none
theorem scText_is {prog : Program} {w : World} {v : Value} {t : Str} (e : scText v = some t) : ReprIs prog w v t := by
  unfold scText at e
  split at e
  · cases e; exact ReprIs.none
  · rename_i b
    cases e
    exact ReprIs.bool b
  · split at e
    · rename_i h
      cases e; exact ReprIs.int _ h
    · cases e
  · split at e
    · rename_i h
      cases e; exact ReprIs.str _ _ h
    · cases e
  · split at e
    · rename_i h
      cases e; exact ReprIs.float _ _ h
    · cases e
  · cases e
mutual
/-- v's text in the heap h, and how deep it goes -/
inductive Rx (h : Heap) : Value → Str → Nat → Prop
  | sc {v : Value} {t : Str} : scText v = some t → Rx h v t 0
  | lst {a : Addr} {o : Obj} {vs : List Value} {n : Nat} {ts : List Str} {k : Nat} : h.get? a = some o → o.cls = .type "list" → o.data = .seq vs.toArray n → RxA h vs ts k → Rx h (.ref a) (listText ts) (k + 1)
  | tup {a : Addr} {o : Obj} {vs : List Value} {n : Nat} {ts : List Str} {k : Nat} : h.get? a = some o → o.cls = .type "tuple" → o.data = .seq vs.toArray n → RxA h vs ts k → Rx h (.ref a) (tupleText ts) (k + 1)
inductive RxA (h : Heap) : List Value → List Str → Nat → Prop
  | nil : RxA h [] [] 0
  | cons {v : Value} {vs : List Value} {t : Str} {ts : List Str} {k j : Nat} : Rx h v t k → RxA h vs ts j → RxA h (v :: vs) (t :: ts) (max k j)
end
section
variable {h : Heap}
mutual
theorem Rx.one : ∀ {v : Value} {t t' : Str} {k k' : Nat}, Rx h v t k → Rx h v t' k' → t = t' ∧ k = k'
  | _, _, _, _, _, .sc e, r => by
    cases r with
    | sc e' => exact ⟨Option.some.inj (e.symm.trans e'), rfl⟩
    | lst _ _ _ _ => simp [scText] at e
    | tup _ _ _ _ => simp [scText] at e
  | _, _, _, _, _, .lst g1 c1 d1 r1, r => by
    cases r with
    | sc e' => simp [scText] at e'
    | lst g2 c2 d2 r2 =>
      rw [g1] at g2
      cases g2
      rw [d1] at d2
      injection d2 with d3 d4
      have d5 := congrArg Array.toList d3
      simp only at d5
      subst d5
      obtain ⟨rfl, rfl⟩ := RxA.one r1 r2
      exact ⟨rfl, rfl⟩
    | tup g2 c2 d2 r2 =>
      rw [g1] at g2
      cases g2
      rw [c1] at c2
      exact absurd c2 (by decide)
  | _, _, _, _, _, .tup g1 c1 d1 r1, r => by
    cases r with
    | sc e' => simp [scText] at e'
    | tup g2 c2 d2 r2 =>
      rw [g1] at g2
      cases g2
      rw [d1] at d2
      injection d2 with d3 d4
      have d5 := congrArg Array.toList d3
      simp only at d5
      subst d5
      obtain ⟨rfl, rfl⟩ := RxA.one r1 r2
      exact ⟨rfl, rfl⟩
    | lst g2 c2 d2 r2 =>
      rw [g1] at g2
      cases g2
      rw [c1] at c2
      exact absurd c2 (by decide)
theorem RxA.one : ∀ {vs : List Value} {ts ts' : List Str} {k k' : Nat}, RxA h vs ts k → RxA h vs ts' k' → ts = ts' ∧ k = k'
  | _, _, _, _, _, .nil, r => by cases r; exact ⟨rfl, rfl⟩
  | _, _, _, _, _, .cons a b, r => by
    cases r with
    | cons a2 b2 =>
      obtain ⟨rfl, rfl⟩ := Rx.one a a2
      obtain ⟨rfl, rfl⟩ := RxA.one b b2
      exact ⟨rfl, rfl⟩
end
/-- the containers that are come to -/
def Within (h : Heap) (k : Nat) (bs : List Addr) : Prop := ∀ b ∈ bs, ∃ t m, m ≤ k ∧ Rx h (.ref b) t m
theorem Within.out {k : Nat} {bs : List Addr} {a : Addr} {t : Str} (w : Within h k bs) (r : Rx h (.ref a) t (k + 1)) : a ∉ bs := fun z => by
  obtain ⟨t', m, hm, r'⟩ := w a z
  have e := (r.one r').2
  omega
theorem allK_item {prog : Program} {w : World} {as : List Addr} {d : Nat} : ∀ {l : List Value} {ts : List Str}, ReprAllK prog w as h d l ts → ∀ (i : Nat) (y : Value), l[i]? = some y → ∃ t, ts[i]? = some t ∧ ReprK prog w as h d y t
  | _, _, .nil, i, y, e => by simp at e
  | _, _, .cons r _, 0, y, e => by simp at e; subst e; exact ⟨_, rfl, r⟩
  | _, _, .cons _ rs, i + 1, y, e => allK_item rs i y (by simpa using e)
mutual
theorem Rx.k {prog : Program} {w : World} : ∀ {v : Value} {t : Str} {k : Nat}, Rx h v t k → ∃ bs, Within h k bs ∧ ReprK prog w bs h k v t
  | _, _, _, .sc e => ⟨[], (fun _ z => nomatch z), .of_is (scText_is e) _ _ _⟩
  | _, _, _, .lst (a := a) (vs := vs) g1 c1 d1 r1 => by
    obtain ⟨bs, hb, hk⟩ := RxA.k (prog := prog) (w := w) r1
    have rr := Rx.lst g1 c1 d1 r1
    have ha := hb.out rr
    refine ⟨a :: bs, fun b z => ?_, ?_⟩
    · rcases List.mem_cons.mp z with z | z
      · subst z; exact ⟨_, _, Nat.le_refl _, rr⟩
      · obtain ⟨t, m, hm, q⟩ := hb b z
        exact ⟨t, m, Nat.le_succ_of_le hm, q⟩
    · cases vs with
      | nil =>
        cases r1
        rw [listText_nil]
        exact ReprK.listEmpty g1 c1 d1
      | cons x l => exact ReprK.list g1 c1 d1 ha (by simpa using hk.length_eq) (fun i y e => allK_item hk i y (by simpa using e))
  | _, _, _, .tup (a := a) g1 c1 d1 r1 => by
    obtain ⟨bs, hb, hk⟩ := RxA.k (prog := prog) (w := w) r1
    have rr := Rx.tup g1 c1 d1 r1
    have ha := hb.out rr
    refine ⟨a :: bs, fun b z => ?_, ReprK.tuple g1 c1 d1 ha hk⟩
    rcases List.mem_cons.mp z with z | z
    · subst z; exact ⟨_, _, Nat.le_refl _, rr⟩
    · obtain ⟨t, m, hm, q⟩ := hb b z
      exact ⟨t, m, Nat.le_succ_of_le hm, q⟩
theorem RxA.k {prog : Program} {w : World} : ∀ {vs : List Value} {ts : List Str} {k : Nat}, RxA h vs ts k → ∃ bs, Within h k bs ∧ ReprAllK prog w bs h k vs ts
  | _, _, _, .nil => ⟨[], (fun _ z => nomatch z), .nil⟩
  | _, _, _, .cons (k := k) (j := j) r rs => by
    obtain ⟨b1, h1, k1⟩ := Rx.k (prog := prog) (w := w) r
    obtain ⟨b2, h2, k2⟩ := RxA.k (prog := prog) (w := w) rs
    refine ⟨b1 ++ b2, fun b z => ?_, ?_⟩
    · rcases List.mem_append.mp z with z | z
      · obtain ⟨t, m, hm, q⟩ := h1 b z
        exact ⟨t, m, by omega, q⟩
      · obtain ⟨t, m, hm, q⟩ := h2 b z
        exact ⟨t, m, by omega, q⟩
    · exact .cons ((k1.more fun b z => List.mem_append_left _ z).level_le (by omega)) (k2.more_le (fun b z => List.mem_append_right _ z) (by omega))
end
end
/-- repr of a list that is not empty -/
theorem repr_list {prog : Program} {w : World} {A : Around} {E : Value → Shared → Prop} {s : Shared} {Q : Value → Shared → Prop} {a : Addr} {o : Obj} {x : Value} {l : List Value} {n : Nat} {ts : List Str} {k : Nat} (g1 : s.heap.get? a = some o) (c1 : o.cls = .type "list") (d1 : o.data = .seq (x :: l).toArray n) (r : RxA s.heap (x :: l) ts k)
    (hg : A.guards = some []) (hu : A.units + (k + 2) < cLine) (hz : (listText ts).length ≤ sizeLine) (hQ : ∀ h' u tk, (∀ b o, s.heap.get? b = some o → h'.get? b = some o) → Q (.str (listText ts) u) { s with heap := h', toks := tk }) :
    wpAny (model prog w) A (call (.builtin "repr") [.ref a]) Q E s := by
  obtain ⟨bs, hb, hk⟩ := r.k (prog := prog) (w := w)
  have ha := hb.out (Rx.lst g1 c1 d1 r)
  refine call_repr_slot (by omega) ⟨o, g1, c1⟩ F.slot_list_repr.toG ?_
  exact call_list_reprK g1 c1 d1 ha (by simpa using hk.length_eq) (fun i y e => allK_item hk i y (by simpa using e)) (A := A.in1) (g := []) hg (fun b _ => Clear.nil b) (by show A.units + 1 + (k + 1) < cLine; omega) (fun _ _ e => e) (fun h' u tk q => ⟨_, _, rfl, hQ h' u tk q⟩) hz
mutual
def shD : D → Option (Str × Nat)
  | .non => some ("None", 0)
  | .bl b => some (if b then Str.ofString "True" else Str.ofString "False", 0)
  | .int i => if i.natAbs.log2 < 1920 then some (Str.ofString (toString i), 0) else none
  | .str l => if (reprText (txt l)).length ≤ sizeLine then some (reprText (txt l), 0) else none
  | .flt b => if (Str.ofString (Float64.repr b)).length ≤ sizeLine then some (Str.ofString (Float64.repr b), 0) else none
  | .tup ds => (shL ds).map fun p => (tupleText p.1, p.2 + 1)
  | .lst ds => (shL ds).map fun p => (listText p.1, p.2 + 1)
  | _ => none
def shL : List D → Option (List Str × Nat)
  | [] => some ([], 0)
  | d :: ds => (shD d).bind fun p => (shL ds).map fun q => (p.1 :: q.1, max p.2 q.2)
end
section
variable {X : Cx} {Γ : Gam} {W : WX} {pos : Pos}
section
variable {pins : List (Addr × Obj)} {σ : L2.St} {H : Hp} {s : Shared} {F P : Hp} {ι : List Addr} {M : Mem}
mutual
theorem sh_rx (g : Ok X Γ) (I : Inv X pins σ H s) (st : St Γ F P ι M H) : ∀ (d : D) (v : V) (u : Value) (t : Str) (k : Nat), Rep Γ F ι d v → RelV v u → shD d = some (t, k) → Rx s.heap u t k
  | .non, v, u, t, k, r, ru, e => by
    simp only [Rep] at r
    simp only [shD, Option.some.injEq, Prod.mk.injEq] at e
    obtain ⟨rfl, rfl⟩ := e
    subst r
    cases ru
    exact .sc rfl
  | .bl b, v, u, t, k, r, ru, e => by
    simp only [Rep] at r
    simp only [shD, Option.some.injEq, Prod.mk.injEq] at e
    obtain ⟨rfl, rfl⟩ := e
    subst r
    cases ru
    exact .sc rfl
  | .int i, v, u, t, k, r, ru, e => by
    simp only [Rep] at r
    simp only [shD] at e
    split at e
    · rename_i h
      simp only [Option.some.injEq, Prod.mk.injEq] at e
      obtain ⟨rfl, rfl⟩ := e
      subst r
      obtain ⟨tk, rfl⟩ := ru
      exact .sc (by simp only [scText, if_pos h])
    · cases e
  | .str l, v, u, t, k, r, ru, e => by
    simp only [Rep] at r
    simp only [shD] at e
    split at e
    · rename_i h
      simp only [Option.some.injEq, Prod.mk.injEq] at e
      obtain ⟨rfl, rfl⟩ := e
      subst r
      obtain ⟨tk, rfl⟩ := ru
      exact .sc (by simp only [scText, if_pos h])
    · cases e
  | .flt b, v, u, t, k, r, ru, e => by
    simp only [Rep] at r
    simp only [shD] at e
    split at e
    · rename_i h
      simp only [Option.some.injEq, Prod.mk.injEq] at e
      obtain ⟨rfl, rfl⟩ := e
      subst r
      obtain ⟨tk, rfl⟩ := ru
      exact .sc (by simp only [scText, if_pos h])
    · cases e
  | .tup ds, v, u, t, k, r, ru, e => by
    simp only [Rep] at r
    obtain ⟨a, xs, rfl, sq, rs⟩ := r
    cases ru
    simp only [shD, Option.map_eq_some_iff, Prod.exists, Prod.mk.injEq] at e
    obtain ⟨ts, j, e1, rfl, rfl⟩ := e
    have sq' : SqT X.K H a xs := by rw [g.k]; exact SqT.fr st.fr sq
    obtain ⟨its, rv, ⟨o, ho, hcl, n, hd⟩, _⟩ := I.tuple sq'
    exact .tup ho hcl hd (shL_rx g I st ds xs _ ts j rs rv e1)
  | .lst ds, v, u, t, k, r, ru, e => by
    simp only [Rep] at r
    obtain ⟨a, xs, rfl, sq, rs⟩ := r
    cases ru
    simp only [shD, Option.map_eq_some_iff, Prod.exists, Prod.mk.injEq] at e
    obtain ⟨ts, j, e1, rfl, rfl⟩ := e
    obtain ⟨its, rv, pl, _⟩ := I.list (a := a) (xs := xs) (.inl (.inl (st.fr _ _ sq)))
    obtain ⟨o, ho, hcl, n, hd⟩ := pl.isList
    exact .lst ho hcl hd (shL_rx g I st ds xs _ ts j rs rv e1)
  | .dic _ _, _, _, _, _, _, _, e => by simp [shD] at e
  | .obj _, _, _, _, _, _, _, e => by simp [shD] at e
  | .ins _ _, _, _, _, _, _, _, e => by simp [shD] at e
  | .scr _, _, _, _, _, _, _, e => by simp [shD] at e
  | .clo _ _, _, _, _, _, _, _, e => by simp [shD] at e
  | .lam _, _, _, _, _, _, _, e => by simp [shD] at e
  | .exn _ _, _, _, _, _, _, _, e => by simp [shD] at e
theorem shL_rx (g : Ok X Γ) (I : Inv X pins σ H s) (st : St Γ F P ι M H) : ∀ (ds : List D) (vs : List V) (us : List Value) (ts : List Str) (k : Nat), RepL Γ F ι ds vs → Vals vs us → shL ds = some (ts, k) → RxA s.heap us ts k
  | [], vs, us, ts, k, r, ru, e => by
    simp only [RepL] at r
    simp only [shL, Option.some.injEq, Prod.mk.injEq] at e
    obtain ⟨rfl, rfl⟩ := e
    subst r
    cases ru
    exact .nil
  | d :: ds, vs, us, ts, k, r, ru, e => by
    simp only [RepL] at r
    obtain ⟨x, xs, rfl, r1, r2⟩ := r
    simp only [shL, Option.bind_eq_some_iff, Option.map_eq_some_iff, Prod.exists, Prod.mk.injEq] at e
    obtain ⟨t1, k1, e1, t2, k2, e2, rfl, rfl⟩ := e
    cases ru with
    | cons ra rb => exact .cons (sh_rx g I st d x _ t1 k1 r1 ra e1) (shL_rx g I st ds xs _ t2 k2 r2 rb e2)
end
end
def gRepr (_ : Mem) : List D → Option D
  | [.lst (d :: ds)] => match shL (d :: ds) with
    | some (ts, k) => if (listText ts).length ≤ sizeLine ∧ k ≤ 40 then some (.str (listText ts).cps.toList) else none
    | none => none
  | _ => none
theorem cal_repr (g : Ok X Γ) (hg : X.A.guards = some []) : CallR X (.builtin "repr") (rDn Γ gRepr) := by
  intro pins s σ H xs us Q I r ⟨F, P, ι, M, ds, rr, st, rd, eg, q⟩
  unfold gRepr at eg
  split at eg
  · rename_i d0 dr
    split at eg
    · rename_i ts k e1
      split at eg
      · rename_i hc
        simp only [Option.some.injEq] at eg
        subst eg
        simp only [RepL, Rep] at rd
        obtain ⟨x, _, rfl, ⟨a, ys, rfl, hF, rs⟩, rfl⟩ := rd
        rw [Vals.ref1 r]
        obtain ⟨its, rv, pl, _⟩ := I.list (a := a) (xs := ys) (.inl (.inl (st.fr _ _ hF)))
        obtain ⟨o, ho, hcl, n, hd⟩ := pl.isList
        have rx := shL_rx g I st _ ys its ts k (by simpa only [RepL] using rs) rv e1
        cases its with
        | nil =>
          obtain ⟨x, r', rfl, _, _⟩ := rs
          cases rv
        | cons u0 ur =>
          refine repr_list ho hcl hd rx hg (by have := g.u; omega) hc.1 fun h' u tk hk => ⟨.str (listText ts), H, I.kept hk, ⟨_, rfl⟩, q _ _ F Ext.refl st (by simp only [Rep])⟩
      · cases eg
    · cases eg
  · cases eg
theorem boot_rep : bootBuiltins "repr" = some (.builtin "repr") := by decide +kernel
theorem q_repr (g : Ok X Γ) (hg : X.A.guards = some []) {e : Expr} {m : DM} {p : Pos} (hm : X.mg "repr" = none) (ha : DE X Γ W e m) (hgl : Gl X "repr" := by rfl) (he : starEach [e] X.env = [(false, eval e X.env)] := by rfl) : DE X Γ W (.Call (.Name "repr" p) [e] [] pos) (mB gRepr (aCons m aNil)) :=
  de_B (cal_repr g hg) hgl hm boot_rep (da_cons ha da_nil he) (by decide) (by decide) he rfl
end
end MT

set_option maxRecDepth 100000
/-! MtGuard: defs that are run only where no repr is under way. -/
namespace MT
open PySem PySem.Spec PyProof.Rows L2
/-- the def x keeps the promise r at level k where no repr is under way -/
def ClG (P : Program) (w : World) (K : PySem.W.Frag) (mg : Str → Option Value) (base : Heap) (Γ : Gam) (k : Nat) (x : Str) (np : Nat) (r : List D → Mem → Res D) : Prop :=
  ∃ f fd ps, (∀ A : Around, Room k A → A.guards = some [] → FnA P w K mg base (L2N.CX P w) A f fd ps (spR Γ np r)) ∧ mg x = some (.ref f) ∧ PySem.W.keepIn K (.ref f) = true ∧ Binds K fd ps []
theorem Df.clG {P : Program} {w : World} {K : PySem.W.Frag} {mg : Str → Option Value} {base : Heap} {Γ : Gam} {k : Nat} {x : Str} {st : Stmt} {ps : List Str} {np : Nat} {r : List D → Mem → Res D} (d : Df K mg x st ps)
    (h : ∀ f fd, Fun K x x st f fd → ∀ A : Around, Room k A → A.guards = some [] → FnA P w K mg base (L2N.CX P w) A f fd ps (spR Γ np r)) : ClG P w K mg base Γ k x np r := by
  obtain ⟨f, fd, F, hm, hb⟩ := d
  exact ⟨f, fd, ps, h f fd F, hm, F.kp, hb⟩
theorem guards_in {A : Around} {env : Env} (h : A.guards = some []) : (A.deeper env).guards = some [] := h
section
variable {X : Cx} {Γ : Gam} {W : WX} {pos p : Pos} {x : Str} {e : Expr} {es : List Expr} {a : DA} {np k k' : Nat} {r : List D → Mem → Res D}
theorem q_callG (c : ClG X.prog X.w X.K X.mg X.base Γ k x np r) (hgd : X.A.guards = some []) (hr : Room k' X.A) (hk : k ≤ k') (tk : L2N.Takes X W) (ha : DAs X Γ W (e :: es) a) (hg : Gl X x := by rfl) (hdb : (x == ("__debug__" : Str)) = false := by decide)
    (he : starEach (e :: es) X.env = (false, eval e X.env) :: starEach es X.env := by rfl) (hpl : (backTo pos (starEach es X.env)).any (·.1) = false := by rfl) : DE X Γ W (.Call (.Name x p) (e :: es) [] pos) (mCall np r a) := by
  obtain ⟨f, fd, ps, h1, h2, h3, h4⟩ := c
  exact de_call ⟨f, fd, ps, h1 _ (hr.mono hk) hgd, h2, h3, h4⟩ tk hg ha hdb he hpl
theorem q_callLG (ks : List Nat) (js : Nat → List Nat) (c : ClG X.prog X.w X.K X.mg X.base Γ.bare k x np r) (hgd : X.A.guards = some []) (hr : Room k' X.A) (hk : k ≤ k') (L : LamsOk X Γ (noNames X.env.scope) js ks) (hab : CellsUp X) (tk : L2N.Takes X W) (ha : DAs X Γ W (e :: es) a) (hg : Gl X x := by rfl) (hdb : (x == ("__debug__" : Str)) = false := by decide)
    (he : starEach (e :: es) X.env = (false, eval e X.env) :: starEach es X.env := by rfl) (hpl : (backTo pos (starEach es X.env)).any (·.1) = false := by rfl) : DE X Γ W (.Call (.Name x p) (e :: es) [] pos) (mCallL np r ks js a) := by
  obtain ⟨f, fd, ps, h1, h2, h3, h4⟩ := c
  exact de_callL ⟨f, fd, ps, h1 _ (hr.mono hk) hgd, h2, h3, h4⟩ L hab tk hg ha hdb he hpl
end
end MT

set_option maxRecDepth 100000
set_option maxHeartbeats 2000000
/-! MtEnd: the end of a row, where the law is run with no repr under way. -/
namespace MT
open PySem PySem.Spec PyProof.Rows L2 LamX
section
variable {P : Program} {w : World} {K : PySem.W.Frag} {mg mb : Str → Option Value} {CX : CXT} {fa a : Addr} {cs : List (Addr × Addr)} {fd : FuncData} {x : Str} {sp : Sp} {s₁ : Shared} {vs : List Value} {ns : List Int}
/-- the abstract heap at the start: the tables, and the script if it is not written -/
noncomputable def headH (K : PySem.W.Frag) (cs : List (Addr × Addr)) (a : Addr) (vs : List Value) (ns : List Int) : Hp := fun b =>
  if b ∈ cs.map (·.2) then some (.tbl #[]) else if b = a ∧ K.lookup a = none then some (.frz { cls := .type "list", data := .seq vs.toArray } (.lst (ns.map V.int))) else none
theorem headH_tab {b : Addr} (h : b ∈ cs.map (·.2)) : headH K cs a vs ns b = some (.tbl #[]) := if_pos h
theorem headH_cases (b : Addr) : headH K cs a vs ns b = none ∨ b ∈ cs.map (·.2) ∨ (b = a ∧ K.lookup a = none ∧ b ∉ cs.map (·.2) ∧ headH K cs a vs ns b = some (.frz { cls := .type "list", data := .seq vs.toArray } (.lst (ns.map V.int)))) := by
  unfold headH
  by_cases h : b ∈ cs.map (·.2)
  · exact .inr (.inl h)
  · rw [if_neg h]
    by_cases h2 : b = a ∧ K.lookup a = none
    · rw [if_pos h2]
      exact .inr (.inr ⟨h2.1, h2.2, h, rfl⟩)
    · rw [if_neg h2]
      exact .inl rfl
theorem law_go (KX : K.In s₁.heap) (hns : s₁.heap.Ns mainGlobals mg) (hb : s₁.heap.Ns builtinsNs mb) (hbb : ∀ x : Str, x ≠ "__name__" → mb x = bootBuiltins x) (hlim : s₁.heap.NoLimit) (hgen : s₁.gens = #[])
    (hT : ∀ p ∈ cs, s₁.heap.get? p.2 = some { cls := .none, data := .fields #[] }) (nT : ∀ p ∈ cs, K.lookup p.2 = none) (C : ∀ p ∈ cs, PySem.W.CodeHd s₁.heap p.1 p.2)
    (hbm : ∃ (bm : Addr) (ob : Obj), mg "__builtins__" = some (.ref bm) ∧ bm ≠ builtinsNs ∧ s₁.heap.get? bm = some ob ∧ ob.cls = .type "module" ∧ ob.dict = some builtinsNs ∧ ob.data = .plain)
    (ha : s₁.heap.get? a = some { cls := .type "list", data := .seq vs.toArray }) (hi : IntsAre vs ns) (hl : ns.length ≤ sizeLine)
    (F : ∀ base : Heap, K.In base → base.Ns mainGlobals mg → (∀ p ∈ cs, LamX.TabB base mg p.1 p.2) → FnA P w K mg base CX callerA fa fd [x] sp) (hbind : ∀ (s : Shared) (u : Value), BindsTo s fd ⟨[u], []⟩ [(x, u)])
    (hsp : ∀ H : Hp, (∀ p ∈ cs, H p.2 = some (.tbl #[])) → SqL K H a (ns.map V.int) → sp [.ref a] H (fun v _ => v = .bl true) fun _ _ _ => False)
    (hCX : ∀ H e s', CX [] H s₁ (fun _ _ _ => False) e s' → False) :
    codeAny (model P w) callerA (.call (.ref fa) ⟨[.ref a], []⟩) (fun r s' => r = .ok (.ret (.bool true)) ∧ OldK s₁.heap s'.heap ∧ s'.os = s₁.os ∧ AllBare s'.gens) s₁ := by
  have vals := vals_ints hi
  have vlen := hi.length
  have tabAt : ∀ b : Addr, b ∈ cs.map (·.2) → s₁.heap.get? b = some { cls := .none, data := .fields #[] } := fun b z => by
    obtain ⟨p, hp, rfl⟩ := List.mem_map.mp z
    exact hT p hp
  have aNo : a ∉ cs.map (·.2) := fun z => by
    have z1 := (tabAt a z).symm.trans ha
    have z2 : Data.fields #[] = Data.seq vs.toArray _ := congrArg Obj.data (Option.some.inj z1)
    cases z2
  generalize hH0 : headH K cs a vs ns = H
  have hcase := fun b => headH_cases (K := K) (cs := cs) (a := a) (vs := vs) (ns := ns) b
  rw [hH0] at hcase
  have htab : ∀ p ∈ cs, H p.2 = some (.tbl #[]) := fun p hp => by
    rw [← hH0]
    exact headH_tab (List.mem_map.mpr ⟨p, hp, rfl⟩)
  have htabm : ∀ b ∈ cs.map (·.2), H b = some (.tbl #[]) := fun b z => by
    obtain ⟨p, hp, rfl⟩ := List.mem_map.mp z
    exact htab p hp
  have sq : SqL K H a (ns.map V.int) := by
    cases hk : K.lookup a with
    | some o =>
      have z := (KX a o hk).symm.trans ha
      cases z
      exact .inr ⟨_, vs.toArray, _, hk, rfl, rfl, rfl, by rw [List.size_toArray, vlen]; exact hl, by simpa using vals⟩
    | none =>
      rw [← hH0]
      exact .inl (.inr ⟨{ cls := .type "list", data := .seq vs.toArray }, by unfold headH; rw [if_neg aNo, if_pos ⟨rfl, hk⟩]⟩)
  have hok : HOk P w H s₁.heap := fun b u z => by
    rcases hcase b with h | h | ⟨rfl, h2, h3, h4⟩
    · rw [h] at z; cases z
    · rw [htabm b h] at z
      cases z
      exact tabAt b h
    · rw [h4] at z
      cases z
      exact ⟨ha, by rw [List.length_map]; exact hl, vs, _, vals, ha⟩
  -- what is no table and no list is seen by the base
  have free : ∀ {b : Addr} {o : Obj}, s₁.heap.get? b = some o → (∀ us n, o.data ≠ .seq us n) → o.data ≠ .fields #[] → H b = none := fun {b o} e h1 h2 => by
    rcases hcase b with h | h | ⟨rfl, _, _, _⟩
    · exact h
    · have z := e.symm.trans (tabAt b h)
      cases z
      exact absurd rfl h2
    · have z := e.symm.trans ha
      cases z
      exact absurd rfl (h1 _ _)
  have freeD : ∀ {b : Addr} {o : Obj} {es : Array DictEntry} {ep : Nat}, s₁.heap.get? b = some o → o.data = .dict es ep → H b = none := fun {b o es ep} e d =>
    free e (fun us n z => by rw [d] at z; cases z) fun z => by rw [d] at z; cases z
  have nsB : ∀ {b : Addr} {m : Str → Option Value}, s₁.heap.Ns b m → (hidT s₁.heap H).Ns b m := fun {b m} ⟨o, es, ep, e, d, r⟩ => ⟨o, es, ep, hidT_get e (freeD e d), d, r⟩
  have inB : K.In (hidT s₁.heap H) := fun b o e => hidT_get (KX b o e) (by
    rcases hcase b with h | h | ⟨rfl, h2, _, _⟩
    · exact h
    · obtain ⟨p, hp, rfl⟩ := List.mem_map.mp h
      rw [nT p hp] at e
      cases e
    · rw [h2] at e
      cases e)
  have mod : L2.Mod K mg (hidT s₁.heap H) := ⟨inB, nsB hns, ⟨mb, nsB hb, hbb⟩, let ⟨mc, h1, h2⟩ := hlim; ⟨mc, nsB h1, h2⟩⟩
  have tabs : ∀ p ∈ cs, LamX.TabB (hidT s₁.heap H) mg p.1 p.2 := fun p hp => by
    have atP := hT p hp
    refine ⟨?_, ?_, fun z => ?_⟩
    · obtain ⟨o, us, file, tf, flags, tg, inF, text, tt, e1, r1, r2, r3, r4, r5, r6, r7, r8, hne⟩ := C p hp
      have out : H p.1 = none := free e1 (fun us' n z => by rw [r2] at z; cases z) fun z => by
        rw [r2] at z
        cases z
        simp at r3
      exact ⟨o, us, file, tf, flags, tg, inF, text, tt, hidT_get e1 out, r1, r2, r3, r4, r5, r6, r7, r8, hne⟩
    · obtain ⟨bm, ob, b1, b2, b3, b4, b5, b6⟩ := hbm
      have out : H bm = none := free b3 (fun us n z => by rw [b6] at z; cases z) fun z => by rw [b6] at z; cases z
      refine ⟨bm, ob, b1, b2, fun z => ?_, fun z => ?_, hidT_get b3 out, b4, b5, b6⟩
      · obtain ⟨o, es, ep, e, hd, _⟩ := hns
        rw [z] at b3
        have z2 := e.symm.trans b3
        cases z2
        rw [hd] at b6
        cases b6
      · rw [z] at b3
        have z2 := atP.symm.trans b3
        cases z2
        cases b6
    · obtain ⟨o, es, ep, e, hd, _⟩ := hns
      rw [z] at e
      have z2 := atP.symm.trans e
      cases z2
      cases hd
  have e0 : Env0 P w K mg (hidT s₁.heap H) callerA [] s₁ H := ⟨rfl, mod, fun b o e => of_hidT e, Nat.le_of_eq (hidT_size _ _), trivial, fun b z => absurd (show b ∈ ([] : List Addr) from z) (by simp), hok, .of_eq hgen⟩
  refine codeAny_mono ((F _ inB (nsB hns) tabs).go [] s₁ H ⟨[.ref a], []⟩ [.ref a] [.ref a] _ _ e0 (hbind s₁ (.ref a)) (.cons rfl .nil) (hsp H htab sq)) fun r s' h => ?_
  cases r with
  | error e => exact (hCX H e s' h).elim
  | ok fl =>
    cases fl with
    | next => exact h.elim
    | brk => exact h.elim
    | cont => exact h.elim
    | ret u =>
      obtain ⟨v, H', os, bare, un, hok', rv, q⟩ := h
      have q' : v = .bl true := q
      subst q'
      obtain rfl : u = Value.bool true := rv
      have old : ∀ b o, b ∉ cs.map (·.2) → s₁.heap.get? b = some o → s'.heap.get? b = some o := fun b o nb e => by
        rcases hcase b with h | h | ⟨rfl, _, _, h4⟩
        · exact un.keep b o e h (by intro z; exact absurd (show b ∈ ([] : List Addr) from z) (by simp)) (by simp)
        · exact absurd h nb
        · obtain ⟨e2, _⟩ := hok' b _ (un.frzs b _ _ h4)
          have z := e.symm.trans ha
          cases z
          exact e2
      have more : ∀ p ∈ cs, ∃ us : Array Value, s'.heap.get? p.2 = some { cls := .none, data := .fields us } := fun p hp => by
        obtain ⟨us, z⟩ := un.tbls p.2 #[] (htab p hp)
        exact ⟨_, hok' p.2 _ z⟩
      refine ⟨rfl, ⟨fun b o e => ?_, fun b o e => ?_⟩, os, bare⟩
      · by_cases z : b ∈ cs.map (·.2)
        · obtain ⟨p, hp, rfl⟩ := List.mem_map.mp z
          obtain ⟨us, hm⟩ := more p hp
          have z2 := e.symm.trans (hT p hp)
          cases z2
          exact .inr (.inl ⟨((C p hp).tab (hT p hp)).isCodeTable, rfl, #[], us, rfl, by rw [Array.empty_append]; exact hm⟩)
        · exact .inl (old b o z e)
      · by_cases z : b ∈ cs.map (·.2)
        · obtain ⟨p, hp, rfl⟩ := List.mem_map.mp z
          obtain ⟨us, hm⟩ := more p hp
          exact ⟨_, hm⟩
        · exact ⟨o, old b o z e⟩
end
/-- what is to be shown of the law at the head's heap h -/
def LawG (l : PySem.W.OpenLaw) (w : World) (K : PySem.W.Frag) (CX : CXT) (n : Nat) (x : Str) (mg : Str → Option Value) (fa : Addr) (h : Heap) : Prop :=
  ∃ (fd : FuncData) (cs : List (Addr × Addr)) (sp : Sp), (∀ p ∈ cs, h.get? p.2 = some { cls := .none, data := .fields #[] }) ∧ (∀ p ∈ cs, K.lookup p.2 = none) ∧ (∀ p ∈ cs, PySem.W.CodeHd h p.1 p.2) ∧ (∀ (s : Shared) (u : Value), BindsTo s fd ⟨[u], []⟩ [(x, u)]) ∧
    (∀ (H : Hp) (a : Addr) (ns : List Int), ns.length ≤ n → (∀ z ∈ ns, Builtin.Int.intBits z ≤ 1048576) → (∀ p ∈ cs, H p.2 = some (.tbl #[])) → SqL K H a (ns.map V.int) → sp [.ref a] H (fun v _ => v = .bl true) fun _ _ _ => False) ∧
    ∀ base : Heap, K.In base → base.Ns mainGlobals mg → (∀ p ∈ cs, LamX.TabB base mg p.1 p.2) → FnA l.prog w K mg base CX callerA fa fd [x] sp
theorem walk_G {l : PySem.W.OpenLaw} {n : Nat} {q : Program} {loose : List Str} {XP : (Str → Option Value) → Heap → Prop} {YP : World → Heap → Prop} {d : DefRec} {K : Params → PySem.W.Frag} {CX : World → CXT} {x : Str}
    (hn : l.most = some n) (hn2 : n ≤ sizeLine) (hdf : d.params.defaults = []) (hY : ∀ (w : World) (h : Heap), YP w h → (K w.params).In h)
    (F : ∀ (w : World) (mg : Str → Option Value) (fa : Addr) (h : Heap), YP w h → (K w.params).In h → h.Ns mainGlobals mg → mg d.name = some (.ref fa) → LawG l w (K w.params) (CX w) n x mg fa h)
    (hCX : ∀ (w : World) (H : Hp) (s : Shared) (e : Value) (s' : Shared), CX w [] H s (fun _ _ _ => False) e s' → False) :
    PySem.W.WalkO q loose XP YP l.row.toRowW d [] (fun f vs => PySem.call f vs) := by
  refine Att.attach_callB hn hdf fun w s₀ s₁ mg mb fa o pm cd doc a vs ns G Y ho hd hcd hmg hobj hints hlen hbits hg => ?_
  have KX := hY w _ Y
  obtain ⟨fd, cs, sp, h1, h2, h3, h4, h5, h6⟩ := F w mg fa _ Y KX G.T.g hmg
  exact law_go KX G.T.g G.T.b G.T.builtins G.T.nolimit hg h1 h2 h3 G.T.bmain hobj hints (Nat.le_trans hlen hn2) h6 h4 (fun H hH hS => h5 H a ns hlen hbits hH hS) fun H e s' => hCX w H s₁ e s'
end MT

set_option maxRecDepth 100000
/-! MtSet: sorted(set(xs)), texts. -/
namespace MT
open PySem PySem.Spec PyProof.Rows L2 Froz
section
variable {P : Program} {w : World} {A : Around} {E : Value → Shared → Prop} {s : Shared}
/-- at a: a set that holds the texts l -/
def TxR (P : Program) (w : World) (h : Heap) (a : Addr) (l : List Str) : Prop :=
  ∃ D : SD, h.get? a = some (sObj "set" D) ∧ TxOk P w D l ∧ Ris D.2.2.place.toList ∧ (w.params.followText "set-order" = true ∨ D.2.2.led = true)
theorem tail_ris {ep : Nat} {es1 : Array (Int × Value)} {t2 : SetTable} {wd : Bool} (r : Ris t2.place.toList) : Ris (tailTx ep es1 t2 wd).2.2.place.toList := by
  unfold tailTx
  split
  · exact relayAll_ris t2 es1 _
  · exact r
theorem tail_led {ep : Nat} {es1 : Array (Int × Value)} {t2 : SetTable} {wd : Bool} : (tailTx ep es1 t2 wd).2.2.led = t2.led := by
  unfold tailTx
  split
  · exact relayAll_led t2 es1 _
  · rfl
theorem add_ris {h : Int} {v : Value} {D : SD} (r : Ris D.2.2.place.toList) : Ris (addTx h v D).2.2.place.toList := by
  unfold addTx
  refine tail_ris ?_
  have r1 := layNew_ris D.2.2 D.1 h v r
  split
  · exact r1
  · exact r1
theorem add_led {h : Int} {v : Value} {D : SD} : (addTx h v D).2.2.led = D.2.2.led := by
  unfold addTx
  rw [tail_led]
  have r1 := layNew_led D.2.2 D.1 h v
  split
  · exact r1
  · exact r1
theorem tx_add {a : Addr} {l : List Str} {k : Str} {u : Tok} {Q : Bool → Shared → Prop} (R : TxR P w s.heap a l) (hb : l.length + 1 < scanBound)
    (hQ : ∀ b h', Heap.SameBut a s.heap h' → TxR P w h' a (if k ∈ l then l else k :: l) → Q b { s with heap := h' }) : wpAny (model P w) A (setAddHashed a (.str k u) (hashStr w k)) Q E s := by
  obtain ⟨D, ho, F, r, led⟩ := R
  by_cases hk : k ∈ l
  · rw [if_pos hk] at hQ
    obtain ⟨es, ep, t⟩ := D
    have hd : (sObj "set" (es, ep, t)).data = .set es ep t := rfl
    have hf : t.fits es.size = true := F.fit
    have hel : ElemsOf (strKind P w) es.toList := F.el
    have hsz : es.size = l.length := F.sz
    unfold setAddHashed setAddHashedIn
    refine wpAny_holding (wpAny_bind (wpAny_setState_of ho hd hf ?_))
    dsimp only
    rw [byScan_of rfl (by omega) hel]
    simp only [↓reduceIte]
    unfold setAddByScan
    refine wpAny_bind ?_
    refine wpAny_bind (wpAny_rule ?_)
    refine wpAny_bind (wpAny_setScan_of (Froz.is_str k u) ho hd hf hel ?_)
    cases hfi : List.findIdx? (fun e => (strKind P w).is k e.2) es.toList with
    | some j =>
      dsimp only
      exact wpAny_pure (wpAny_pure (hQ _ s.heap (Heap.SameBut.refl a s.heap) ⟨(es, ep, t), ho, F, r, led⟩))
    | none =>
      obtain ⟨e, he, z⟩ := (F.mem k).mp hk
      have c := List.findIdx?_eq_none_iff.mp hfi e he
      rw [z] at c
      cases c
  · rw [if_neg hk] at hQ
    refine add_x ho F hk hb (hQ true _ (Heap.SameBut.update s.heap a _) ⟨_, get_upd _ ho rfl, add_ok u F, add_ris r, led.imp id fun z => by rw [add_led]; exact z⟩)
theorem TxR.at {h h' : Heap} {a : Addr} {l : List Str} (R : TxR P w h a l) (k : ∀ o, h.get? a = some o → h'.get? a = some o) : TxR P w h' a l := by
  obtain ⟨D, ho, r⟩ := R
  exact ⟨D, k _ ho, r⟩
/-- the texts met so far -/
structure Met (ks : List Str) (i : Nat) (l : List Str) : Prop where
  nd : l.Nodup
  mem : ∀ x, x ∈ l ↔ x ∈ ks.take i
theorem Met.few {ks : List Str} {i : Nat} {l : List Str} (m : Met ks i l) : l.length ≤ ks.length := by
  have h : ∀ (n : Nat) (l' q : List Str), l'.length = n → l'.Nodup → (∀ x ∈ l', x ∈ q) → l'.length ≤ q.length := by
    intro n
    induction n with
    | zero => intro l' q e _ _; omega
    | succ n ih =>
      intro l' q e nd hs
      cases l' with
      | nil => simp at e
      | cons x r =>
        have nd' := List.nodup_cons.mp nd
        have hx : x ∈ q := hs x List.mem_cons_self
        have q1 := ih r (q.erase x) (by simpa using e) nd'.2 fun y hy => (List.mem_erase_of_ne (fun z : y = x => nd'.1 (by rw [← z]; exact hy))).mpr (hs y (List.mem_cons_of_mem _ hy))
        rw [List.length_erase_of_mem hx] at q1
        have := List.length_pos_of_mem hx
        rw [List.length_cons]
        omega
  exact h _ l ks rfl m.nd fun x hx => List.mem_of_mem_take ((m.mem x).mp hx)
theorem Met.step {ks : List Str} {i : Nat} {l : List Str} {k : Str} (m : Met ks i l) (e : ks[i]? = some k) : Met ks (i + 1) (if k ∈ l then l else k :: l) := by
  have et : ks.take (i + 1) = ks.take i ++ [k] := by rw [List.take_add_one, e]; rfl
  by_cases h : k ∈ l
  · rw [if_pos h]
    refine ⟨m.nd, fun x => ?_⟩
    rw [et, List.mem_append, List.mem_singleton, ← m.mem x]
    exact ⟨.inl, fun z => z.elim id fun z => z ▸ h⟩
  · rw [if_neg h]
    refine ⟨List.nodup_cons.mpr ⟨h, m.nd⟩, fun x => ?_⟩
    rw [et, List.mem_append, List.mem_singleton, List.mem_cons, ← m.mem x]
    exact Or.comm
theorem tx_loop {I : Addr} {fp wr : List Addr} {G : Array GenState → Array GenState → Prop} {n : Nat} {Pv : Nat → Value → Prop} {St : Nat → Shared → Prop} {R : Result → Shared → Prop} (W : WalksS P w A.in1 I fp wr G n Pv St) (c : Addr) (hc : c ∉ fp) (ks : List Str) (hn : n = ks.length) (hfew : ks.length + 1 < scanBound)
    (hval : ∀ i v, Pv i v → ∃ k t, ks[i]? = some k ∧ v = .str k t) : ∀ (m i : Nat) (st : Shared), n - i = m → i ≤ n → St i st → (∃ l, TxR P w st.heap c l ∧ Met ks i l) →
      (∀ st' l, Moved (c :: wr) G st st' → TxR P w st'.heap c l → Met ks n l → R (.ok (.ret .none)) st') → codeAny (model P w) A (.builtin "set.update.loop" ⟨[.ref c, .ref I], []⟩) R st := by
  have hcw : c ∉ wr := fun z => hc (W.sub _ z)
  have up : ∀ b ∈ wr, b ∈ c :: wr := fun b z => List.mem_cons_of_mem _ z
  intro m
  induction m with
  | zero =>
    intro i st hm hi hst ⟨l, hl, g⟩ hR
    obtain rfl : i = n := by omega
    refine codeAny_builtin F.entry_set_update_loop ?_
    rw [Around.under_plainId F.plain_set_update_loop _]
    show wpAny _ A.in1 (pyNext (.ref I) >>= _) _ _ st
    refine wpAny_bind (W.done st _ _ hst fun st' mv => ?_)
    exact wpAny_pure (hR st' l (mv.mono up) (hl.at fun o e => mv.heap c o hcw e) g)
  | succ m ih =>
    intro i st hm hi hst ⟨l, hl, g⟩ hR
    have lt : i < n := by omega
    refine codeAny_builtin F.entry_set_update_loop ?_
    rw [Around.under_plainId F.plain_set_update_loop _]
    show wpAny _ A.in1 (pyNext (.ref I) >>= _) _ _ st
    refine wpAny_bind (W.item i st _ _ lt hst fun v st' pv hst' mv => ?_)
    obtain ⟨k, t, ek, rfl⟩ := hval i v pv
    have hl' : TxR P w st'.heap c l := hl.at fun o e => mv.heap c o hcw e
    show wpAny _ A.in1 (holding [Value.str k t] (setAdd c (.str k t)) >>= _) _ _ st'
    refine wpAny_bind (wpAny_holding ?_)
    unfold setAdd
    refine wpAny_holding ?_
    refine wpAny_bind ((strKind P w).pyHash (k := k) (Froz.is_str k t) ?_)
    refine tx_add (s := { st' with toks := st'.toks + 1 }) hl' (by have := g.few; omega) fun b h' sb hl2 => ?_
    refine wpAny_pure ⟨plainId_quiet F.plain_set_update_loop _, ih (i + 1) _ (by omega) lt (W.frame _ st' _ _ hst' (Nat.le_add_right _ _) fun b' z o e => ?_) ⟨_, hl2, g.step ek⟩ fun st2 l2 mv2 hl3 g3 => ?_⟩
    · rw [sb.2 b' (fun z2 : b' = c => hc (by rw [← z2]; exact z))]; exact e
    · refine hR st2 l2 (Moved.trans W.gtrans ((mv.mono up).then_heap (Nat.le_add_right _ _) fun b' o z e => ?_) mv2) hl3 g3
      rw [sb.2 b' (fun z2 : b' = c => z (by rw [z2]; exact List.mem_cons_self))]; exact e
end
end MT

set_option maxRecDepth 100000
/-! MtSet2: set(xs) of texts. -/
namespace MT
open PySem PySem.Spec PyProof.Rows L2 Froz
section
variable {P : Program} {w : World} {A : Around} {E : Value → Shared → Prop} {s : Shared}
theorem strs_item {us : List Value} {xs : List Str} (h : StrsAre us xs) : ∀ (i : Nat) (v : Value), us[i]? = some v → ∃ k t, xs[i]? = some k ∧ v = .str k t := by
  induction h with
  | nil => intro i v e; simp at e
  | cons y t r ih =>
    intro i v e
    cases i with
    | zero => simp at e; subst e; exact ⟨_, _, rfl, rfl⟩
    | succ i => simpa using ih i v (by simpa using e)
abbrev newSet (w : World) : Obj := { cls := .type "set", dict := none, data := .set #[] 0 (.fresh 0 0 (!w.params.followText "set-order")) }
theorem tx_fresh {h : Heap} {c : Addr} (ho : h.get? c = some (newSet w)) : TxR P w h c [] := by
  refine ⟨(#[], 0, .fresh 0 0 (!w.params.followText "set-order")), ho, TxOk.nil rfl, List.Pairwise.nil, ?_⟩
  show _ ∨ (!w.params.followText "set-order") = true
  cases w.params.followText "set-order"
  · exact .inr rfl
  · exact .inl rfl
set_option maxRecDepth 100000 in
set_option maxHeartbeats 3200000 in
/-- set(xs), xs a list of texts -/
theorem set_texts {lp : Addr} {its : Array Value} (ks : List Str) {Q : Value → Shared → Prop} (hh : A.handled = none) (hl : s.heap.IsList lp its) (hit : StrsAre its.toList ks) (hfew : ks.length + 1 < scanBound)
    (hQ : ∀ (h' : Heap) (tk : Nat) l, TxR P w h' s.heap.objs.size l → Met ks ks.length l → (∀ b o, s.heap.get? b = some o → h'.get? b = some o) → Q (.ref s.heap.objs.size) { s with heap := h', toks := tk }) :
    wpAny (model P w) A (call (.type "set") [.ref lp]) Q E s := by
  have size : its.size = ks.length := by
    have z := hit.length
    rw [Array.length_toList] at z
    omega
  obtain ⟨cc, tl, hmro⟩ := F.called_set.mro
  have hmade := F.called_set.made
  have hsub := F.called_set.sub
  refine wpAny_call (codeAny_of_tree ?_)
  show wpAny _ _ (callAny (.type "set") _) _ _ _
  refine wpAny_pure ⟨Code.quiet_builtin _ (by decide +kernel), codeAny_builtin F.entry_type_call ?_⟩
  rw [Around.under_plain (weight_type_call_type "set" [.ref lp] []) rfl]
  have h1 := F.called_set.notType
  have h2 := F.called_set.canCreate
  have hct := F.typeCall_set_1 (.ref lp)
  repeat (any_goals (first | assumption | wp_step))
  refine codeAny_mono (code_set_led1 (.ref lp) (E := E) (Q₁ := fun ob st => ob = .ref s.heap.objs.size ∧ st = { s with heap := s.heap.push (newSet w) }) ⟨rfl, rfl⟩) fun r st hr => ?_
  cases r with
  | error e => exact hr
  | ok fl =>
    cases fl with
    | ret ob =>
      obtain ⟨rfl, rfl⟩ := hr
      have atC : (s.heap.push (newSet w)).get? s.heap.objs.size = some (newSet w) := Heap.get?_push_size _ rfl
      have tyC : Shared.TypeIs { s with heap := s.heap.push (newSet w) } (.ref s.heap.objs.size) "set" := ⟨_, atC, rfl⟩
      have hli := F.called_set.init.lookup
      have hbi := F.called_set.init.bind (.ref s.heap.objs.size)
      repeat (any_goals (first | assumption | wp_step))
      refine codeAny_mono (codeAny_call_builtin (R := wants (fun r st2 => r = .none ∧ ∃ h' tk l, st2 = { s with heap := h', toks := tk } ∧ TxR P w h' s.heap.objs.size l ∧ Met ks ks.length l ∧ ∀ b o, s.heap.get? b = some o → h'.get? b = some o) E) F.called_set.init.plain F.entry_set_init (check_set_init_1 tyC ?_)) fun r2 st2 hr2 => ?_
      · obtain ⟨ol, hol, hcl, nl, hdl⟩ := hl
        obtain ⟨ocls, odict, odata, oslots⟩ := ol
        simp only at hcl hdl
        subst hcl; subst hdl
        have listC : (s.heap.push (newSet w)).IsList lp its := ⟨_, Heap.get?_push_of_some _ hol, rfl, nl, rfl⟩
        have atL : (s.heap.push (newSet w)).get? lp = some { cls := .type "list", dict := odict, data := .seq its nl, slots := oslots } := Heap.get?_push_of_some _ hol
        have hsls := F.sub_list_set
        have hslf := F.sub_list_frozenset
        have hne : (Value.type "list" == Value.type "dict") = false := by decide
        unfold Builtin.«set.__init__» noKeywords Builtin.Frozenset.updateFrom
        generalize hPI : pyIter = PI
        wp_walk
        subst hPI
        refine wpAny_pyIter_list listC ?_
        refine wpAny_bind (wpAny_runValue ?_)
        have lt : lp < s.heap.objs.size := Heap.lt_size hol
        have handled3 : A.in1.in1.in1.handled = none := by simp [hh]
        have neI : lp ≠ (s.heap.push (newSet w)).objs.size := by rw [Heap.size_push]; exact Nat.ne_of_lt (Nat.lt_succ_of_lt lt)
        have outC : s.heap.objs.size ∉ [(s.heap.push (newSet w)).objs.size, lp] := by
          rw [Heap.size_push]; simp only [List.mem_cons, List.mem_singleton, List.not_mem_nil, or_false, not_or]
          exact ⟨Nat.ne_of_lt (Nat.lt_succ_self _), Nat.ne_of_gt lt⟩
        have vals : ∀ (i : Nat) (v : Value), its[i]? = some v → ∃ k t, ks[i]? = some k ∧ v = .str k t := fun i v hv =>
          strs_item hit i v (by rw [Array.getElem?_toList]; exact hv)
        refine tx_loop ((Walks.list handled3 _ lp neI its).toS) s.heap.objs.size outC ks size hfew vals (its.size - 0) 0 _ (by omega) (Nat.zero_le _) ⟨⟨_, Heap.get?_push_size _ rfl, rfl, rfl⟩, (listC.push _)⟩ ⟨[], tx_fresh (Heap.get?_push_of_some _ atC), ⟨List.nodup_nil, fun x => by simp⟩⟩ fun st3 l mv hl3 g3 => ?_
        obtain ⟨h', g2, d', tk', os'⟩ := st3
        have eg : g2 = s.gens := mv.gens
        have ed : d' = s.drawn := mv.drawn
        have eo : os' = s.os := mv.os
        subst eg; subst ed; subst eo
        show wpAny _ _ _ _ _ _
        refine wpAny_pure ?_
        show wpAny _ _ (ret Value.none) _ _ _
        rw [size] at g3
        refine wpAny_pure ⟨rfl, h', tk', l, rfl, hl3, g3, fun b o e => ?_⟩
        have hb := Heap.lt_size e
        refine mv.heap b o ?_ (Heap.get?_push_of_some _ (Heap.get?_push_of_some _ e))
        rw [Heap.size_push]
        simp only [List.mem_cons, List.mem_singleton, List.not_mem_nil, or_false, not_or]
        exact ⟨Nat.ne_of_lt hb, Nat.ne_of_lt (Nat.lt_succ_of_lt hb)⟩
      · cases r2 with
        | error e => exact hr2
        | ok fl2 =>
          cases fl2 with
          | ret r =>
            obtain ⟨rfl, h', tk, l, rfl, hl3, g3, hk⟩ := hr2
            repeat (any_goals (first | assumption | wp_step))
            exact hQ _ _ _ hl3 g3 hk
          | _ => exact hr2.elim
    | _ => exact hr.elim
end
end MT

set_option maxRecDepth 100000
/-! MtSos: sorted(set(e)) of texts, as one expression. -/
namespace MT
open PySem PySem.Spec PyProof.Rows L2 Froz
/-! ### one sorted list only -/
def leS (a b : Str) : Prop := ¬ b.cps.toList < a.cps.toList
theorem leS.trans {a b c : Str} (h : leS a b) (h' : leS b c) : leS a c := fun z => by
  have h1 := List.not_lt.mp h
  have h2 := List.not_lt.mp h'
  exact List.not_lt.mpr (List.le_trans h1 h2) z
theorem leS.anti {a b : Str} (h : leS a b) (h' : leS b a) : a = b := by
  have e := List.le_antisymm (List.not_lt.mp h) (List.not_lt.mp h')
  cases a; cases b
  simp only at e
  congr 1
  exact Array.toList_inj.mp e
theorem rising_le : ∀ (l : List Str) (p : Str), risingS p l = true → (∀ x ∈ l, leS p x) ∧ l.Pairwise leS
  | [], _, _ => ⟨fun _ z => (nomatch z), .nil⟩
  | x :: r, p, h => by
    simp only [risingS, Bool.and_eq_true, Bool.not_eq_true'] at h
    obtain ⟨h1, h2⟩ := h
    obtain ⟨a, b⟩ := rising_le r x h2
    rw [ltCps_eq] at h1
    have h3 : leS p x := by simpa [leS] using h1
    refine ⟨fun y hy => ?_, List.pairwise_cons.mpr ⟨a, b⟩⟩
    rcases List.mem_cons.mp hy with z | z
    · rw [z]; exact h3
    · exact h3.trans (a y z)
theorem sorted_le {l : List Str} (h : sortedS l = true) : l.Pairwise leS := by
  cases l with
  | nil => exact .nil
  | cons x r => exact List.pairwise_cons.mpr (rising_le r x h)
theorem sorted_one : ∀ {l l' : List Str}, l.Pairwise leS → l'.Pairwise leS → l.Perm l' → l = l'
  | [], l', _, _, p => (List.Perm.nil_eq p)
  | x :: r, [], _, _, p => absurd p.length_eq (by simp)
  | x :: r, y :: s, h, h', p => by
    have hx : x ∈ y :: s := p.mem_iff.mp List.mem_cons_self
    have hy : y ∈ x :: r := p.mem_iff.mpr List.mem_cons_self
    have e : x = y := by
      rcases List.mem_cons.mp hx with z | z
      · exact z
      · rcases List.mem_cons.mp hy with z' | z'
        · exact z'.symm
        · exact ((List.pairwise_cons.mp h).1 _ z').anti ((List.pairwise_cons.mp h').1 _ z)
    subst e
    rw [sorted_one (List.pairwise_cons.mp h).2 (List.pairwise_cons.mp h').2 (List.Perm.cons_inv p)]
theorem perm_of {l : List Str} : ∀ {ks : List Str}, l.Nodup → (∀ x ∈ l, x ∈ ks) → ks.length = l.length → ks.Perm l := by
  induction l with
  | nil => intro ks _ _ h; rw [List.length_eq_zero_iff.mp h]
  | cons x r ih =>
    intro ks nd hs h
    have hx : x ∈ ks := hs x List.mem_cons_self
    have nd' := List.nodup_cons.mp nd
    refine (List.perm_cons_erase hx).trans (.cons x (ih nd'.2 (fun y hy => (List.mem_erase_of_ne (fun z : y = x => nd'.1 (by rw [← z]; exact hy))).mpr (hs y (List.mem_cons_of_mem _ hy))) ?_))
    rw [List.length_erase_of_mem hx, h]
    simp
/-- what sorted(set(xs)) is -/
def IsSos (xs ys : List Str) : Prop := ys.Nodup ∧ (∀ x, x ∈ ys ↔ x ∈ xs) ∧ ys.Pairwise leS
theorem IsSos.one {xs ys ys' : List Str} (h : IsSos xs ys) (h' : IsSos xs ys') : ys = ys' := by
  refine sorted_one h.2.2 h'.2.2 (perm_of h'.1 (fun x hx => (h.2.1 x).mpr ((h'.2.1 x).mp hx)) ?_)
  have f : ∀ {a b : List Str}, a.Nodup → (∀ x ∈ a, x ∈ b) → a.length ≤ b.length := by
    intro a
    induction a with
    | nil => intro b _ _; simp
    | cons x r ih =>
      intro b nd hs
      have nd' := List.nodup_cons.mp nd
      have hx := hs x List.mem_cons_self
      have q := ih (b := b.erase x) nd'.2 fun y hy => (List.mem_erase_of_ne (fun z : y = x => nd'.1 (by rw [← z]; exact hy))).mpr (hs y (List.mem_cons_of_mem _ hy))
      rw [List.length_erase_of_mem hx] at q
      have := List.length_pos_of_mem hx
      rw [List.length_cons]
      omega
  exact Nat.le_antisymm (f h.1 fun x hx => (h'.2.1 x).mpr ((h.2.1 x).mp hx)) (f h'.1 fun x hx => (h.2.1 x).mpr ((h'.2.1 x).mp hx))
open Classical in
noncomputable def sosT (xs : List Str) : List Str := if h : ∃ ys, IsSos xs ys then h.choose else []
theorem sosT_eq {xs ys : List Str} (h : IsSos xs ys) : sosT xs = ys := by
  have hh : ∃ ys, IsSos xs ys := ⟨ys, h⟩
  unfold sosT
  rw [dif_pos hh]
  exact hh.choose_spec.one h
theorem sosT_mem {xs : List Str} {y : Str} (h : y ∈ sosT xs) : y ∈ xs := by
  unfold sosT at h
  split at h
  · rename_i e
    exact (e.choose_spec.2.1 y).mp h
  · cases h
/-- texts only -/
def strsD : List D → Option (List Str)
  | [] => some []
  | .str l :: ds => (strsD ds).map (txt l :: ·)
  | _ => none
theorem strsD_rep {Γ : Gam} {F : Hp} {ι : List Addr} : ∀ {ds : List D} {xs : List V} {ls : List Str}, RepL Γ F ι ds xs → strsD ds = some ls → xs = ls.map V.str
  | [], xs, ls, r, e => by
    simp only [RepL] at r
    simp only [strsD, Option.some.injEq] at e
    subst r; subst e; rfl
  | d :: ds, xs, ls, r, e => by
    simp only [RepL] at r
    obtain ⟨x, r', rfl, h1, h2⟩ := r
    cases d <;> simp only [strsD] at e <;> try cases e
    rename_i l
    simp only [Option.map_eq_some_iff] at e
    obtain ⟨l', e1, rfl⟩ := e
    simp only [Rep] at h1
    subst h1
    rw [strsD_rep h2 e1]
    rfl
theorem rep_strs {Γ : Gam} {F : Hp} {ι : List Addr} : ∀ (ls : List Str), RepL Γ F ι (ls.map fun x => .str x.cps.toList) (ls.map V.str)
  | [] => .nil
  | x :: ls => .cons (by simp only [Rep]) (rep_strs ls)
noncomputable def gSoS (M : Mem) : List D → Option D
  | [d] => match d with
    | .lst ds => (strsD ds).bind fun ls => if ls.length < 63 then some (.lst ((sosT ls).map fun x => .str x.cps.toList)) else none
    | _ => none
  | _ => none
section
variable {X : Cx} {Γ : Gam} {W : WX} {pos : Pos}
def TxHO (P : Program) (w : World) (a : Addr) (l : List Str) : HO := .ext fun h => TxR P w h a l
theorem cal_setT (hc : X.calm = true) : CallR X (.type "set") (fun xs H Q => ∃ a ls, xs = [.ref a] ∧ SqL X.K H a (ls.map V.str) ∧ ls.length < 63 ∧
    ∀ p l, Met ls ls.length l → H p = none → Q (.ref p) (upd H p (TxHO X.prog X.w p l))) := by
  intro pins s σ H xs us Q I r ⟨a, ls, ex, sq, hz, q⟩
  subst ex
  rw [Vals.ref1 r]
  obtain ⟨its, rv, pl, _⟩ := I.list sq
  refine set_texts (its := its.toArray) ls (I.ok.hd hc) pl.isList (strs_of_vals rv) (by unfold scanBound; omega) fun h' tk l R m k => ⟨.ref s.heap.objs.size, upd H s.heap.objs.size (TxHO X.prog X.w s.heap.objs.size l), I.laid (t' := tk) (fun b u e => k b u e) (Nat.le_refl _) ?_, rfl, q _ l m (I.hok.fresh (Nat.le_refl _))⟩
  exact ⟨R, ⟨_, R.choose_spec.1⟩, fun h1 h2 R1 k2 => R1.at k2⟩
theorem cal_sortT (hc : X.calm = true) : CallR X (.builtin "sorted") (fun xs H Q => ∃ a l, xs = [.ref a] ∧ H a = some (TxHO X.prog X.w a l) ∧ l.length < 64 ∧ l.Nodup ∧
    ∀ ys p, ys.Perm l → sortedS ys = true → H p = none → Q (.ref p) (upd H p (.lst (ys.map V.str)))) := by
  intro pins s σ H xs us Q I r ⟨a, l, ex, hH, h64, nd, q⟩
  subst ex
  rw [Vals.ref1 r]
  have x : ObjOk X.prog X.w H s.heap a (.ext fun h => TxR X.prog X.w h a l) := I.hok a _ hH
  obtain ⟨⟨D, ho, T, ris, led⟩, _⟩ := x
  refine Calls.call_function_entry PyProof.Rows.kind_sorted PyProof.Rows.plain_sorted PyProof.Rows.entry_sorted (PyProof.Rows.args_sorted1 _) ?_
  unfold Builtin.«sorted»
  refine wpAny_bind (m := checkCount "sorted" 1 1 _) (wpAny_pure ?_)
  refine wpAny_bind (collect_set (A := X.A.in1) (I.ok.hd hc) ⟨_, ho, rfl, rfl⟩ T.fit (by rw [T.sz]; unfold scanBound; omega) ris led fun s' out kp hz hg hos pm => ?_)
  have hlen : out.length = l.length := by
    rw [pm.length_eq, List.length_map, Array.length_toList, T.sz]
  have ev : ∀ v ∈ out, ∃ k t, v = .str k t := fun v hv => by
    obtain ⟨e, he, rfl⟩ := List.mem_map.mp (pm.mem_iff.mp hv)
    obtain ⟨⟨k, hk, _⟩, _⟩ := T.el e he
    obtain ⟨t, e2⟩ := Value.isStrOf_shape (x := k) (v := e.2) hk
    exact ⟨k, t, e2⟩
  obtain ⟨ks, hS⟩ : ∃ ks, StrsAre out ks := by
    clear pm hlen
    induction out with
    | nil => exact ⟨[], .nil⟩
    | cons v r ih =>
      obtain ⟨ks, hk⟩ := ih fun u hu => ev u (List.mem_cons_of_mem _ hu)
      obtain ⟨k, t, rfl⟩ := ev v List.mem_cons_self
      exact ⟨k :: ks, .cons k t hk⟩
  have mem_strs : ∀ {us : List Value} {xs : List Str}, StrsAre us xs → ∀ k t, Value.str k t ∈ us → k ∈ xs := by
    intro us xs h
    induction h with
    | nil => intro k t z; cases z
    | cons y u r ih =>
      intro k t z
      rcases List.mem_cons.mp z with z | z
      · cases z; exact List.mem_cons_self
      · exact List.mem_cons_of_mem _ (ih k t z)
  have kl : ks.length = l.length := by
    have := hS.length
    omega
  have kp2 : ks.Perm l := perm_of nd (fun k hk => by
    obtain ⟨e, he, z⟩ := (T.mem k).mp hk
    obtain ⟨t, e2⟩ := Value.isStrOf_shape (x := k) (v := e.2) z
    exact mem_strs hS k t (by rw [← e2]; exact pm.mem_iff.mpr (List.mem_map.mpr ⟨e, he, rfl⟩))) kl
  have I1 : Inv X pins σ H s' := by
    have J := I.kept (h' := s'.heap) (t' := s'.toks) kp
    obtain ⟨h', g', d', t', os'⟩ := s'
    simp only at hg hos
    subst hg; subst hos
    exact ⟨J.ok, J.os, J.bare, J.base, J.loc, J.cell, J.free, J.freeC, J.pin, J.hok, J.len⟩
  refine wpAny_bind (wpAny_newList ?_ (by rw [hlen, sizeLine_eq]; omega))
  have hoL : (s'.heap.push (seqObj "list" out.toArray 0)).get? s'.heap.objs.size = some (seqObj "list" out.toArray 0) := Heap.get?_push_size _ rfl
  show wpAny _ _ _ _ _ { s' with heap := s'.heap.push (seqObj "list" out.toArray 0) }
  refine wpAny_bind (wpAny_holding (wpAny_call_entry PyProof.Rows.slot_list_sort ⟨_, hoL, rfl⟩ PyProof.Rows.entry_list_sort
    (list_sort_treeK strKind_oneLt (s := { s' with heap := s'.heap.push (seqObj "list" out.toArray 0) }) hoL hS.keysOf (fun v₁ v₂ rest e => keyKind_strs (by rw [← e]; exact hS)) (by rw [hlen]; exact h64) fun st' hp hs => ⟨_, rfl, ?_⟩)
    (PyProof.Rows.args_list_sort _)))
  obtain ⟨ys, g1, g2, g3⟩ := sorted_out_str hS hp hs
  obtain ⟨e', he'⟩ := PyProof.Rows.sortedHeap_at (vs := out) (out := (arrOf st').map (·.2)) hoL
  have hys : (ys.map V.str).length ≤ sizeLine := by
    rw [List.length_map, g2.length_eq, kl]
    exact Nat.le_trans (Nat.le_of_lt h64) (by decide)
  refine wpAny_pure ⟨_, rfl, .ref s'.heap.objs.size, upd H s'.heap.objs.size (.lst (ys.map V.str)), I1.laid (t' := s'.toks) (fun b u e => ?_) (Nat.le_refl _)
    (show ObjOk X.prog X.w _ _ _ (.lst (ys.map V.str)) from ⟨hys, ((arrOf st').map (·.2)).toList, e', vals_of_strs g1, by rw [Array.toArray_toList]; exact he'⟩), rfl, q ys _ (g2.trans kp2) g3 (I1.hok.fresh (Nat.le_refl _))⟩
  have hb : b < s'.heap.objs.size := Heap.lt_size e
  rw [PyProof.Rows.sortedHeap_old (Nat.ne_of_lt hb) (by rw [size_push']; exact Nat.lt_succ_of_lt hb)]
  exact Heap.get?_push_of_some _ e
theorem boot_sorted : bootBuiltins "sorted" = some (.builtin "sorted") := by decide +kernel
theorem boot_set : bootBuiltins "set" = some (.type "set") := by decide +kernel
theorem q_sos {e : Expr} {m : DM} {p p1 p2 : Pos} (g : Ok X Γ) (hm : X.mg "sorted" = none) (hm2 : X.mg "set" = none) (ha : DE X Γ W e m) (hc : X.calm = true := by rfl) (hg : Gl X "sorted" := by rfl) (hg2 : Gl X "set" := by rfl)
    (he : starEach [e] X.env = [(false, eval e X.env)] := by rfl) (he2 : starEach [.Call (.Name "set" p) [e] [] p1] X.env = [(false, eval (.Call (.Name "set" p) [e] [] p1) X.env)] := by rfl) :
    DE X Γ W (.Call (.Name "sorted" p2) [.Call (.Name "set" p) [e] [] p1] [] pos) (mB gSoS (aCons m aNil)) := by
  refine PE.imp (pe_callB (cal_sortT hc) hg hm boot_sorted (pa_cons (pe_callTy (cal_setT hc) hg2 hm2 boot_set (da_cons ha da_nil he) (by decide) (by decide) he rfl) pa_nil he2) (by decide) (by decide) he2 rfl) fun σ H Q ⟨F, P, ι, M, σd, n, pp⟩ => ?_
  refine ⟨F, P, ι, M, σd, n, Post.seq pp fun ds M1 vs H1 F1 ι1 er x1 s1 r1 p1 => ?_⟩
  unfold ofOpt at p1
  split at p1
  · rename_i r eg
    unfold gSoS at eg
    split at eg
    · rename_i d
      cases d <;> simp only [reduceCtorEq] at eg
      rename_i ds
      simp only [Option.bind_eq_some_iff] at eg
      obtain ⟨ls, e1, e2⟩ := eg
      split at e2
      · rename_i hz
        cases e2
        simp only [RepL, Rep] at r1
        obtain ⟨v, _, rfl, ⟨a, xs, rfl, hF, rs⟩, rfl⟩ := r1
        have ex := strsD_rep rs e1
        subst ex
        refine ⟨a, ls, rfl, by rw [g.k]; exact SqL.of (s1.fr _ _ hF), hz, fun p l mt hp => ?_⟩
        have hl : l.length ≤ ls.length := mt.few
        refine ⟨p, l, rfl, upd_same, by omega, mt.nd, fun ys q pm so hq => ?_⟩
        have hsos : sosT ls = ys := sosT_eq ⟨pm.nodup_iff.mpr mt.nd, fun x => by rw [pm.mem_iff, mt.mem, List.take_length], sorted_le so⟩
        rw [hsos] at p1
        have s2 := s1.laid hp (TxHO X.prog X.w p l) (fun _ z => by unfold TxHO at z; cases z)
        have s3 := s2.laid hq (.lst (ys.map V.str))
        refine p1 _ _ _ ι1 ?_ s3 ?_
        · exact (ext_upd (s1.freshF hp)).trans (ext_upd (s2.freshF hq))
        · simp only [Rep]
          exact ⟨q, _, rfl, upd_same, rep_strs ys⟩
      · cases e2
    · cases eg
  · exact p1.elim
end
end MT

set_option maxRecDepth 100000
/-! MtLaw: short rules for a law's own def and its lambdas. -/
namespace MT
open PySem PySem.Spec PyProof.Rows L2 LamX
theorem cells_from : ∀ {names : List (Str × NameKind)} {n : Nat} {acc : List (Str × Addr)} {x : Str} {c : Addr}, (x, c) ∈ cellsFrom n names acc → (x, c) ∈ acc ∨ n ≤ c
  | [], _, _, _, _, h => .inl h
  | (m, k) :: r, n, acc, x, c, h => by
    unfold cellsFrom at h
    split at h
    · rcases cells_from h with z | z
      · rcases List.mem_cons.mp z with z | z
        · cases z; exact .inr (Nat.le_refl _)
        · exact .inl z
      · exact .inr (Nat.le_of_succ_le z)
    · exact cells_from h
theorem cells_up {CX : CXT} {P : Program} {w : World} {K : PySem.W.Frag} {mg : Str → Option Value} {base : Heap} {N : List Str} {qual : Str} {sc : Scope} {f : Addr} {cd : Value} {A : Around} {outer : List Env} {s : Shared} {H : Hp} {E : XK} :
    CellsUp (cxOf CX P w K mg base N qual sc f cd A outer s H E) := fun y c e => by
  have h : (y, c) ∈ cellsFrom (s.heap.objs.size + 1) sc.names [] := PySem.mem_of_lookup e
  rcases cells_from h with z | z
  · cases z
  · exact Nat.le_of_succ_le z
section
variable {X : Cx} {Γ : Gam} {W : WX} {pos : Pos} {e : Expr} {m : DM}
theorem q_xfT {fld : Nat → List Str} {f : Str} (okc : Nat → Bool) (g : Ok X Γ) (hf : Γ.fld = fld) (hx : HotX X Γ) (hok : ∀ c, okc c = true → L2.XfC X.K (Γ.cls c) ∧ PySem.W.findIn X.K (.ref (Γ.cls c)) f = some none) (he : DE X Γ W e m) (hb : attributeBase e f X.env (eval e X.env) = eval e X.env := by rfl) :
    DE X Γ W (.Attribute e f pos) (mXfF fld f okc m) := hf ▸ q_xf okc g hx hok he hb
end
/-- lambdas by one default 0, no other parameter -/
theorem lb_one {q : Str} {a : Str} {b : Expr} {sc : Scope} {fr : List Str} {j : Nat} {p0 p1 : Pos} {ps : Arguments} (h : ps = { posonlyargs := [], args := [⟨a, none, p1⟩], vararg := none, kwonlyargs := [], kw_defaults := [], kwarg := none, defaults := [.Constant (.int 0) j p0] }) : LamBinds ⟨q, ps, b, sc, fr, 1⟩ 0 [a] := by
  subst h
  intro cl c doc pm ctv us hu
  obtain rfl := List.length_eq_zero_iff.mp hu
  exact .inr ⟨rfl, fun t => ⟨_, rfl, fun u => by simp [PySem.W.kdv_fn]⟩⟩
section
variable {X : Cx} {Γ : Gam} {W : WX} {pos : Pos}
variable {elt tg iter : Expr} {ifs : List Expr} {scope : Scope} {ts : List Nat} {mi : DIt} {gt : DGt} {mt : DT} {me : DM}
theorem s_setLcl (ks : List Nat) (js : Nat → List Nat) (g : Ok X Γ) (tk : L2N.Takes X W) (hab : CellsUp X) (hN : X.N.Nodup) (i : Nat) {y : Str} {py spos : Pos} (own : List (Str × Nat)) (L : LamsOk X Γ scope js ks) (hts : ∀ i ∈ ts, i ∈ own.map (·.2)) (hi : DI X Γ W tg iter mi) (ok : BlkOk X.N X.env.scope scope own)
    (hg : ∀ (s : Shared) (H : Hp) (C : Addr) (cl : List (Str × Addr)) (fp : List Addr) (xe : Value → Shared → Prop), Ok (blkT X s H scope C cl fp xe) Γ.bare → DG (blkT X s H scope C cl fp xe) Γ.bare ts tg gt) (ht : ∀ (s : Shared) (H : Hp) (C : Addr) (cl : List (Str × Addr)) (fp : List Addr) (xe : Value → Shared → Prop), Ok (blkT X s H scope C cl fp xe) Γ.bare → DTs (blkT X s H scope C cl fp xe) Γ.bare WF ifs mt)
    (he : ∀ (s : Shared) (H : Hp) (C : Addr) (cl : List (Str × Addr)) (fp : List Addr) (xe : Value → Shared → Prop) (W' : WX), Ok (blkT X s H scope C cl fp xe) Γ.bare → L2N.Takes (blkT X s H scope C cl fp xe) W' → DE (blkT X s H scope C cl fp xe) Γ.bare W' elt me) (hs : ∀ x, foldedSetIterable iter X.env x = pure x := by exact fun _ => rfl)
    (hy : X.N[i]? = some y := by rfl) (hyl : X.env.scope.names.lookup y = some .local := by rfl)
    (hsw : swapsWith (.ListComp elt [⟨tg, iter, ifs, 0⟩] scope pos) (some (.Name y py)) spos.line X.env = pure true := by rfl)
    (hs0 : X.stack = X.env :: X.outer := by rfl) (hf0 : X.env.frame = some X.env.locals := by rfl) (hc : X.calm = true := by rfl) :
    DS X Γ W (.Assign [.Name y py] (.ListComp elt [⟨tg, iter, ifs, 0⟩] scope pos) spos) (sSet i (mCompL mi gt mt me (own.map (·.2)) ks js)) :=
  have h := ps_setLc2 (kn := true) (W := W) (te := fun W' => lift Γ.bare W' me) (own := own) (py := py) (spos := spos) (pos := pos) tk hs0 hf0 (fun _ => hab) hc hN hy hyl hsw hi ok (fun s H C cl fp xe => hg s H C cl fp xe (okbb g s H C cl fp xe)) (fun s H C cl fp xe => ht s H C cl fp xe (okbb g s H C cl fp xe)) (fun s H C cl fp xe W' => he s H C cl fp xe W' (okbb g s H C cl fp xe)) hs
  ⟨fun pins s σ H D I ⟨F, P, ι, M, σd, n, p⟩ => h.run pins s σ H D I (lcl_read (W := W) I.ok L hts n (PostS.begin n.sl p fun d M' v H' F' ι' _ x n' r p' => p' _ H' F' ι' Ext.refl (n'.set r i)))⟩
end
end MT

set_option maxRecDepth 100000
/-! MtTop: what the top has written, as the rules ask it. -/
namespace MT
open PySem PySem.Spec PyProof.Rows L2 LamX NdefX
section
variable {P : Program} {w : World} {K : PySem.W.Frag} {mg : Str → Option Value} {base h : Heap} {Γ : Gam}
/-- an own exception class with one field, its __init__ two statements -/
theorem excL1 {x qual s y fl z : Str} {c fI cda cc : Nat} {st : Stmt} {p0 p1 p2 p3 p4 ap q1 q2 q3 q4 : Pos} {j : Nat} {ar : Arg} {oc od osl kV doc pm an ct} (hbody : defBody st = [supSt p0 p1 p2 p3 p4 ap z j, .Assign [.Attribute (.Name s q1) fl q2] (.Name y q3) q4])
    (hx : Γ.fld c = [fl]) (o : SupO K (Γ.cls c) (Γ.cls c)) (hno : PySem.W.findIn K (.ref (Γ.cls c)) fl = some none) (hi : PySem.W.findIn K (.ref (Γ.cls c)) "__init__" = some (some (.ref fI))) (ht : PySem.W.typeIn K (.ref fI) = some (.type "function"))
    (lk : K.lookup fI = some ⟨oc, od, .func (PySem.W.ksFn "__init__" qual (defArgs st) (defBody st) (defScope st) .none kV doc pm an (.ref cda) ct cc), osl⟩) (hcd : PySem.W.codeIn K (.ref cda) qual = true) (cs : SupC P K mg cda cc (Γ.cls c) (defScope st))
    (hb : ∀ us : List Value, us.length = 2 → bindArgs (PySem.W.ksFn "__init__" qual (defArgs st) (defBody st) (defScope st) .none kV doc pm an (.ref cda) ct cc) ⟨us, []⟩ = pure ([s, y].zip us)) (S : NScope [s, y, "__class__"] [s, y] ["__class__"] (defScope st)) (hm : mg x = some (.ref (Γ.cls c)))
    (hp : ((defArgs st).posonlyargs ++ (defArgs st).args).head? = some ar) (has : ar.arg = s) (hka : (defScope st).names.lookup s = some .local) (hkb : (defScope st).names.lookup y = some .local)
    {pl : Sem Bool} (hin : ∀ f L, interactive (PySem.W.ksEnv qual (defScope st) L f (.ref cda) cc) = false) (hsw : ∀ f L, swapsWith (.Call (.Attribute (.Call (.Name "super" p0) [] [] p1) "__init__" ap) [.Constant (.str z) j p2] [] p3) none p4.line (PySem.W.ksEnv qual (defScope st) L f (.ref cda) cc) = pure false)
    (hev : ∀ f L, eval (.Call (.Attribute (.Call (.Name "super" p0) [] [] p1) "__init__" ap) [.Constant (.str z) j p2] [] p3) (PySem.W.ksEnv qual (defScope st) L f (.ref cda) cc) = (do
      let ov ← attributeBase (.Call (.Name "super" p0) [] [] p1) "__init__" (PySem.W.ksEnv qual (defScope st) L f (.ref cda) cc) (eval (.Call (.Name "super" p0) [] [] p1) (PySem.W.ksEnv qual (defScope st) L f (.ref cda) cc))
      standAt ap.atName
      let (f', first) ← holding [ov] (getMethod ov "__init__" pl)
      callWith p3 f' first (backTo p3 (starEach [.Constant (.str z) j p2] (PySem.W.ksEnv qual (defScope st) L f (.ref cda) cc))) []))
    (hst : ∀ f L, backTo p3 (starEach [.Constant (.str z) j p2] (PySem.W.ksEnv qual (defScope st) L f (.ref cda) cc)) = [(false, eval (.Constant (.str z) j p2) (PySem.W.ksEnv qual (defScope st) L f (.ref cda) cc))])
    (hs2 : ∀ f L : Addr, swapsWith (.Name y q3) (some (.Attribute (.Name s q1) fl q2)) q4.line (PySem.W.ksEnv qual (defScope st) L f (.ref cda) cc) = pure false) (hds : (s == ("__debug__" : Str)) = false) (hcs : (s == ("__classdict__" : Str)) = false) (hdy : (y == ("__debug__" : Str)) = false) (hcy : (y == ("__classdict__" : Str)) = false) :
    ExcL P w K mg base Γ 1 x c 1 := by
  rw [hbody] at lk hb
  refine ⟨fI, _, [s, y], Γ.cls c, [fl], rfl, by rw [hx]; rfl, o, fun y' hy => ?_, hi, ht, fn_sup (k := 0) (N := [s, y, "__class__"]) (sp := spI K (Γ.cls c) [fl]) lk hcd S hp (by rw [has]; rfl) (by rw [has]; exact hka) cs (hin fI) (hsw fI) (hev fI) (hst fI) ?_ fun A outer s0 H vs Q E hr hsp => ?_, .all fun us hu => hb us hu, hm⟩
  · rw [List.mem_singleton.mp hy]; exact hno
  · intro vs H Q E ⟨a, C, ws, e, hl, _⟩
    subst e
    simp only [List.length_cons, hl]
  · obtain ⟨a, C, r, e1, e2, e3, t, e4, e5⟩ := init_rest1 (X := ncx (L2N.CX P w) P w K mg base [s, y, "__class__"] ⟨"__init__", qual, defArgs st, supSt p0 p1 p2 p3 p4 ap z j :: [.Assign [.Attribute (.Name s q1) fl q2] (.Name y q3) q4], defScope st, [("__class__", cc)], cda⟩ fI A outer s0 H E) rfl rfl rfl (.inl hka) (.inl hkb) hds hcs hdy hcy (hs2 fI _) hsp
    exact ⟨a, C, r, e1, e2, e3, t, e4, e5 _ rfl⟩
/-! ### constants -/
def scV : Value → Option D
  | .none => some .non
  | .bool b => some (.bl b)
  | .int i _ => some (.int i)
  | .str x _ => some (.str x.cps.toList)
  | _ => none
def scL : List Value → Option (List D)
  | [] => some []
  | u :: us => (scV u).bind fun d => (scL us).map (d :: ·)
theorem scV_rep : ∀ {u : Value} {d : D}, scV u = some d → ∃ v, L2.RelV v u ∧ ∀ F ι, Rep Γ F ι d v
  | .none, d, e => by cases e; exact ⟨.non, rfl, fun F ι => by simp only [Rep]⟩
  | .bool b, d, e => by cases e; exact ⟨.bl b, rfl, fun F ι => by simp only [Rep]⟩
  | .int i t, d, e => by cases e; exact ⟨.int i, ⟨t, rfl⟩, fun F ι => by simp only [Rep]⟩
  | .str x t, d, e => by cases e; exact ⟨.str x, ⟨t, rfl⟩, fun F ι => by simp only [Rep]⟩
theorem scL_rep : ∀ {us : List Value} {ds : List D}, scL us = some ds → ∃ vs, Vals vs us ∧ ∀ F ι, RepL Γ F ι ds vs
  | [], ds, e => by cases e; exact ⟨[], .nil, fun F ι => RepL.nil⟩
  | u :: us, ds, e => by
    simp only [scL, Option.bind_eq_some_iff, Option.map_eq_some_iff] at e
    obtain ⟨d, e1, ds', e2, rfl⟩ := e
    obtain ⟨v, r, h⟩ := scV_rep (Γ := Γ) e1
    obtain ⟨vs, rs, hs⟩ := scL_rep e2
    exact ⟨v :: vs, .cons r rs, fun F ι => .cons (h F ι) (hs F ι)⟩
theorem cst_sc {x : Str} {u : Value} {d : D} (hm : mg x = some u) (e : scV u = some d) : Cst K P mg Γ x d := by
  obtain ⟨v, r, h⟩ := scV_rep (Γ := Γ) e
  exact ⟨v, u, hm, r, h⟩
theorem cst_tup {x : Str} {a : Addr} {od : Option Addr} {its : Array Value} {n : Nat} {sl : Array (Option Value)} {ds : List D} (hK : K = Γ.K) (hm : mg x = some (.ref a)) (l : K.lookup a = some ⟨.type "tuple", od, .seq its n, sl⟩) (e : scL its.toList = some ds) (hz : its.size ≤ sizeLine) : Cst K P mg Γ x (.tup ds) := by
  obtain ⟨vs, r, h⟩ := scL_rep (Γ := Γ) e
  refine ⟨.ref a, .ref a, hm, rfl, fun F ι => ?_⟩
  simp only [Rep]
  exact ⟨a, vs, rfl, .inr ⟨_, its, n, by rw [← hK]; exact l, rfl, rfl, hz, r⟩, h F ι⟩
def entD : List DictEntry → Option (List Key × List D)
  | [] => some ([], [])
  | e :: r => match e.key with
    | .str x _ => (scV e.val).bind fun d => (entD r).map fun p => (.inr x :: p.1, d :: p.2)
    | _ => none
theorem entD_rep : ∀ {es : List DictEntry} {ks : List Key} {ds : List D}, entD es = some (ks, ds) → ∃ kvs : List (Key × V), kvs.map (·.1) = ks ∧ (∀ F ι, RepL Γ F ι ds (kvs.map (·.2))) ∧ es.any (·.refKey) = false ∧
    ∀ z : Str, L2.RelO (valV kvs (.inr z)) ((es.find? (·.key.isStr z)).map (·.val))
  | [], ks, ds, e => by
    cases e
    exact ⟨[], rfl, fun F ι => RepL.nil, rfl, fun z => trivial⟩
  | e :: r, ks, ds, h => by
    simp only [entD] at h
    split at h
    · rename_i x t ek
      simp only [Option.bind_eq_some_iff, Option.map_eq_some_iff, Prod.mk.injEq] at h
      obtain ⟨d, e1, ⟨ks', ds'⟩, e2, rfl, rfl⟩ := h
      obtain ⟨kvs, h1, h2, h3, h4⟩ := entD_rep e2
      obtain ⟨v, rv, hv⟩ := scV_rep (Γ := Γ) e1
      refine ⟨(.inr x, v) :: kvs, by rw [List.map_cons, h1], fun F ι => .cons (hv F ι) (h2 F ι), ?_, fun z => ?_⟩
      · rw [List.any_cons, h3]
        unfold DictEntry.refKey
        rw [ek]
        rfl
      · by_cases hz : x = z
        · subst hz
          have a1 : (e :: r).find? (·.key.isStr x) = some e := List.find?_cons_of_pos (by rw [ek]; simp [Value.isStr])
          rw [a1]
          show L2.RelO (((((Sum.inr x : Key), v) :: kvs).find? fun kv => decide (kv.1 = .inr x)).map (·.2)) _
          rw [List.find?_cons_of_pos (by simp)]
          exact rv
        · have a1 : (e :: r).find? (·.key.isStr z) = r.find? (·.key.isStr z) := List.find?_cons_of_neg (by rw [ek]; simp [Value.isStr]; exact hz)
          rw [a1]
          show L2.RelO (((((Sum.inr x : Key), v) :: kvs).find? fun kv => decide (kv.1 = .inr z)).map (·.2)) _
          rw [List.find?_cons_of_neg (by simpa using hz)]
          exact h4 z
    · cases h
theorem cst_dic {x : Str} {a : Addr} {es : Array DictEntry} {n : Nat} {ks : List Key} {ds : List D} (hK : K = Γ.K) (hw : w = Γ.w) (hm : mg x = some (.ref a)) (l : K.lookup a = some ⟨.type "dict", none, .dict es n, #[]⟩) (e : entD es.toList = some (ks, ds)) (hk : PySem.W.KeysLit w.params es.toList) (ha : (a == sysModules) = false) : Cst K P mg Γ x (.dic ks ds) := by
  obtain ⟨kvs, h1, h2, h3, h4⟩ := entD_rep (Γ := Γ) e
  refine ⟨.ref a, .ref a, hm, rfl, fun F ι => ?_⟩
  simp only [Rep]
  refine ⟨a, kvs, rfl, .inr ⟨es, n, by rw [← hK]; exact l, by rw [← hw]; exact hk, ha, fun z => ?_⟩, h1, h2 F ι⟩
  refine ⟨(es.toList.find? (·.key.isStr z)).map (·.val), ?_, h4 z⟩
  unfold PySem.W.nsIn
  rw [← hK, l]
  dsimp only
  cases hf : es.toList.find? (·.key.isStr z) with
  | some e => rfl
  | none => rw [h3]; rfl
/-! ### classes -/
theorem isF_of {cls : Nat → Addr} {sub : Nat → Option Bool} {cv : Value} {c : Nat} {b : Bool} (hs : ∀ n, sub n = if n = c then some b else none) (h : PySem.W.kitOne K (.ref (cls c)) cv = some b) (e : L2.ExcC K (cls c)) : IsF K cls sub cv := fun n b' hn => by
  rw [hs] at hn
  split at hn
  · rename_i z
    subst z
    cases hn
    exact ⟨h, e⟩
  · cases hn
theorem df_mk {x : Str} {st : Stmt} {ps : List Str} {f : Addr} {oc : Value} {od an : Option Addr} {osl : Array (Option Value)} {kV doc pm cdv ct : Value} (hm : mg x = some (.ref f)) (l : K.lookup f = some ⟨oc, od, .func (PySem.W.fnOf x x (defArgs st) (defBody st) (defScope st) .none kV doc pm an cdv ct), osl⟩)
    (c : PySem.W.codeIn K cdv x = true) (k : PySem.W.keepIn K (.ref f) = true) (hb : ∀ us : List Value, us.length = ps.length → bindArgs (PySem.W.fnOf x x (defArgs st) (defBody st) (defScope st) .none kV doc pm an cdv ct) ⟨us, []⟩ = pure (ps.zip us)) : Df K mg x st ps :=
  ⟨f, _, fun_mk l c k, hm, .all hb⟩
def clsT (l : List Addr) : Nat → Addr := fun n => l.getD n 0
/-- the start of the law -/
theorem sp_start {H : Hp} {a : Addr} {ns : List Int} {r : List D → Mem → Res D} (hs : SqL Γ.K H a (ns.map V.int)) (tb : NdefX.TabsN Γ.T H) (h : ∃ M', r [.scr ns] [] = .ok (.bl true) M') : spR Γ 1 r [.ref a] H (fun v _ => v = .bl true) fun _ _ _ => False := by
  obtain ⟨M', h⟩ := h
  let F : Hp := fun b => match H b with
    | some (.tbl _) => none
    | o => o
  have hF : ∀ b o, F b = some o → H b = some o := fun b o e => by
    have e' : (match H b with | some (.tbl _) => none | o => o) = some o := e
    split at e'
    · cases e'
    · exact e'
  have hF2 : ∀ b o, H b = some o → (∀ ps, o ≠ .tbl ps) → F b = some o := fun b o e n => by
    show (match H b with | some (.tbl _) => none | o => o) = some o
    split
    · rename_i ps e2
      rw [e] at e2
      cases e2
      exact absurd rfl (n _)
    · exact e
  refine ⟨F, fun _ => none, [], [], [.scr ns], ⟨hF, (fun _ _ z => by cases z), fun _ => .inr rfl, rfl, List.nodup_nil, (fun i a m e => by simp at e), tb, fun b o e ps z => ?_, (fun _ _ z => by cases z)⟩, RepL.one ?_, rfl, ?_⟩
  · subst z
    have e2 : (match H b with | some (.tbl _) => none | o => o) = some (.tbl ps) := e
    split at e2
    · cases e2
    · rename_i n
      exact n _ e2
  · simp only [Rep]
    refine ⟨a, rfl, ?_⟩
    rcases hs with (hs | ⟨o, hs⟩) | hs
    · exact .inl (.inl (hF2 _ _ hs (fun _ z => by cases z)))
    · exact .inl (.inr ⟨o, hF2 _ _ hs (fun _ z => by cases z)⟩)
    · exact .inr hs
  · rw [h]
    intro v H' F' ι' x s r
    simpa only [Rep] using r
theorem tabs_start {H : Hp} {P0 : Addr} {q : Str} (h : H P0 = some (.tbl #[])) : NdefX.TabsN [(P0, fun _ _ => q)] H := fun p hp => by
  rw [List.mem_singleton.mp hp]
  exact ⟨#[], h, trivial, fun pos cv e => by simp [codeAmong] at e⟩
end
end MT

set_option maxRecDepth 100000
namespace K33
open PySem PySem.Spec PyProof.Rows L2 LamX NdefX L2H MT
def topS (i : Nat) : Stmt := PySem.Challenge.pw_marktrees_k33_whole_words_of_texts.main.body.getD i (.Pass ⟨0, 0, 0, 0⟩)
def fldT : Nat → List Str
  | 1 => ["place", "part"]
  | 2 => ["value"]
  | 3 => ["name"]
  | 4 => ["place"]
  | 5 => ["place"]
  | 6 => ["line"]
  | 7 => ["line"]
  | 8 => []
  | 9 => []
  | _ => []
def okR : Nat → Bool := fun c => c == 2
def sub_BadChange : Nat → Option Bool := fun c => if c = 2 then some false else none
def sub_BadClaim : Nat → Option Bool := fun c => if c = 2 then some false else none
def sub_BadLine : Nat → Option Bool := fun c => if c = 2 then some false else none
def sub_BadNumber : Nat → Option Bool := fun c => if c = 2 then some true else none
def sub_BadPart : Nat → Option Bool := fun c => if c = 2 then some false else none
def sub_BadPlace : Nat → Option Bool := fun c => if c = 2 then some false else none
def sub_BadText : Nat → Option Bool := fun c => if c = 2 then some false else none
def sub_NothingDone : Nat → Option Bool := fun c => if c = 2 then some false else none
def sub_Unknown : Nat → Option Bool := fun c => if c = 2 then some false else none
def sub_ValueError : Nat → Option Bool := fun c => if c = 2 then some true else none
def cat_MarkError : Nat → Bool := fun c => c == 2
abbrev lamQ : Str := ("law" : Str) ++ ".<locals>." ++ "<lambda>"
noncomputable def lamw : Nat → LamW
  | 0 => lamE (aArg (aArg (aVal (aBody (aBody (aBody (topS 58) 2) 7) 2)) 0) 0) lamQ ["ones"] 1
  | 1 => lamE (aArg (aArg (aVal (aBody (aBody (aBody (topS 58) 2) 7) 2)) 1) 0) lamQ ["ones"] 1
  | 2 => lamE (aArg (aArg (aVal (aBody (aBody (aBody (topS 58) 2) 7) 2)) 2) 0) lamQ ["ones"] 1
  | 3 => lamE (aArg (aVal (aBody (topS 58) 4)) 0) lamQ ["odd"] 1
  | 4 => lamE (aArg (aVal (aBody (topS 58) 4)) 1) lamQ ["odd"] 1
  | 5 => lamE (aArg (aVal (aBody (topS 58) 4)) 2) lamQ ["odd"] 1
  | 6 => lamE (aArg (aVal (aBody (topS 58) 4)) 3) lamQ [] 1
  | 7 => lamE (aArg (aVal (aBody (topS 58) 7)) 0) lamQ ["bad"] 1
  | 8 => lamE (aArg (aVal (aBody (topS 58) 7)) 1) lamQ ["wrong"] 1
  | 9 => lamE (aArg (aVal (aBody (topS 58) 7)) 2) lamQ ["wrong"] 1
  | 10 => lamE (aArg (aVal (aBody (topS 58) 7)) 3) lamQ [] 1
  | _ => lamE noE "" [] 0
def js_law : Nat → List Nat
  | 0 => [10]
  | 1 => [10]
  | 2 => [10]
  | 3 => [13]
  | 4 => [13]
  | 5 => [13]
  | 6 => []
  | 7 => [15]
  | 8 => [16]
  | 9 => [16]
  | 10 => []
  | _ => []
def lamS : List Nat := [0, 1, 2, 3, 4, 5, 6, 7, 8, 9, 10]
abbrev s_is_whole : Stmt := topS 16
theorem sc_is_whole : FnScope ["value"] ["value"] (defScope s_is_whole) := ⟨rfl, rfl, rfl, by decide +kernel, rfl, by decide +kernel, by decide +kernel⟩
noncomputable def b_is_whole : DSt :=
  sRet (vAnd (mIsi .int (mVar 0)) (vNot (mIsi .bool (mVar 0))))
noncomputable def r_is_whole : List D → Mem → Res D := runDef 1 1 b_is_whole

abbrev s_is_name : Stmt := topS 17
theorem sc_is_name : FnScope ["value", "sign"] ["value"] (defScope s_is_name) := ⟨rfl, rfl, rfl, by decide +kernel, rfl, by decide +kernel, by decide +kernel⟩
noncomputable def b_is_name : DSt :=
  sSeq (sIf (mOr (mNot (tV (mIsi .str (mVar 0)))) (mNot (tV (mChain gLe gLe (mC (.int 1)) (mB gLen (aCons (mVar 0) aNil)) (mC (.int 8))))))
       (sRet (mC (.bl false)))
       (sNil))
      (sRet (mB gAll (aCons (mCompX (iAny (mVar 0)) (gtName 1) (tTrue) (mOp (gIn false) (mVar 1) (mC (.str [97, 98, 99, 100, 101, 102, 103, 104, 105, 106, 107, 108, 109, 110, 111, 112, 113, 114, 115, 116, 117, 118, 119, 120, 121, 122]))) [1]) aNil)))
noncomputable def r_is_name : List D → Mem → Res D := runDef 1 2 b_is_name

abbrev s_is_text : Stmt := topS 18
theorem sc_is_text : FnScope ["value", "sign"] ["value"] (defScope s_is_text) := ⟨rfl, rfl, rfl, by decide +kernel, rfl, by decide +kernel, by decide +kernel⟩
noncomputable def b_is_text : DSt :=
  sSeq (sIf (mOr (mNot (tV (mIsi .str (mVar 0)))) (tV (mOp gGt (mB gLen (aCons (mVar 0) aNil)) (mC (.int 2000)))))
       (sRet (mC (.bl false)))
       (sNil))
      (sRet (mB gAll (aCons (mCompX (iAny (mVar 0)) (gtName 1) (tTrue) (vOr (mOp gEq (mVar 1) (mC (.str [10]))) (mChain gLe gLe (mC (.str [32])) (mVar 1) (mC (.str [126])))) [1]) aNil)))
noncomputable def r_is_text : List D → Mem → Res D := runDef 1 2 b_is_text

abbrev s_is_row : Stmt := topS 19
theorem sc_is_row : FnScope ["value", "size"] ["value", "size"] (defScope s_is_row) := ⟨rfl, rfl, rfl, by decide +kernel, rfl, by decide +kernel, by decide +kernel⟩
noncomputable def b_is_row : DSt :=
  sRet (vAnd (mIsi .tup (mVar 0)) (mOp gEq (mB gLen (aCons (mVar 0) aNil)) (mVar 1)))
noncomputable def r_is_row : List D → Mem → Res D := runDef 2 2 b_is_row

abbrev s_is_count : Stmt := topS 20
theorem sc_is_count : FnScope ["text", "sign"] ["text"] (defScope s_is_count) := ⟨rfl, rfl, rfl, by decide +kernel, rfl, by decide +kernel, by decide +kernel⟩
noncomputable def b_is_count : DSt :=
  sSeq (sIf (mOr (mNot (tV (mChain gLe gLe (mC (.int 1)) (mB gLen (aCons (mVar 0) aNil)) (mC (.int 4))))) (mNot (tV (mB gAll (aCons (mCompX (iAny (mVar 0)) (gtName 1) (tTrue) (mOp (gIn false) (mVar 1) (mC (.str [48, 49, 50, 51, 52, 53, 54, 55, 56, 57]))) [1]) aNil)))))
       (sRet (mC (.bl false)))
       (sNil))
      (sRet (vOr (mOp gNe (mOp gIx (mVar 0) (mC (.int 0))) (mC (.str [48]))) (mOp gEq (mVar 0) (mC (.str [48])))))
noncomputable def r_is_count : List D → Mem → Res D := runDef 1 2 b_is_count

abbrev s_is_step : Stmt := topS 24
theorem sc_is_step : FnScope ["value"] ["value"] (defScope s_is_step) := ⟨rfl, rfl, rfl, by decide +kernel, rfl, by decide +kernel, by decide +kernel⟩
noncomputable def b_is_step : DSt :=
  sSeq (sIf (mOr (mNot (tV (mCall 2 r_is_row (aCons (mVar 0) (aCons (mC (.int 3)) (aNil)))))) (mOr (mNot (tV (mIsi .str (mOp gIx (mVar 0) (mC (.int 0)))))) (mNot (tV (mIsi .str (mOp gIx (mVar 0) (mC (.int 1))))))))
       (sRet (mC (.bl false)))
       (sNil))
      (sSeq (sIf (mAnd (tV (mOp gNe (mOp gIx (mVar 0) (mC (.int 0))) (mC (.str [])))) (tV (mOp (gIn true) (mOp gIx (mVar 0) (mC (.int 0))) (mC (.tup [(.str [112, 97, 103, 101]), (.str [113, 117, 111, 116, 101]), (.str [108, 105, 115, 116]), (.str [105, 116, 101, 109]), (.str [104, 101, 97, 100]), (.str [114, 97, 119]), (.str [102, 101, 110, 99, 101]), (.str [112, 97, 114, 97]), (.str [108, 105, 110, 101]), (.str [112, 97, 105, 114]), (.str [116, 111, 114, 110]), (.str [116, 101, 120, 116])])))))
       (sRet (mC (.bl false)))
       (sNil))
      (sRet (vAnd (vOr (mOp gEq (mOp gIx (mVar 0) (mC (.int 1))) (mC (.str []))) (mCall 1 r_is_name (aCons (mOp gIx (mVar 0) (mC (.int 1))) (aNil)))) (mIsi .bool (mOp gIx (mVar 0) (mC (.int 2)))))))
noncomputable def r_is_step : List D → Mem → Res D := runDef 1 1 b_is_step

abbrev s_is_pattern : Stmt := topS 25
theorem sc_is_pattern : FnScope ["value", "step"] ["value"] (defScope s_is_pattern) := ⟨rfl, rfl, rfl, by decide +kernel, rfl, by decide +kernel, by decide +kernel⟩
noncomputable def b_is_pattern : DSt :=
  sRet (vAnd (mIsi .tup (mVar 0)) (vAnd (mChain gLe gLe (mC (.int 1)) (mB gLen (aCons (mVar 0) aNil)) (mC (.int 6))) (mB gAll (aCons (mCompX (iAny (mVar 0)) (gtName 1) (tTrue) (mCall 1 r_is_step (aCons (mVar 1) (aNil))) [1]) aNil))))
noncomputable def r_is_pattern : List D → Mem → Res D := runDef 1 2 b_is_pattern

abbrev s_need_pattern : Stmt := topS 26
theorem sc_need_pattern : FnScope ["value"] ["value"] (defScope s_need_pattern) := ⟨rfl, rfl, rfl, by decide +kernel, rfl, by decide +kernel, by decide +kernel⟩
noncomputable def b_need_pattern : DSt :=
  sIf (mNot (tV (mCall 1 r_is_pattern (aCons (mVar 0) (aNil)))))
       (sRaise 2 1 (aCons (mVar 0) (aNil)))
       (sNil)
noncomputable def r_need_pattern : List D → Mem → Res D := runDef 1 1 b_need_pattern

abbrev s_code_of : Stmt := topS 31
theorem sc_code_of : FnScope ["text", "sign"] ["text"] (defScope s_code_of) := ⟨rfl, rfl, rfl, by decide +kernel, rfl, by decide +kernel, by decide +kernel⟩
noncomputable def b_code_of : DSt :=
  sSeq (sIf (mNot (tV (mCall 1 r_is_text (aCons (mVar 0) (aNil)))))
       (sRaise 2 1 (aCons (mVar 0) (aNil)))
       (sNil))
      (sRet (mIf (tV (mOp gNe (mVar 0) (mC (.str [])))) (mMt "str" kJoin (mC (.str [])) (aCons (mCompX (iAny (mVar 0)) (gtName 1) (tTrue) (mGet2 (mC (.dic [.inr (txt [10]), .inr (txt [32]), .inr (txt [126])] [(.str [126, 110]), (.str [126, 115]), (.str [126, 116])])) (mVar 1) (mVar 1)) [1]) aNil)) (mC (.str [126, 101]))))
noncomputable def r_code_of : List D → Mem → Res D := runDef 1 2 b_code_of

abbrev s_read_code : Stmt := topS 32
theorem sc_read_code : FnScope ["word", "found", "is_coded", "sign"] ["word"] (defScope s_read_code) := ⟨rfl, rfl, rfl, by decide +kernel, rfl, by decide +kernel, by decide +kernel⟩
noncomputable def b_read_code : DSt :=
  sSeq (sIf (mOr (mNot (tV (mIsi .str (mVar 0)))) (tV (mOp gEq (mVar 0) (mC (.str [])))))
       (sRaise 2 1 (aCons (mVar 0) (aNil)))
       (sNil))
      (sSeq (sIf (tV (mOp gEq (mVar 0) (mC (.str [126, 101]))))
       (sRet (mC (.str [])))
       (sNil))
      (sSeq (sPar 1 2 (aCons (mNew (aNil)) (aCons (mC (.bl false)) aNil)))
      (sSeq (sFor (iAny (mVar 0)) (gtName 3)
       (sSeq (sIf (tV (mVar 2))
        (sSeq (sIf (tV (mOp (gIn true) (mVar 3) (mC (.dic [.inr (txt [110]), .inr (txt [115]), .inr (txt [116])] [(.str [10]), (.str [32]), (.str [126])]))))
         (sRaise 2 1 (aCons (mVar 0) (aNil)))
         (sNil))
        (sExpr (mMt "list" kAppend (mVar 1) (aCons (mOp gIx (mC (.dic [.inr (txt [110]), .inr (txt [115]), .inr (txt [116])] [(.str [10]), (.str [32]), (.str [126])])) (mVar 3)) aNil))))
        (sIf (tV (mOp gNe (mVar 3) (mC (.str [126]))))
         (sExpr (mMt "list" kAppend (mVar 1) (aCons (mVar 3) aNil)))
         (sNil)))
       (sSeq (sIf (mAnd (mNot (tV (mVar 2))) (mNot (tV (mChain gLe gLe (mC (.str [33])) (mVar 3) (mC (.str [126]))))))
        (sRaise 2 1 (aCons (mVar 0) (aNil)))
        (sNil))
       (sSet 2 (vAnd (mOp gEq (mVar 3) (mC (.str [126]))) (vNot (mVar 2)))))))
      (sSeq (sIf (mOr (tV (mVar 2)) (mNot (tV (mCall 1 r_is_text (aCons (mMt "str" kJoin (mC (.str [])) (aCons (mVar 1) aNil)) (aNil))))))
       (sRaise 2 1 (aCons (mVar 0) (aNil)))
       (sNil))
      (sRet (mMt "str" kJoin (mC (.str [])) (aCons (mVar 1) aNil)))))))
noncomputable def r_read_code : List D → Mem → Res D := runDef 1 4 b_read_code

abbrev s_path_text : Stmt := topS 33
theorem sc_path_text : FnScope ["path", "step"] ["path"] (defScope s_path_text) := ⟨rfl, rfl, rfl, by decide +kernel, rfl, by decide +kernel, by decide +kernel⟩
noncomputable def b_path_text : DSt :=
  sSeq (sIf (mOr (mNot (tV (mIsi .tup (mVar 0)))) (mNot (tV (mB gAll (aCons (mCompX (iAny (mVar 0)) (gtName 1) (tTrue) (vAnd (mCall 1 r_is_whole (aCons (mVar 1) (aNil))) (mChain gLe gLe (mC (.int 0)) (mVar 1) (mC (.int 9999)))) [1]) aNil)))))
       (sRaise 2 1 (aCons (mVar 0) (aNil)))
       (sNil))
      (sRet (mIf (tV (mOp gNe (mVar 0) (mTup (aNil)))) (mMt "str" kJoin (mC (.str [47])) (aCons (mCompX (iAny (mVar 0)) (gtName 1) (tTrue) (mB gStr (aCons (mVar 1) aNil)) [1]) aNil)) (mC (.str [46]))))
noncomputable def r_path_text : List D → Mem → Res D := runDef 1 2 b_path_text

abbrev s_read_path : Stmt := topS 34
theorem sc_read_path : FnScope ["text", "part"] ["text"] (defScope s_read_path) := ⟨rfl, rfl, rfl, by decide +kernel, rfl, by decide +kernel, by decide +kernel⟩
noncomputable def b_read_path : DSt :=
  sSeq (sIf (mNot (tV (mIsi .str (mVar 0))))
       (sRaise 2 1 (aCons (mVar 0) (aNil)))
       (sNil))
      (sSeq (sIf (tV (mOp gEq (mVar 0) (mC (.str [46]))))
       (sRet (mTup (aNil)))
       (sNil))
      (sSeq (sIf (mNot (tV (mB gAll (aCons (mCompX (iAny (mMt "str" kSplit (mVar 0) (aCons (mC (.str [47])) aNil))) (gtName 1) (tTrue) (mCall 1 r_is_count (aCons (mVar 1) (aNil))) [1]) aNil))))
       (sRaise 2 1 (aCons (mVar 0) (aNil)))
       (sNil))
      (sRet (mB gTuple (aCons (mCompX (iAny (mMt "str" kSplit (mVar 0) (aCons (mC (.str [47])) aNil))) (gtName 1) (tTrue) (mB gInt (aCons (mVar 1) aNil)) [1]) aNil)))))
noncomputable def r_read_path : List D → Mem → Res D := runDef 1 2 b_read_path

abbrev s_step_text : Stmt := topS 35
theorem sc_step_text : FnScope ["step", "word", "name"] ["step"] (defScope s_step_text) := ⟨rfl, rfl, rfl, by decide +kernel, rfl, by decide +kernel, by decide +kernel⟩
noncomputable def b_step_text : DSt :=
  sSeq (sPar 1 2 (aCons (mIf (tV (mOp gNe (mOp gIx (mVar 0) (mC (.int 0))) (mC (.str [])))) (mOp gIx (mVar 0) (mC (.int 0))) (mC (.str [42]))) (aCons (mIf (tV (mOp gNe (mOp gIx (mVar 0) (mC (.int 1))) (mC (.str [])))) (mOp gIx (mVar 0) (mC (.int 1))) (mC (.str [42]))) aNil)))
      (sRet (mOp gAdd (mOp gAdd (mOp gAdd (mIf (tV (mOp gIx (mVar 0) (mC (.int 2)))) (mC (.str [43])) (mC (.str []))) (mVar 1)) (mC (.str [58]))) (mVar 2)))
noncomputable def r_step_text : List D → Mem → Res D := runDef 1 3 b_step_text

abbrev s_pattern_text : Stmt := topS 36
theorem sc_pattern_text : FnScope ["pattern", "step"] ["pattern"] (defScope s_pattern_text) := ⟨rfl, rfl, rfl, by decide +kernel, rfl, by decide +kernel, by decide +kernel⟩
noncomputable def b_pattern_text : DSt :=
  sSeq (sExpr (mCall 1 r_need_pattern (aCons (mVar 0) (aNil))))
      (sRet (mMt "str" kJoin (mC (.str [47])) (aCons (mCompX (iAny (mVar 0)) (gtName 1) (tTrue) (mCall 1 r_step_text (aCons (mVar 1) (aNil))) [1]) aNil)))
noncomputable def r_pattern_text : List D → Mem → Res D := runDef 1 2 b_pattern_text

abbrev s_read_step : Stmt := topS 37
theorem sc_read_step : FnScope ["text", "whole", "is_deep", "parts"] ["text", "whole"] (defScope s_read_step) := ⟨rfl, rfl, rfl, by decide +kernel, rfl, by decide +kernel, by decide +kernel⟩
noncomputable def b_read_step : DSt :=
  sSeq (sSet 2 (mOp gEq (mSl (mVar 0) (oNone) (oSome (mC (.int 1)))) (mC (.str [43]))))
      (sSeq (sSet 3 (mMt "str" kSplit (mIf (tV (mVar 2)) (mSl (mVar 0) (oSome (mC (.int 1))) (oNone)) (mVar 0)) (aCons (mC (.str [58])) aNil)))
      (sSeq (sIf (mOr (tV (mOp gNe (mB gLen (aCons (mVar 3) aNil)) (mC (.int 2)))) (mOr (mAnd (tV (mOp gNe (mOp gIx (mVar 3) (mC (.int 0))) (mC (.str [42])))) (tV (mOp (gIn true) (mOp gIx (mVar 3) (mC (.int 0))) (mC (.tup [(.str [112, 97, 103, 101]), (.str [113, 117, 111, 116, 101]), (.str [108, 105, 115, 116]), (.str [105, 116, 101, 109]), (.str [104, 101, 97, 100]), (.str [114, 97, 119]), (.str [102, 101, 110, 99, 101]), (.str [112, 97, 114, 97]), (.str [108, 105, 110, 101]), (.str [112, 97, 105, 114]), (.str [116, 111, 114, 110]), (.str [116, 101, 120, 116])]))))) (mAnd (tV (mOp gNe (mOp gIx (mVar 3) (mC (.int 1))) (mC (.str [42])))) (mNot (tV (mCall 1 r_is_name (aCons (mOp gIx (mVar 3) (mC (.int 1))) (aNil))))))))
       (sRaise 2 1 (aCons (mVar 1) (aNil)))
       (sNil))
      (sRet (mTup (aCons (mIf (tV (mOp gNe (mOp gIx (mVar 3) (mC (.int 0))) (mC (.str [42])))) (mOp gIx (mVar 3) (mC (.int 0))) (mC (.str []))) (aCons (mIf (tV (mOp gNe (mOp gIx (mVar 3) (mC (.int 1))) (mC (.str [42])))) (mOp gIx (mVar 3) (mC (.int 1))) (mC (.str []))) (aCons (mVar 2) (aNil))))))))
noncomputable def r_read_step : List D → Mem → Res D := runDef 2 4 b_read_step

abbrev s_read_pattern : Stmt := topS 38
theorem sc_read_pattern : FnScope ["text", "found", "part"] ["text"] (defScope s_read_pattern) := ⟨rfl, rfl, rfl, by decide +kernel, rfl, by decide +kernel, by decide +kernel⟩
noncomputable def b_read_pattern : DSt :=
  sSeq (sIf (mNot (tV (mIsi .str (mVar 0))))
       (sRaise 2 1 (aCons (mVar 0) (aNil)))
       (sNil))
      (sSeq (sSet 1 (mB gTuple (aCons (mCompX (iAny (mMt "str" kSplit (mVar 0) (aCons (mC (.str [47])) aNil))) (gtName 2) (tTrue) (mCall 2 r_read_step (aCons (mVar 2) (aCons (mVar 0) (aNil)))) [2]) aNil)))
      (sSeq (sIf (tV (mOp gGt (mB gLen (aCons (mVar 1) aNil)) (mC (.int 6))))
       (sRaise 2 1 (aCons (mVar 0) (aNil)))
       (sNil))
      (sRet (mVar 1))))
noncomputable def r_read_pattern : List D → Mem → Res D := runDef 1 3 b_read_pattern

abbrev s__law_taken : Stmt := topS 40
theorem sc__law_taken : FnScope ["row", "amount", "found", "cell"] ["row", "amount"] (defScope s__law_taken) := ⟨rfl, rfl, rfl, by decide +kernel, rfl, by decide +kernel, by decide +kernel⟩
noncomputable def b__law_taken : DSt :=
  sSeq (sIf (tV (mOp gGt (mOp gIx (mVar 0) (mC (.int 3))) (mC (.int 0))))
       (sSeq (sSet 2 (mOp gMod (mB gInt (aCons (mOp gIx (mVar 0) (mC (.int 3))) aNil)) (mVar 1)))
       (sSeq (sAsg (mOp gDiv (mOp gIx (mVar 0) (mC (.int 3))) (mVar 1)) (gtSub (mVar 0) (mC (.int 3))))
       (sRet (mVar 2))))
       (sNil))
      (sSeq (sAsg (mOp gAdd (mOp gIx (mVar 0) (mC (.int 1))) (mC (.int 1))) (gtSub (mVar 0) (mC (.int 1))))
      (sSeq (sIf (tV (mOp gGt (mOp gIx (mVar 0) (mC (.int 1))) (mB gLen (aCons (mOp gIx (mVar 0) (mC (.int 0))) aNil))))
       (sSeq (sAsg (mOp gMod (mB gInt (aCons (mOp gAdd (mOp gMul (mOp gIx (mVar 0) (mC (.int 2))) (mC (.int 48271))) (mC (.int 11))) aNil)) (mC (.int 2147483647))) (gtSub (mVar 0) (mC (.int 2))))
       (sRet (mOp gMod (mB gInt (aCons (mOp gDiv (mOp gIx (mVar 0) (mC (.int 2))) (mC (.int 7))) aNil)) (mVar 1))))
       (sNil))
      (sSeq (sSet 3 (mOp gIx (mOp gIx (mVar 0) (mC (.int 0))) (mOp gSub (mOp gIx (mVar 0) (mC (.int 1))) (mC (.int 1)))))
      (sSeq (sAsg (mOp gMod (mB gInt (aCons (mOp gAdd (mOp gAdd (mOp gMul (mOp gIx (mVar 0) (mC (.int 2))) (mC (.int 48271))) (mVar 3)) (mC (.int 11))) aNil)) (mC (.int 2147483647))) (gtSub (mVar 0) (mC (.int 2))))
      (sSeq (sIf (tV (mOp gGe (mVar 3) (mOp gPow (mC (.int 10)) (mC (.int 18)))))
       (sSeq (sAsg (mOp gDiv (mVar 3) (mVar 1)) (gtSub (mVar 0) (mC (.int 3))))
       (sRet (mOp gMod (mB gInt (aCons (mVar 3) aNil)) (mVar 1))))
       (sNil))
      (sRet (mOp gMod (mB gInt (aCons (mOp gAdd (mOp gMul (mOp gMod (mB gInt (aCons (mVar 3) aNil)) (mC (.int 1000003))) (mC (.int 31))) (mOp gDiv (mOp gIx (mVar 0) (mC (.int 2))) (mC (.int 11)))) aNil)) (mVar 1))))))))
noncomputable def r__law_taken : List D → Mem → Res D := runDef 2 4 b__law_taken

abbrev s__law_pick : Stmt := topS 41
theorem sc__law_pick : FnScope ["row", "things"] ["row", "things"] (defScope s__law_pick) := ⟨rfl, rfl, rfl, by decide +kernel, rfl, by decide +kernel, by decide +kernel⟩
noncomputable def b__law_pick : DSt :=
  sRet (mOp gIx (mVar 1) (mCall 2 r__law_taken (aCons (mVar 0) (aCons (mB gLen (aCons (mVar 1) aNil)) (aNil)))))
noncomputable def r__law_pick : List D → Mem → Res D := runDef 2 2 b__law_pick

abbrev s__law_alike : Stmt := topS 42
theorem sc__law_alike : FnScope ["found", "due", "k"] ["found", "due"] (defScope s__law_alike) := ⟨rfl, rfl, rfl, by decide +kernel, rfl, by decide +kernel, by decide +kernel⟩
noncomputable def b__law_alike (ih : List D → Mem → Res D) : DSt :=
  sSeq (sIf (tV (mIs2 .tup .lst (mVar 1)))
       (sSeq (sIf (mOr (mNot (tV (mIs2 .tup .lst (mVar 0)))) (tV (mOp gNe (mIsi .lst (mVar 0)) (mIsi .lst (mVar 1)))))
        (sRet (mC (.bl false)))
        (sNil))
       (sSeq (sIf (tV (mOp gNe (mB gLen (aCons (mVar 0) aNil)) (mB gLen (aCons (mVar 1) aNil))))
        (sRet (mC (.bl false)))
        (sNil))
       (sRet (mOp gEq (mCompX (iRange1 (aCons (mB gLen (aCons (mVar 1) aNil)) aNil)) (gtName 2) (mNot (tV (mCall 2 ih (aCons (mOp gIx (mVar 0) (mVar 2)) (aCons (mOp gIx (mVar 1) (mVar 2)) (aNil)))))) (mVar 2) [2]) (mLst (aNil))))))
       (sNil))
      (sSeq (sIf (mOr (tV (mOp (gIs false) (mVar 1) (mC .non))) (tV (mIsi .str (mVar 1))))
       (sRet (vAnd (mOp gEq (mVar 0) (mVar 1)) (mOp gEq (mIsi .str (mVar 0)) (mIsi .str (mVar 1)))))
       (sNil))
      (sRet (vAnd (mIsi .int (mVar 0)) (vAnd (mOp gEq (mIsi .bool (mVar 0)) (mIsi .bool (mVar 1))) (mOp gEq (mVar 0) (mVar 1))))))
noncomputable def r__law_alike : Nat → List D → Mem → Res D
  | 0 => fun _ _ => .stuck
  | n + 1 => runDef 2 3 (b__law_alike (r__law_alike n))

abbrev s__law_same : Stmt := topS 43
theorem sc__law_same : FnScope ["found", "due"] ["found", "due"] (defScope s__law_same) := ⟨rfl, rfl, rfl, by decide +kernel, rfl, by decide +kernel, by decide +kernel⟩
noncomputable def b__law_same : DSt :=
  sRet (mOp gEq (mB gRepr (aCons (mVar 0) aNil)) (mB gRepr (aCons (mVar 1) aNil)))
noncomputable def r__law_same : List D → Mem → Res D := runDef 2 2 b__law_same

abbrev s__law_refusal : Stmt := topS 45
theorem sc__law_refusal : FnScope ["e", "kinds", "marks", "name"] ["e"] (defScope s__law_refusal) := ⟨rfl, rfl, rfl, by decide +kernel, rfl, by decide +kernel, by decide +kernel⟩
noncomputable def b__law_refusal : DSt :=
  sSeq (sSet 1 (mLst (aCons (mC (.str [66, 97, 100, 80, 97, 114, 116])) (aCons (mC (.str [66, 97, 100, 78, 117, 109, 98, 101, 114])) (aCons (mC (.str [85, 110, 107, 110, 111, 119, 110])) (aCons (mC (.str [66, 97, 100, 80, 108, 97, 99, 101])) (aCons (mC (.str [66, 97, 100, 67, 104, 97, 110, 103, 101])) (aCons (mC (.str [66, 97, 100, 84, 101, 120, 116])) (aCons (mC (.str [66, 97, 100, 76, 105, 110, 101])) (aCons (mC (.str [66, 97, 100, 67, 108, 97, 105, 109])) (aCons (mC (.str [78, 111, 116, 104, 105, 110, 103, 68, 111, 110, 101])) (aNil))))))))))))
      (sSeq (sSet 2 (mLst (aCons (mIsE sub_BadPart (mVar 0)) (aCons (mIsE sub_BadNumber (mVar 0)) (aCons (mIsE sub_Unknown (mVar 0)) (aCons (mIsE sub_BadPlace (mVar 0)) (aCons (mIsE sub_BadChange (mVar 0)) (aCons (mIsE sub_BadText (mVar 0)) (aCons (mIsE sub_BadLine (mVar 0)) (aCons (mIsE sub_BadClaim (mVar 0)) (aCons (mIsE sub_NothingDone (mVar 0)) (aNil))))))))))))
      (sSeq (sIf (mOr (tV (mOp gNe (mMt "list" kCount (mVar 2) (aCons (mC (.bl true)) aNil)) (mC (.int 1)))) (mNot (tV (mIsE sub_ValueError (mVar 0)))))
       (sRet (mTup (aCons (mC (.str [111, 116, 104, 101, 114])) (aNil))))
       (sNil))
      (sSeq (sSet 3 (mOp gIx (mVar 1) (mMt "list" kIndex (mVar 2) (aCons (mC (.bl true)) aNil))))
      (sSeq (sIf (tV (mOp gEq (mVar 3) (mC (.str [66, 97, 100, 80, 97, 114, 116]))))
       (sRet (mTup (aCons (mVar 3) (aCons (mXfF fldT "part" okR (mVar 0)) (aCons (mXfF fldT "place" okR (mVar 0)) (aNil))))))
       (sNil))
      (sSeq (sIf (tV (mOp gEq (mVar 3) (mC (.str [66, 97, 100, 78, 117, 109, 98, 101, 114]))))
       (sRet (mTup (aCons (mVar 3) (aCons (mXfF fldT "value" okR (mVar 0)) (aNil)))))
       (sNil))
      (sSeq (sIf (tV (mOp gEq (mVar 3) (mC (.str [85, 110, 107, 110, 111, 119, 110]))))
       (sRet (mTup (aCons (mVar 3) (aCons (mXfF fldT "name" okR (mVar 0)) (aNil)))))
       (sNil))
      (sSeq (sIf (tV (mOp (gIn false) (mVar 3) (mTup (aCons (mC (.str [66, 97, 100, 84, 101, 120, 116])) (aCons (mC (.str [66, 97, 100, 76, 105, 110, 101])) (aNil))))))
       (sRet (mTup (aCons (mVar 3) (aCons (mXfF fldT "line" okR (mVar 0)) (aNil)))))
       (sNil))
      (sSeq (sIf (tV (mOp (gIn false) (mVar 3) (mTup (aCons (mC (.str [66, 97, 100, 67, 108, 97, 105, 109])) (aCons (mC (.str [78, 111, 116, 104, 105, 110, 103, 68, 111, 110, 101])) (aNil))))))
       (sRet (mTup (aCons (mVar 3) (aNil))))
       (sNil))
      (sRet (mTup (aCons (mVar 3) (aCons (mXfF fldT "place" okR (mVar 0)) (aNil)))))))))))))
noncomputable def r__law_refusal : Nat → List D → Mem → Res D := runRef 4 b__law_refusal

abbrev s__law_is_name : Stmt := topS 46
theorem sc__law_is_name : FnScope ["value", "sign"] ["value"] (defScope s__law_is_name) := ⟨rfl, rfl, rfl, by decide +kernel, rfl, by decide +kernel, by decide +kernel⟩
noncomputable def b__law_is_name : DSt :=
  sRet (vAnd (mIsi .str (mVar 0)) (vAnd (mChain gLe gLe (mC (.int 1)) (mB gLen (aCons (mVar 0) aNil)) (mC (.int 8))) (mOp gEq (mCompX (iAny (mVar 0)) (gtName 1) (tV (mOp (gIn true) (mVar 1) (mC (.str [97, 98, 99, 100, 101, 102, 103, 104, 105, 106, 107, 108, 109, 110, 111, 112, 113, 114, 115, 116, 117, 118, 119, 120, 121, 122])))) (mVar 1) [1]) (mLst (aNil)))))
noncomputable def r__law_is_name : List D → Mem → Res D := runDef 1 2 b__law_is_name

abbrev s__law_marks : Stmt := topS 47
theorem sc__law_marks : FnScope ["row", "lines", "pairs", "names", "signs", "start", "k", "way", "rows", "at"] ["row"] (defScope s__law_marks) := ⟨rfl, rfl, rfl, by decide +kernel, rfl, by decide +kernel, by decide +kernel⟩
noncomputable def b__law_marks : DSt :=
  sSeq (sPar 1 2 (aCons (mLst (aNil)) (aCons (mLst (aNil)) aNil)))
      (sSeq (sPar 3 4 (aCons (mLst (aCons (mC (.str [97, 110, 110])) (aCons (mC (.str [98, 101, 110])) (aCons (mC (.str [99, 121])) (aCons (mC (.str [100, 97, 110])) (aCons (mC (.str [101, 118, 101])) (aNil))))))) (aCons (mC (.str [35, 45, 62, 42, 33, 124])) aNil)))
      (sSeq (sSet 5 (mCall 2 r__law_taken (aCons (mVar 0) (aCons (mC (.int 6)) (aNil)))))
      (sSeq (sFor (iRange1 (aCons (mCall 2 r__law_taken (aCons (mVar 0) (aCons (mC (.int 4)) (aNil)))) aNil)) (gtName 6)
       (sSeq (sSet 7 (mCall 2 r__law_pick (aCons (mVar 0) (aCons (mLst (aCons (mC (.str [104, 101, 97, 100])) (aCons (mC (.str [114, 97, 119])) (aCons (mC (.str [102, 101, 110, 99, 101])) (aCons (mC (.str [113, 117, 111, 116, 101])) (aCons (mC (.str [108, 105, 115, 116])) (aCons (mC (.str [113, 117, 111, 116, 101])) (aCons (mC (.str [108, 105, 115, 116])) (aCons (mC (.str [104, 101, 97, 100])) (aNil)))))))))) (aNil)))))
       (sSet 1 (mOp gAdd (mVar 1) (mLst (aCons (mTup (aCons (mOp gIx (mVar 4) (mOp gMod (mOp gAdd (mVar 5) (mVar 6)) (mC (.int 6)))) (aCons (mOp gIx (mVar 3) (mVar 6)) (aCons (mVar 7) (aNil))))) (aNil)))))))
      (sSeq (sSet 8 (mLst (aCons (mTup (aCons (mC (.str [42])) (aCons (mC (.str [42])) (aCons (mC (.str [102, 97, 121])) (aCons (mC (.str [100, 101, 101, 112])) (aNil)))))) (aCons (mTup (aCons (mC (.str [91])) (aCons (mC (.str [93])) (aCons (mC (.str [103, 117, 115])) (aCons (mC (.str [100, 101, 101, 112])) (aNil)))))) (aCons (mTup (aCons (mC (.str [124])) (aCons (mC (.str [124])) (aCons (mC (.str [104, 97, 108])) (aCons (mC (.str [114, 97, 119])) (aNil)))))) (aCons (mTup (aCons (mC (.str [45])) (aCons (mC (.str [62])) (aCons (mC (.str [105, 100, 97])) (aCons (mC (.str [100, 101, 101, 112])) (aNil)))))) (aCons (mTup (aCons (mC (.str [40])) (aCons (mC (.str [41])) (aCons (mC (.str [106, 111])) (aCons (mC (.str [114, 97, 119])) (aNil)))))) (aNil))))))))
      (sSeq (sSet 9 (mCall 2 r__law_taken (aCons (mVar 0) (aCons (mC (.int 5)) (aNil)))))
      (sSeq (sFor (iRange1 (aCons (mCall 2 r__law_taken (aCons (mVar 0) (aCons (mC (.int 3)) (aNil)))) aNil)) (gtName 6)
       (sSet 2 (mOp gAdd (mVar 2) (mLst (aCons (mOp gIx (mVar 8) (mOp gMod (mOp gAdd (mVar 9) (mOp gMul (mC (.int 2)) (mVar 6))) (mC (.int 5)))) (aNil))))))
      (sRet (mTup (aCons (mB gTuple (aCons (mVar 1) aNil)) (aCons (mB gTuple (aCons (mVar 2) aNil)) (aCons (mCall 2 r__law_pick (aCons (mVar 0) (aCons (mLst (aCons (mC (.str [])) (aCons (mC (.str [92])) (aCons (mC (.str [92])) (aCons (mC (.str [126])) (aNil)))))) (aNil)))) (aNil))))))))))))
noncomputable def r__law_marks : List D → Mem → Res D := runDef 1 10 b__law_marks

abbrev s__law_letters : Stmt := topS 48
theorem sc__law_letters : FnScope ["told", "found", "one"] ["told"] (defScope s__law_letters) := ⟨rfl, rfl, rfl, by decide +kernel, rfl, by decide +kernel, by decide +kernel⟩
noncomputable def b__law_letters : DSt :=
  sSeq (sSet 1 (mB gSoS (aCons (mOp gAdd (mOp gAdd (mOp gAdd (mCompX (iAny (mOp gIx (mVar 0) (mC (.int 0)))) (gtName 2) (tTrue) (mOp gIx (mVar 2) (mC (.int 0))) [2]) (mCompX (iAny (mOp gIx (mVar 0) (mC (.int 1)))) (gtName 2) (tTrue) (mOp gIx (mVar 2) (mC (.int 0))) [2])) (mCompX (iAny (mOp gIx (mVar 0) (mC (.int 1)))) (gtName 2) (tTrue) (mOp gIx (mVar 2) (mC (.int 1))) [2])) (mIf (tV (mOp gNe (mOp gIx (mVar 0) (mC (.int 2))) (mC (.str [])))) (mLst (aCons (mOp gIx (mVar 0) (mC (.int 2))) (aNil))) (mLst (aNil)))) aNil)))
      (sRet (mOp gAdd (mLst (aCons (mC (.str [10])) (aCons (mC (.str [32])) (aCons (mC (.str [97])) (aNil))))) (mVar 1)))
noncomputable def r__law_letters : List D → Mem → Res D := runDef 1 3 b__law_letters

abbrev s__law_text : Stmt := topS 49
theorem sc__law_text : FnScope ["row", "told", "size", "letters", "k"] ["row", "told", "size"] (defScope s__law_text) := ⟨rfl, rfl, rfl, by decide +kernel, rfl, by decide +kernel, by decide +kernel⟩
noncomputable def b__law_text : DSt :=
  sSeq (sSet 3 (mCall 1 r__law_letters (aCons (mVar 1) (aNil))))
      (sSeq (sSet 3 (mOp gAdd (mOp gAdd (mVar 3) (mOp gMul (mLst (aCons (mC (.str [10])) (aNil))) (mOp gDiv (mB gLen (aCons (mVar 3) aNil)) (mC (.int 4))))) (mSl (mVar 3) (oSome (mC (.int 3))) (oNone))))
      (sRet (mMt "str" kJoin (mC (.str [])) (aCons (mCompX (iRange1 (aCons (mCall 2 r__law_taken (aCons (mVar 0) (aCons (mOp gAdd (mVar 2) (mC (.int 1))) (aNil)))) aNil)) (gtName 4) (tTrue) (mCall 2 r__law_pick (aCons (mVar 0) (aCons (mVar 3) (aNil)))) [4]) aNil))))
noncomputable def r__law_text : List D → Mem → Res D := runDef 3 5 b__law_text

abbrev s__law_odd_text : Stmt := topS 50
theorem sc__law_odd_text : FnScope ["row"] ["row"] (defScope s__law_odd_text) := ⟨rfl, rfl, rfl, by decide +kernel, rfl, by decide +kernel, by decide +kernel⟩
noncomputable def b__law_odd_text : DSt :=
  sRet (mCall 2 r__law_pick (aCons (mVar 0) (aCons (mLst (aCons (mC .non) (aCons (mC (.int 3)) (aCons (mTup (aCons (mC (.str [97])) (aNil))) (aCons (mLst (aCons (mC (.str [97])) (aNil))) (aCons (mC (.str [9])) (aCons (mC (.str [97, 127])) (aCons (mOp gMulS (mC (.str [97])) (mC (.int 2001))) (aCons (mC (.bl true)) (aCons (mC (.flt 4609434218613702656)) (aNil))))))))))) (aNil))))
noncomputable def r__law_odd_text : List D → Mem → Res D := runDef 1 1 b__law_odd_text

abbrev s__law_code : Stmt := topS 51
theorem sc__law_code : FnScope ["text", "sign"] ["text"] (defScope s__law_code) := ⟨rfl, rfl, rfl, by decide +kernel, rfl, by decide +kernel, by decide +kernel⟩
noncomputable def b__law_code : DSt :=
  sRet (mIf (tV (mOp gNe (mVar 0) (mC (.str [])))) (mMt "str" kJoin (mC (.str [])) (aCons (mCompX (iAny (mVar 0)) (gtName 1) (tTrue) (mGet2 (mDisp (prCons (mC (.str [10])) (mC (.str [126, 110])) (prCons (mC (.str [32])) (mC (.str [126, 115])) (prCons (mC (.str [126])) (mC (.str [126, 116])) (prNil))))) (mVar 1) (mVar 1)) [1]) aNil)) (mC (.str [126, 101])))
noncomputable def r__law_code : List D → Mem → Res D := runDef 1 2 b__law_code

abbrev s__law_uncode : Stmt := topS 52
theorem sc__law_uncode : FnScope ["word", "pieces", "found", "is_code", "k", "sign"] ["word"] (defScope s__law_uncode) := ⟨rfl, rfl, rfl, by decide +kernel, rfl, by decide +kernel, by decide +kernel⟩
noncomputable def b__law_uncode : DSt :=
  sSeq (sIf (tV (mOp gEq (mVar 0) (mC (.str [126, 101]))))
       (sRet (mTup (aCons (mC (.str [])) (aNil))))
       (sNil))
      (sSeq (sSet 1 (mMt "str" kSplit (mVar 0) (aCons (mC (.str [126])) aNil)))
      (sSeq (sIf (mOr (tV (mOp gEq (mVar 0) (mC (.str [])))) (tV (mOp gNe (mCompX (iAny (mVar 0)) (gtName 5) (mNot (tV (mChain gLe gLe (mC (.str [33])) (mVar 5) (mC (.str [126]))))) (mVar 5) [5]) (mLst (aNil)))))
       (sRet (mTup (aNil)))
       (sNil))
      (sSeq (sAsg (mTup (aCons (mC (.str [])) (aCons (mC (.bl false)) (aNil)))) (gtTup 2 (gtCons (gtName 2) (gtCons (gtName 3) (gtNil)))))
      (sSeq (sFor (iRange1 (aCons (mB gLen (aCons (mVar 0) aNil)) aNil)) (gtName 4)
       (sSeq (sIf (mAnd (tV (mVar 3)) (tV (mOp (gIn true) (mOp gIx (mVar 0) (mVar 4)) (mC (.str [110, 115, 116])))))
        (sRet (mTup (aNil)))
        (sNil))
       (sSeq (sSet 2 (mOp gAdd (mVar 2) (mIf (tV (mVar 3)) (mOp gIx (mDisp (prCons (mC (.str [110])) (mC (.str [10])) (prCons (mC (.str [115])) (mC (.str [32])) (prCons (mC (.str [116])) (mC (.str [126])) (prNil))))) (mOp gIx (mVar 0) (mVar 4))) (mIf (tV (mOp gNe (mOp gIx (mVar 0) (mVar 4)) (mC (.str [126])))) (mOp gIx (mVar 0) (mVar 4)) (mC (.str []))))))
       (sSet 3 (vAnd (mOp gEq (mOp gIx (mVar 0) (mVar 4)) (mC (.str [126]))) (vNot (mVar 3)))))))
      (sRet (mIf (mAnd (mNot (tV (mVar 3))) (mAnd (tV (mOp gLe (mB gLen (aCons (mVar 2) aNil)) (mC (.int 2000)))) (tV (mOp gGt (mB gLen (aCons (mVar 1) aNil)) (mC (.int 0)))))) (mTup (aCons (mVar 2) (aNil))) (mTup (aNil))))))))
noncomputable def r__law_uncode : List D → Mem → Res D := runDef 1 6 b__law_uncode

abbrev s__law_is_count : Stmt := topS 53
theorem sc__law_is_count : FnScope ["text", "sign"] ["text"] (defScope s__law_is_count) := ⟨rfl, rfl, rfl, by decide +kernel, rfl, by decide +kernel, by decide +kernel⟩
noncomputable def b__law_is_count : DSt :=
  sRet (vAnd (mChain gLe gLe (mC (.int 1)) (mB gLen (aCons (mVar 0) aNil)) (mC (.int 4))) (vAnd (mOp gEq (mCompX (iAny (mVar 0)) (gtName 1) (tV (mOp (gIn true) (mVar 1) (mC (.str [48, 49, 50, 51, 52, 53, 54, 55, 56, 57])))) (mVar 1) [1]) (mLst (aNil))) (vOr (mOp gNe (mOp gIx (mVar 0) (mC (.int 0))) (mC (.str [48]))) (mOp gEq (mVar 0) (mC (.str [48]))))))
noncomputable def r__law_is_count : List D → Mem → Res D := runDef 1 2 b__law_is_count

abbrev s__law_uncode_path : Stmt := topS 54
theorem sc__law_uncode_path : FnScope ["text", "parts", "part"] ["text"] (defScope s__law_uncode_path) := ⟨rfl, rfl, rfl, by decide +kernel, rfl, by decide +kernel, by decide +kernel⟩
noncomputable def b__law_uncode_path : DSt :=
  sSeq (sIf (tV (mOp gEq (mVar 0) (mC (.str [46]))))
       (sRet (mTup (aCons (mTup (aNil)) (aNil))))
       (sNil))
      (sSeq (sSet 1 (mMt "str" kSplit (mVar 0) (aCons (mC (.str [47])) aNil)))
      (sRet (mIf (tV (mOp gEq (mCompX (iAny (mVar 1)) (gtName 2) (mNot (tV (mCall 1 r__law_is_count (aCons (mVar 2) (aNil))))) (mVar 2) [2]) (mLst (aNil)))) (mTup (aCons (mB gTuple (aCons (mCompX (iAny (mVar 1)) (gtName 2) (tTrue) (mB gInt (aCons (mVar 2) aNil)) [2]) aNil)) (aNil))) (mTup (aNil)))))
noncomputable def r__law_uncode_path : List D → Mem → Res D := runDef 1 3 b__law_uncode_path

abbrev s__law_path_word : Stmt := topS 55
theorem sc__law_path_word : FnScope ["path", "step"] ["path"] (defScope s__law_path_word) := ⟨rfl, rfl, rfl, by decide +kernel, rfl, by decide +kernel, by decide +kernel⟩
noncomputable def b__law_path_word : DSt :=
  sRet (mIf (tV (mOp gNe (mVar 0) (mTup (aNil)))) (mMt "str" kJoin (mC (.str [47])) (aCons (mCompX (iAny (mVar 0)) (gtName 1) (tTrue) (mB gStr (aCons (mVar 1) aNil)) [1]) aNil)) (mC (.str [46])))
noncomputable def r__law_path_word : List D → Mem → Res D := runDef 1 2 b__law_path_word

abbrev s__law_spoiled_line : Stmt := topS 56
theorem sc__law_spoiled_line : FnScope ["row", "line", "words", "at", "k", "found"] ["row", "line"] (defScope s__law_spoiled_line) := ⟨rfl, rfl, rfl, by decide +kernel, rfl, by decide +kernel, by decide +kernel⟩
noncomputable def b__law_spoiled_line : DSt :=
  sSeq (sPar 2 3 (aCons (mMt "str" kSplit (mVar 1) (aCons (mC (.str [32])) aNil)) (aCons (mCall 2 r__law_taken (aCons (mVar 0) (aCons (mOp gAdd (mB gLen (aCons (mVar 1) aNil)) (mC (.int 1))) (aNil)))) aNil)))
      (sSeq (sSet 4 (mCall 2 r__law_taken (aCons (mVar 0) (aCons (mC (.int 6)) (aNil)))))
      (sSeq (sIf (tV (mOp gEq (mVar 4) (mC (.int 0))))
       (sRet (mOp gAdd (mSl (mVar 1) (oNone) (oSome (mVar 3))) (mSl (mVar 1) (oSome (mOp gAdd (mVar 3) (mC (.int 1)))) (oNone))))
       (sNil))
      (sSeq (sIf (tV (mOp gEq (mVar 4) (mC (.int 1))))
       (sRet (mOp gAdd (mOp gAdd (mSl (mVar 1) (oNone) (oSome (mVar 3))) (mCall 2 r__law_pick (aCons (mVar 0) (aCons (mLst (aCons (mC (.str [32])) (aCons (mC (.str [48])) (aCons (mC (.str [49])) (aCons (mC (.str [45])) (aCons (mC (.str [97])) (aCons (mC (.str [47])) (aCons (mC (.str [126])) (aCons (mC (.str [126, 110])) (aCons (mC (.str [42])) (aCons (mC (.str [46])) (aNil)))))))))))) (aNil))))) (mSl (mVar 1) (oSome (mVar 3)) (oNone))))
       (sNil))
      (sSeq (sIf (tV (mOp gEq (mVar 4) (mC (.int 2))))
       (sRet (mMt "str" kJoin (mC (.str [32])) (aCons (mSl (mVar 2) (oNone) (oSome (mNeg (mC (.int 1))))) aNil)))
       (sNil))
      (sSeq (sIf (tV (mOp gEq (mVar 4) (mC (.int 3))))
       (sRet (mOp gAdd (mVar 1) (mCall 2 r__law_pick (aCons (mVar 0) (aCons (mLst (aCons (mC (.str [32])) (aCons (mC (.str [32, 49])) (aCons (mC (.str [48])) (aCons (mC (.str [32, 122, 122])) (aCons (mC (.str [45])) (aNil))))))) (aNil))))))
       (sNil))
      (sSeq (sIf (tV (mOp gEq (mVar 4) (mC (.int 4))))
       (sRet (mOp gAdd (mOp gAdd (mSl (mVar 1) (oNone) (oSome (mVar 3))) (mCall 2 r__law_pick (aCons (mVar 0) (aCons (mLst (aCons (mC (.str [50])) (aCons (mC (.str [97])) (aCons (mC (.str [122])) (aCons (mC (.str [45])) (aCons (mC (.str [48])) (aCons (mC (.str [126])) (aCons (mC (.str [43])) (aCons (mC (.str [63])) (aNil)))))))))) (aNil))))) (mSl (mVar 1) (oSome (mOp gAdd (mVar 3) (mC (.int 1)))) (oNone))))
       (sNil))
      (sSeq (sSet 5 (mLst (aCons (mC (.str [])) (aCons (mC (.str [32])) (aCons (mC (.str [102, 111, 108, 105, 111])) (aCons (mC (.str [115, 97, 121])) (aCons (mC (.str [100, 114, 111, 112])) (aCons (mC (.str [100, 114, 111, 112, 32, 48, 49])) (aCons (mC (.str [100, 114, 111, 112, 32, 45, 49])) (aCons (mC (.str [115, 101, 116, 32, 48, 32, 48])) (aCons (mC (.str [115, 101, 116, 32, 48, 32, 48, 32, 97, 126])) (aCons (mC (.str [115, 101, 116, 32, 48, 48, 32, 49, 32, 97])) (aCons (mC (.str [115, 104, 105, 101, 108, 100, 32, 35, 35])) (aCons (mC (.str [115, 104, 111, 114, 116, 32, 49])) (aCons (mC (.str [108, 105, 110, 101, 32, 35, 32, 97, 110, 110, 32, 100, 101, 101, 112])) (aNil))))))))))))))))
      (sRet (mCall 2 r__law_pick (aCons (mVar 0) (aCons (mOp gAdd (mVar 5) (mLst (aCons (mC (.str [119, 105, 100, 116, 104, 32, 49, 48, 48, 48, 48])) (aCons (mC (.str [114, 101, 102, 32, 65, 110, 110])) (aCons (mC (.str [115, 111, 117, 110, 100])) (aCons (mC (.str [97, 116, 63, 32, 49, 32, 50])) (aCons (mC (.str [108, 105, 110, 101, 63, 32, 48, 49])) (aCons (mC (.str [102, 105, 110, 100, 63, 32, 112, 97, 103, 101])) (aCons (mC (.str [110, 111, 100, 101, 63, 32, 47])) (aCons (mC (.str [112, 97, 105, 114, 32, 91, 32, 93, 32, 103, 117, 115, 32, 104, 101, 97, 100])) (aNil))))))))))) (aNil))))))))))))
noncomputable def r__law_spoiled_line : List D → Mem → Res D := runDef 2 6 b__law_spoiled_line

abbrev s__law_read_pattern : Stmt := topS 57
theorem sc__law_read_pattern : FnScope ["text", "words", "found", "part", "rest", "pieces"] ["text"] (defScope s__law_read_pattern) := ⟨rfl, rfl, rfl, by decide +kernel, rfl, by decide +kernel, by decide +kernel⟩
noncomputable def b__law_read_pattern : DSt :=
  sSeq (sPar 1 2 (aCons (mLst (aCons (mC (.str [42])) (aCons (mC (.str [112, 97, 103, 101])) (aCons (mC (.str [113, 117, 111, 116, 101])) (aCons (mC (.str [108, 105, 115, 116])) (aCons (mC (.str [105, 116, 101, 109])) (aCons (mC (.str [104, 101, 97, 100])) (aCons (mC (.str [114, 97, 119])) (aCons (mC (.str [102, 101, 110, 99, 101])) (aCons (mC (.str [112, 97, 114, 97])) (aCons (mC (.str [108, 105, 110, 101])) (aCons (mC (.str [112, 97, 105, 114])) (aCons (mC (.str [116, 111, 114, 110])) (aCons (mC (.str [116, 101, 120, 116])) (aNil))))))))))))))) (aCons (mTup (aNil)) aNil)))
      (sSeq (sFor (iAny (mMt "str" kSplit (mVar 0) (aCons (mC (.str [47])) aNil))) (gtName 3)
       (sSeq (sSet 4 (mIf (tV (mOp gEq (mSl (mVar 3) (oNone) (oSome (mC (.int 1)))) (mC (.str [43])))) (mSl (mVar 3) (oSome (mC (.int 1))) (oNone)) (mVar 3)))
       (sSeq (sSet 5 (mMt "str" kSplit (mVar 4) (aCons (mC (.str [58])) aNil)))
       (sSeq (sIf (mOr (tV (mOp gNe (mB gLen (aCons (mVar 5) aNil)) (mC (.int 2)))) (mOr (tV (mOp (gIn true) (mOp gIx (mVar 5) (mC (.int 0))) (mVar 1))) (mAnd (tV (mOp gNe (mOp gIx (mVar 5) (mC (.int 1))) (mC (.str [42])))) (mNot (tV (mCall 1 r__law_is_name (aCons (mOp gIx (mVar 5) (mC (.int 1))) (aNil))))))))
        (sRet (mTup (aNil)))
        (sNil))
       (sSet 2 (mOp gAdd (mVar 2) (mTup (aCons (mTup (aCons (mIf (tV (mOp gNe (mOp gIx (mVar 5) (mC (.int 0))) (mC (.str [42])))) (mOp gIx (mVar 5) (mC (.int 0))) (mC (.str []))) (aCons (mIf (tV (mOp gNe (mOp gIx (mVar 5) (mC (.int 1))) (mC (.str [42])))) (mOp gIx (mVar 5) (mC (.int 1))) (mC (.str []))) (aCons (mOp gEq (mSl (mVar 3) (oNone) (oSome (mC (.int 1)))) (mC (.str [43]))) (aNil))))) (aNil)))))))))
      (sRet (mIf (tV (mOp gLe (mB gLen (aCons (mVar 2) aNil)) (mC (.int 6)))) (mTup (aCons (mVar 2) (aNil))) (mTup (aNil)))))
noncomputable def r__law_read_pattern : List D → Mem → Res D := runDef 1 6 b__law_read_pattern

noncomputable def m_lam_0 : DM := mCall 1 r_read_code (aCons (mOp gIx (mVar 1) (mC (.int 0))) (aNil))
noncomputable def cr_0 : List D → List D → Mem → Res D := runLam 1 2 m_lam_0
theorem lf_0 : ∀ y ∈ (lamw 0).scope.names, y.2 = NameKind.free → (defScope (topS 58)).names.lookup y.1 = some NameKind.cell ∨ (defScope (topS 58)).names.lookup y.1 = some NameKind.free := by decide +kernel
noncomputable def m_lam_1 : DM := mCall 1 r_read_path (aCons (mOp gIx (mVar 1) (mC (.int 1))) (aNil))
noncomputable def cr_1 : List D → List D → Mem → Res D := runLam 1 2 m_lam_1
theorem lf_1 : ∀ y ∈ (lamw 1).scope.names, y.2 = NameKind.free → (defScope (topS 58)).names.lookup y.1 = some NameKind.cell ∨ (defScope (topS 58)).names.lookup y.1 = some NameKind.free := by decide +kernel
noncomputable def m_lam_2 : DM := mCall 1 r_read_pattern (aCons (mOp gIx (mVar 1) (mC (.int 2))) (aNil))
noncomputable def cr_2 : List D → List D → Mem → Res D := runLam 1 2 m_lam_2
theorem lf_2 : ∀ y ∈ (lamw 2).scope.names, y.2 = NameKind.free → (defScope (topS 58)).names.lookup y.1 = some NameKind.cell ∨ (defScope (topS 58)).names.lookup y.1 = some NameKind.free := by decide +kernel
noncomputable def m_lam_3 : DM := mCall 1 r_read_code (aCons (mVar 1) (aNil))
noncomputable def cr_3 : List D → List D → Mem → Res D := runLam 1 2 m_lam_3
theorem lf_3 : ∀ y ∈ (lamw 3).scope.names, y.2 = NameKind.free → (defScope (topS 58)).names.lookup y.1 = some NameKind.cell ∨ (defScope (topS 58)).names.lookup y.1 = some NameKind.free := by decide +kernel
noncomputable def m_lam_4 : DM := mCall 1 r_read_path (aCons (mVar 1) (aNil))
noncomputable def cr_4 : List D → List D → Mem → Res D := runLam 1 2 m_lam_4
theorem lf_4 : ∀ y ∈ (lamw 4).scope.names, y.2 = NameKind.free → (defScope (topS 58)).names.lookup y.1 = some NameKind.cell ∨ (defScope (topS 58)).names.lookup y.1 = some NameKind.free := by decide +kernel
noncomputable def m_lam_5 : DM := mCall 1 r_read_pattern (aCons (mVar 1) (aNil))
noncomputable def cr_5 : List D → List D → Mem → Res D := runLam 1 2 m_lam_5
theorem lf_5 : ∀ y ∈ (lamw 5).scope.names, y.2 = NameKind.free → (defScope (topS 58)).names.lookup y.1 = some NameKind.cell ∨ (defScope (topS 58)).names.lookup y.1 = some NameKind.free := by decide +kernel
noncomputable def m_lam_6 : DM := mCall 1 r_read_code (aCons (mOp gMulS (mC (.str [97])) (mC (.int 2001))) (aNil))
noncomputable def cr_6 : List D → List D → Mem → Res D := runLam 1 1 m_lam_6
theorem lf_6 : ∀ y ∈ (lamw 6).scope.names, y.2 = NameKind.free → (defScope (topS 58)).names.lookup y.1 = some NameKind.cell ∨ (defScope (topS 58)).names.lookup y.1 = some NameKind.free := by decide +kernel
noncomputable def m_lam_7 : DM := mCall 1 r_code_of (aCons (mVar 1) (aNil))
noncomputable def cr_7 : List D → List D → Mem → Res D := runLam 1 2 m_lam_7
theorem lf_7 : ∀ y ∈ (lamw 7).scope.names, y.2 = NameKind.free → (defScope (topS 58)).names.lookup y.1 = some NameKind.cell ∨ (defScope (topS 58)).names.lookup y.1 = some NameKind.free := by decide +kernel
noncomputable def m_lam_8 : DM := mCall 1 r_path_text (aCons (mVar 1) (aNil))
noncomputable def cr_8 : List D → List D → Mem → Res D := runLam 1 2 m_lam_8
theorem lf_8 : ∀ y ∈ (lamw 8).scope.names, y.2 = NameKind.free → (defScope (topS 58)).names.lookup y.1 = some NameKind.cell ∨ (defScope (topS 58)).names.lookup y.1 = some NameKind.free := by decide +kernel
noncomputable def m_lam_9 : DM := mCall 1 r_pattern_text (aCons (mVar 1) (aNil))
noncomputable def cr_9 : List D → List D → Mem → Res D := runLam 1 2 m_lam_9
theorem lf_9 : ∀ y ∈ (lamw 9).scope.names, y.2 = NameKind.free → (defScope (topS 58)).names.lookup y.1 = some NameKind.cell ∨ (defScope (topS 58)).names.lookup y.1 = some NameKind.free := by decide +kernel
noncomputable def m_lam_10 : DM := mCall 1 r_pattern_text (aCons (mTup (aNil)) (aNil))
noncomputable def cr_10 : List D → List D → Mem → Res D := runLam 1 1 m_lam_10
theorem lf_10 : ∀ y ∈ (lamw 10).scope.names, y.2 = NameKind.free → (defScope (topS 58)).names.lookup y.1 = some NameKind.cell ∨ (defScope (topS 58)).names.lookup y.1 = some NameKind.free := by decide +kernel
noncomputable def crun : Nat → List D → List D → Mem → Res D
  | 0 => cr_0
  | 1 => cr_1
  | 2 => cr_2
  | 3 => cr_3
  | 4 => cr_4
  | 5 => cr_5
  | 6 => cr_6
  | 7 => cr_7
  | 8 => cr_8
  | 9 => cr_9
  | 10 => cr_10
  | _ => fun _ _ _ => .stuck
abbrev s__law_told : Stmt := topS 44
theorem sc__law_told : FnScope ["call", "e"] ["call"] (defScope s__law_told) := ⟨rfl, rfl, rfl, by decide +kernel, rfl, by decide +kernel, by decide +kernel⟩
noncomputable def b__law_told : DSt :=
  sTold cat_MarkError 1 (sRet (mTup (aCons (mC (.str [116, 111, 108, 100])) (aCons (mClo lamS 0 crun 0 aNil) (aNil))))) r__law_refusal
noncomputable def r__law_told : List D → Mem → Res D := runDef 1 2 b__law_told

abbrev s_law : Stmt := topS 58
theorem sc_law : FnScope ["script", "row", "told", "turn", "text", "word", "path", "pattern", "line", "k", "ones", "dues", "made", "odd", "calls", "bad", "wrong", "call", "one", "i"] ["script"] (defScope s_law) := ⟨rfl, rfl, rfl, by decide +kernel, rfl, by decide +kernel, by decide +kernel⟩
noncomputable def b_law : DSt :=
  sSeq (sSet 1 (mNew (aCons (mVar 0) (aCons (mC (.int 0)) (aCons (mC (.int 20333)) (aCons (mC (.int 0)) (aNil)))))))
      (sSeq (sSet 2 (mCallL 1 r__law_marks [] js_law (aCons (mVar 1) (aNil))))
      (sSeq (sFor (iRange1 (aCons (mC (.int 6)) aNil)) (gtName 3)
       (sSeq (sSet 4 (mCallL 3 r__law_text [] js_law (aCons (mVar 1) (aCons (mTup (aCons (mOp gIx (mVar 2) (mC (.int 0))) (aCons (mOp gIx (mVar 2) (mC (.int 1))) (aCons (mC (.str [126])) (aNil))))) (aCons (mC (.int 9)) (aNil))))))
       (sSeq (sSet 5 (mCallL 1 r__law_code [] js_law (aCons (mVar 4) (aNil))))
       (sSeq (sSet 6 (mB gTuple (aCons (mCompL (iRange1 (aCons (mCallL 2 r__law_taken [] js_law (aCons (mVar 1) (aCons (mC (.int 4)) (aNil)))) aNil)) (gtName 9) (tTrue) (mCall 2 r__law_pick (aCons (mVar 1) (aCons (mLst (aCons (mC (.int 0)) (aCons (mC (.int 1)) (aCons (mC (.int 12)) (aCons (mC (.int 9999)) (aCons (mC (.int 10)) (aNil))))))) (aNil)))) [9] [] js_law) aNil)))
       (sSeq (sSet 7 (mB gTuple (aCons (mCompL (iRange1 (aCons (mOp gAdd (mC (.int 1)) (mCallL 2 r__law_taken [] js_law (aCons (mVar 1) (aCons (mC (.int 6)) (aNil))))) aNil)) (gtName 9) (tTrue) (mTup (aCons (mCall 2 r__law_pick (aCons (mVar 1) (aCons (mLst (aCons (mC (.str [])) (aCons (mC (.str [112, 97, 103, 101])) (aCons (mC (.str [116, 101, 120, 116])) (aCons (mC (.str [116, 111, 114, 110])) (aNil)))))) (aNil)))) (aCons (mCall 2 r__law_pick (aCons (mVar 1) (aCons (mLst (aCons (mC (.str [])) (aCons (mC (.str [97, 110, 110])) (aCons (mC (.str [97, 98, 99, 100, 101, 102, 103, 104])) (aNil))))) (aNil)))) (aCons (mOp gEq (mCall 2 r__law_taken (aCons (mVar 1) (aCons (mC (.int 2)) (aNil)))) (mC (.int 0))) (aNil))))) [9] [] js_law) aNil)))
       (sSeq (sSet 8 (mMt "str" kJoin (mC (.str [47])) (aCons (mCompL (iAny (mVar 7)) (gtName 18) (tTrue) (mOp gAdd (mOp gAdd (mOp gAdd (mIf (tV (mOp gIx (mVar 18) (mC (.int 2)))) (mC (.str [43])) (mC (.str []))) (mIf (tV (mOp gNe (mOp gIx (mVar 18) (mC (.int 0))) (mC (.str [])))) (mOp gIx (mVar 18) (mC (.int 0))) (mC (.str [42])))) (mC (.str [58]))) (mIf (tV (mOp gNe (mOp gIx (mVar 18) (mC (.int 1))) (mC (.str [])))) (mOp gIx (mVar 18) (mC (.int 1))) (mC (.str [42])))) [18] [] js_law) aNil)))
       (sSeq (sIf (mNot (tV (mCallL 2 (r__law_alike 6) [] js_law (aCons (mTup (aCons (mCallL 1 r_code_of [] js_law (aCons (mVar 4) (aNil))) (aCons (mCallL 1 r_read_code [] js_law (aCons (mVar 5) (aNil))) (aCons (mCallL 1 r_path_text [] js_law (aCons (mVar 6) (aNil))) (aCons (mCallL 1 r_read_path [] js_law (aCons (mCallL 1 r__law_path_word [] js_law (aCons (mVar 6) (aNil))) (aNil))) (aNil)))))) (aCons (mTup (aCons (mVar 5) (aCons (mVar 4) (aCons (mCallL 1 r__law_path_word [] js_law (aCons (mVar 6) (aNil))) (aCons (mVar 6) (aNil)))))) (aNil))))))
        (sRet (mC (.bl false)))
        (sNil))
       (sSeq (sIf (mNot (tV (mCallL 2 (r__law_alike 6) [] js_law (aCons (mTup (aCons (mCallL 1 r_pattern_text [] js_law (aCons (mVar 7) (aNil))) (aCons (mCallL 1 r_read_pattern [] js_law (aCons (mVar 8) (aNil))) (aCons (mCallL 1 r_is_pattern [] js_law (aCons (mVar 7) (aNil))) (aNil))))) (aCons (mTup (aCons (mVar 8) (aCons (mVar 7) (aCons (mC (.bl true)) (aNil))))) (aNil))))))
        (sRet (mC (.bl false)))
        (sNil))
       (sFor (iRange1 (aCons (mC (.int 3)) aNil)) (gtName 9)
        (sSeq (sSet 10 (mCompL (iAny (mLst (aCons (mVar 5) (aCons (mCallL 1 r__law_path_word [] js_law (aCons (mVar 6) (aNil))) (aCons (mVar 8) (aNil)))))) (gtName 18) (tTrue) (mCall 2 r__law_spoiled_line (aCons (mVar 1) (aCons (mVar 18) (aNil)))) [18] [] js_law))
        (sSeq (sSet 11 (mLst (aCons (mCallL 1 r__law_uncode [] js_law (aCons (mOp gIx (mVar 10) (mC (.int 0))) (aNil))) (aCons (mCallL 1 r__law_uncode_path [] js_law (aCons (mOp gIx (mVar 10) (mC (.int 1))) (aNil))) (aCons (mCallL 1 r__law_read_pattern [] js_law (aCons (mOp gIx (mVar 10) (mC (.int 2))) (aNil))) (aNil))))))
        (sSeq (sSet 12 (mLst (aCons (mCallL 1 r__law_told [0] js_law (aCons (mLam 0) (aNil))) (aCons (mCallL 1 r__law_told [1] js_law (aCons (mLam 1) (aNil))) (aCons (mCallL 1 r__law_told [2] js_law (aCons (mLam 2) (aNil))) (aNil))))))
        (sIf (mNot (tV (mCallL 2 r__law_same [0, 1, 2] js_law (aCons (mVar 12) (aCons (mCompL (iRange1 (aCons (mC (.int 3)) aNil)) (gtName 19) (tTrue) (mIf (tV (mOp gNe (mOp gIx (mVar 11) (mVar 19)) (mTup (aNil)))) (mTup (aCons (mC (.str [116, 111, 108, 100])) (aCons (mOp gIx (mOp gIx (mVar 11) (mVar 19)) (mC (.int 0))) (aNil)))) (mTup (aCons (mC (.str [66, 97, 100, 78, 117, 109, 98, 101, 114])) (aCons (mOp gIx (mVar 10) (mVar 19)) (aNil))))) [19] [] js_law) (aNil))))))
         (sRet (mC (.bl false)))
         (sNil))))))))))))))
      (sSeq (sSet 13 (mCallL 2 r__law_pick [] js_law (aCons (mVar 1) (aCons (mLst (aCons (mC .non) (aCons (mC (.int 3)) (aCons (mLst (aCons (mC (.str [97])) (aNil))) (aCons (mTup (aCons (mC (.str [97])) (aNil))) (aCons (mC (.bl true)) (aCons (mC (.str [])) (aNil)))))))) (aNil)))))
      (sSeq (sSet 14 (mLst (aCons (mLam 3) (aCons (mLam 4) (aCons (mLam 5) (aCons (mLam 6) (aNil)))))))
      (sSeq (sIf (mNot (tV (mCallL 2 r__law_same [] js_law (aCons (mCompL (iAny (mVar 14)) (gtName 17) (tTrue) (mCall 1 r__law_told (aCons (mVar 17) (aNil))) [17] [3, 4, 5, 6] js_law) (aCons (mOp gAdd (mOp gMul (mLst (aCons (mTup (aCons (mC (.str [66, 97, 100, 78, 117, 109, 98, 101, 114])) (aCons (mVar 13) (aNil)))) (aNil))) (mC (.int 3))) (mLst (aCons (mTup (aCons (mC (.str [66, 97, 100, 78, 117, 109, 98, 101, 114])) (aCons (mOp gMulS (mC (.str [97])) (mC (.int 2001))) (aNil)))) (aNil)))) (aNil))))))
       (sRet (mC (.bl false)))
       (sNil))
      (sSeq (sAsg (mTup (aCons (mCallL 1 r__law_odd_text [] js_law (aCons (mVar 1) (aNil))) (aCons (mCallL 2 r__law_pick [] js_law (aCons (mVar 1) (aCons (mLst (aCons (mC .non) (aCons (mLst (aNil)) (aCons (mTup (aCons (mNeg (mC (.int 1))) (aNil))) (aCons (mTup (aCons (mC (.int 10000)) (aNil))) (aCons (mTup (aCons (mC (.bl true)) (aNil))) (aCons (mTup (aCons (mC (.str [48])) (aNil))) (aCons (mC (.int 0)) (aCons (mTup (aCons (mTup (aNil)) (aNil))) (aNil)))))))))) (aNil)))) (aNil)))) (gtTup 2 (gtCons (gtName 15) (gtCons (gtName 16) (gtNil)))))
      (sSeq (sSet 14 (mLst (aCons (mLam 7) (aCons (mLam 8) (aCons (mLam 9) (aCons (mLam 10) (aNil)))))))
      (sRet (mCallL 2 r__law_same [] js_law (aCons (mCompL (iAny (mVar 14)) (gtName 17) (tTrue) (mCall 1 r__law_told (aCons (mVar 17) (aNil))) [17] [7, 8, 9, 10] js_law) (aCons (mLst (aCons (mTup (aCons (mC (.str [66, 97, 100, 78, 117, 109, 98, 101, 114])) (aCons (mVar 15) (aNil)))) (aCons (mTup (aCons (mC (.str [66, 97, 100, 78, 117, 109, 98, 101, 114])) (aCons (mVar 16) (aNil)))) (aCons (mTup (aCons (mC (.str [66, 97, 100, 78, 117, 109, 98, 101, 114])) (aCons (mVar 16) (aNil)))) (aCons (mTup (aCons (mC (.str [66, 97, 100, 78, 117, 109, 98, 101, 114])) (aCons (mTup (aNil)) (aNil)))) (aNil)))))) (aNil))))))))))))
noncomputable def r_law : List D → Mem → Res D := runDefL 1 20 b_law

section
variable (P : Program) (w : World) (K : PySem.W.Frag) (mg : Str → Option Value) (base : Heap) (Γ : Gam)
/-- what the top has written -/
structure Hy : Prop where
  gk : K = Γ.K
  gp : P = Γ.P
  gw : w = Γ.w
  gf : Γ.fld = fldT
  gl : Γ.lam = lamw
  gce : Γ.cells = none
  ghot : Γ.hot = none
  m_ValueError : mg "ValueError" = none
  m_all : mg "all" = none
  m_bool : mg "bool" = none
  m_int : mg "int" = none
  m_isinstance : mg "isinstance" = none
  m_len : mg "len" = none
  m_list : mg "list" = none
  m_range : mg "range" = none
  m_repr : mg "repr" = none
  m_set : mg "set" = none
  m_sorted : mg "sorted" = none
  m_str : mg "str" = none
  m_tuple : mg "tuple" = none
  c_BREAK : Cst K P mg Γ "BREAK" (.str [10])
  c_CODES : Cst K P mg Γ "CODES" (.dic [.inr (txt [10]), .inr (txt [32]), .inr (txt [126])] [(.str [126, 110]), (.str [126, 115]), (.str [126, 116])])
  c_LONGEST : Cst K P mg Γ "LONGEST" (.int 8)
  c_MOST_STEPS : Cst K P mg Γ "MOST_STEPS" (.int 6)
  c_MOST_TEXT : Cst K P mg Γ "MOST_TEXT" (.int 2000)
  c_NOTHING : Cst K P mg Γ "NOTHING" (.str [126, 101])
  c_SIGNS : Cst K P mg Γ "SIGNS" (.dic [.inr (txt [110]), .inr (txt [115]), .inr (txt [116])] [(.str [10]), (.str [32]), (.str [126])])
  c_SMALL : Cst K P mg Γ "SMALL" (.str [97, 98, 99, 100, 101, 102, 103, 104, 105, 106, 107, 108, 109, 110, 111, 112, 113, 114, 115, 116, 117, 118, 119, 120, 121, 122])
  c_WORDS : Cst K P mg Γ "WORDS" (.tup [(.str [112, 97, 103, 101]), (.str [113, 117, 111, 116, 101]), (.str [108, 105, 115, 116]), (.str [105, 116, 101, 109]), (.str [104, 101, 97, 100]), (.str [114, 97, 119]), (.str [102, 101, 110, 99, 101]), (.str [112, 97, 114, 97]), (.str [108, 105, 110, 101]), (.str [112, 97, 105, 114]), (.str [116, 111, 114, 110]), (.str [116, 101, 120, 116])])
  x_BadNumber : ExcL P w K mg base Γ 1 "BadNumber" 2 1
  n_BadChange : mg "BadChange" = some (.ref (Γ.cls 5))
  n_BadClaim : mg "BadClaim" = some (.ref (Γ.cls 8))
  n_BadLine : mg "BadLine" = some (.ref (Γ.cls 7))
  n_BadNumber : mg "BadNumber" = some (.ref (Γ.cls 2))
  n_BadPart : mg "BadPart" = some (.ref (Γ.cls 1))
  n_BadPlace : mg "BadPlace" = some (.ref (Γ.cls 4))
  n_BadText : mg "BadText" = some (.ref (Γ.cls 6))
  n_MarkError : mg "MarkError" = some (.ref (Γ.cls 0))
  n_NothingDone : mg "NothingDone" = some (.ref (Γ.cls 9))
  n_Unknown : mg "Unknown" = some (.ref (Γ.cls 3))
  e_BadChange : IsF K Γ.cls sub_BadChange (.ref (Γ.cls 5))
  e_BadClaim : IsF K Γ.cls sub_BadClaim (.ref (Γ.cls 8))
  e_BadLine : IsF K Γ.cls sub_BadLine (.ref (Γ.cls 7))
  e_BadNumber : IsF K Γ.cls sub_BadNumber (.ref (Γ.cls 2))
  e_BadPart : IsF K Γ.cls sub_BadPart (.ref (Γ.cls 1))
  e_BadPlace : IsF K Γ.cls sub_BadPlace (.ref (Γ.cls 4))
  e_BadText : IsF K Γ.cls sub_BadText (.ref (Γ.cls 6))
  e_NothingDone : IsF K Γ.cls sub_NothingDone (.ref (Γ.cls 9))
  e_Unknown : IsF K Γ.cls sub_Unknown (.ref (Γ.cls 3))
  e_ValueError : IsF K Γ.cls sub_ValueError (.type "ValueError")
  k_MarkError : ∀ c, cat_MarkError c = true → PySem.W.exmOne K (.ref (Γ.cls c)) (.ref (Γ.cls 0)) = some true
  o_line : ∀ c, okR c = true → L2.XfC K (Γ.cls c) ∧ PySem.W.findIn K (.ref (Γ.cls c)) "line" = some none
  o_name : ∀ c, okR c = true → L2.XfC K (Γ.cls c) ∧ PySem.W.findIn K (.ref (Γ.cls c)) "name" = some none
  o_part : ∀ c, okR c = true → L2.XfC K (Γ.cls c) ∧ PySem.W.findIn K (.ref (Γ.cls c)) "part" = some none
  o_place : ∀ c, okR c = true → L2.XfC K (Γ.cls c) ∧ PySem.W.findIn K (.ref (Γ.cls c)) "place" = some none
  o_value : ∀ c, okR c = true → L2.XfC K (Γ.cls c) ∧ PySem.W.findIn K (.ref (Γ.cls c)) "value" = some none
  d_is_whole : Df K mg "is_whole" s_is_whole ["value"]
  d_is_name : Df K mg "is_name" s_is_name ["value"]
  d_is_text : Df K mg "is_text" s_is_text ["value"]
  d_is_row : Df K mg "is_row" s_is_row ["value", "size"]
  d_is_count : Df K mg "is_count" s_is_count ["text"]
  d_is_step : Df K mg "is_step" s_is_step ["value"]
  d_is_pattern : Df K mg "is_pattern" s_is_pattern ["value"]
  d_need_pattern : Df K mg "need_pattern" s_need_pattern ["value"]
  d_code_of : Df K mg "code_of" s_code_of ["text"]
  d_read_code : Df K mg "read_code" s_read_code ["word"]
  d_path_text : Df K mg "path_text" s_path_text ["path"]
  d_read_path : Df K mg "read_path" s_read_path ["text"]
  d_step_text : Df K mg "step_text" s_step_text ["step"]
  d_pattern_text : Df K mg "pattern_text" s_pattern_text ["pattern"]
  d_read_step : Df K mg "read_step" s_read_step ["text", "whole"]
  d_read_pattern : Df K mg "read_pattern" s_read_pattern ["text"]
  d__law_taken : Df K mg "_law_taken" s__law_taken ["row", "amount"]
  d__law_pick : Df K mg "_law_pick" s__law_pick ["row", "things"]
  d__law_alike : Df K mg "_law_alike" s__law_alike ["found", "due"]
  d__law_same : Df K mg "_law_same" s__law_same ["found", "due"]
  d__law_refusal : Df K mg "_law_refusal" s__law_refusal ["e"]
  d__law_is_name : Df K mg "_law_is_name" s__law_is_name ["value"]
  d__law_marks : Df K mg "_law_marks" s__law_marks ["row"]
  d__law_letters : Df K mg "_law_letters" s__law_letters ["told"]
  d__law_text : Df K mg "_law_text" s__law_text ["row", "told", "size"]
  d__law_odd_text : Df K mg "_law_odd_text" s__law_odd_text ["row"]
  d__law_code : Df K mg "_law_code" s__law_code ["text"]
  d__law_uncode : Df K mg "_law_uncode" s__law_uncode ["word"]
  d__law_is_count : Df K mg "_law_is_count" s__law_is_count ["text"]
  d__law_uncode_path : Df K mg "_law_uncode_path" s__law_uncode_path ["text"]
  d__law_path_word : Df K mg "_law_path_word" s__law_path_word ["path"]
  d__law_spoiled_line : Df K mg "_law_spoiled_line" s__law_spoiled_line ["row", "line"]
  d__law_read_pattern : Df K mg "_law_read_pattern" s__law_read_pattern ["text"]
  d__law_told : Df K mg "_law_told" s__law_told ["call"]
end
section
variable {P : Program} {w : World} {K : PySem.W.Frag} {mg : Str → Option Value} {base : Heap} {Γ : Gam}
theorem Hy.f_is_whole (h : Hy P w K mg base Γ) : Cl P w K mg base Γ 1 "is_whole" 1 r_is_whole := h.d_is_whole.cl fun f fd F => fn_run F sc_is_whole fun cdv A outer s H E hr => by
    have g : Ok (cxOf (L2N.CX P w) P w K mg base ["value"] "is_whole" (defScope s_is_whole) f cdv A outer s H E) Γ := ⟨h.gk, h.gp, h.gw, hr.units⟩
    have tk : L2N.Takes (cxOf (L2N.CX P w) P w K mg base ["value"] "is_whole" (defScope s_is_whole) f cdv A outer s H E) (fun cls d _ H' => E cls d H') := L2N.takes_of rfl rfl rfl rfl
    have nd := sc_is_whole.nd
    exact ds_one (ds_ret (de_and (q_isi g .int h.m_isinstance h.m_int (q_v 0)) (de_one (de_not (q_isi g .bool h.m_isinstance h.m_bool (q_v 0))))))

theorem Hy.f_is_name (h : Hy P w K mg base Γ) : Cl P w K mg base Γ 1 "is_name" 1 r_is_name := h.d_is_name.cl fun f fd F => fn_run F sc_is_name fun cdv A outer s H E hr => by
    have g : Ok (cxOf (L2N.CX P w) P w K mg base ["value", "sign"] "is_name" (defScope s_is_name) f cdv A outer s H E) Γ := ⟨h.gk, h.gp, h.gw, hr.units⟩
    have tk : L2N.Takes (cxOf (L2N.CX P w) P w K mg base ["value", "sign"] "is_name" (defScope s_is_name) f cdv A outer s H E) (fun cls d _ H' => E cls d H') := L2N.takes_of rfl rfl rfl rfl
    have nd := sc_is_name.nd
    exact ds_cons (ds_if ((dw_or (dt_not (t_val (q_isi g .str h.m_isinstance h.m_str (q_v 0)))) (dw_or1 (dt_not (t_chn opd_le opd_le (de_int) (q_len g h.m_len (q_v 0)) (q_c h.c_LONGEST))))).t)
       (ds_one (ds_ret (de_bl)))
       (ds_nil))
      (ds_one (ds_ret (q_all g h.m_all (q_lc (ts := [1]) g tk nd [("sign", 1)] (by decide) (di_any g (q_v 0)) (blk_by (N := ["value", "sign"]) (sc := defScope s_is_name) (by decide +kernel)) (fun _ _ _ _ _ _ g => (g_name 1 nd)) (fun _ _ _ _ _ _ g => (dts_nil)) (fun _ _ _ _ _ _ _ g tk => q_cmp (opd_in g) (q_v 1) (q_c h.c_SMALL))))))

theorem Hy.f_is_text (h : Hy P w K mg base Γ) : Cl P w K mg base Γ 1 "is_text" 1 r_is_text := h.d_is_text.cl fun f fd F => fn_run F sc_is_text fun cdv A outer s H E hr => by
    have g : Ok (cxOf (L2N.CX P w) P w K mg base ["value", "sign"] "is_text" (defScope s_is_text) f cdv A outer s H E) Γ := ⟨h.gk, h.gp, h.gw, hr.units⟩
    have tk : L2N.Takes (cxOf (L2N.CX P w) P w K mg base ["value", "sign"] "is_text" (defScope s_is_text) f cdv A outer s H E) (fun cls d _ H' => E cls d H') := L2N.takes_of rfl rfl rfl rfl
    have nd := sc_is_text.nd
    exact ds_cons (ds_if ((dw_or (dt_not (t_val (q_isi g .str h.m_isinstance h.m_str (q_v 0)))) (dw_or1 (t_cmp opd_gt (q_len g h.m_len (q_v 0)) (q_c h.c_MOST_TEXT)))).t)
       (ds_one (ds_ret (de_bl)))
       (ds_nil))
      (ds_one (ds_ret (q_all g h.m_all (q_lc (ts := [1]) g tk nd [("sign", 1)] (by decide) (di_any g (q_v 0)) (blk_by (N := ["value", "sign"]) (sc := defScope s_is_text) (by decide +kernel)) (fun _ _ _ _ _ _ g => (g_name 1 nd)) (fun _ _ _ _ _ _ g => (dts_nil)) (fun _ _ _ _ _ _ _ g tk => de_or (q_cmp (opd_eq g) (q_v 1) (q_c h.c_BREAK)) (de_one (q_chn opd_le opd_le (q_s [32]) (q_v 1) (q_s [126]))))))))

theorem Hy.f_is_row (h : Hy P w K mg base Γ) : Cl P w K mg base Γ 1 "is_row" 2 r_is_row := h.d_is_row.cl fun f fd F => fn_run F sc_is_row fun cdv A outer s H E hr => by
    have g : Ok (cxOf (L2N.CX P w) P w K mg base ["value", "size"] "is_row" (defScope s_is_row) f cdv A outer s H E) Γ := ⟨h.gk, h.gp, h.gw, hr.units⟩
    have tk : L2N.Takes (cxOf (L2N.CX P w) P w K mg base ["value", "size"] "is_row" (defScope s_is_row) f cdv A outer s H E) (fun cls d _ H' => E cls d H') := L2N.takes_of rfl rfl rfl rfl
    have nd := sc_is_row.nd
    exact ds_one (ds_ret (de_and (q_isi g .tup h.m_isinstance h.m_tuple (q_v 0)) (de_one (q_cmp (opd_eq g) (q_len g h.m_len (q_v 0)) (q_v 1)))))

theorem Hy.f_is_count (h : Hy P w K mg base Γ) : Cl P w K mg base Γ 1 "is_count" 1 r_is_count := h.d_is_count.cl fun f fd F => fn_run F sc_is_count fun cdv A outer s H E hr => by
    have g : Ok (cxOf (L2N.CX P w) P w K mg base ["text", "sign"] "is_count" (defScope s_is_count) f cdv A outer s H E) Γ := ⟨h.gk, h.gp, h.gw, hr.units⟩
    have tk : L2N.Takes (cxOf (L2N.CX P w) P w K mg base ["text", "sign"] "is_count" (defScope s_is_count) f cdv A outer s H E) (fun cls d _ H' => E cls d H') := L2N.takes_of rfl rfl rfl rfl
    have nd := sc_is_count.nd
    exact ds_cons (ds_if ((dw_or (dt_not (t_chn opd_le opd_le (de_int) (q_len g h.m_len (q_v 0)) (de_int))) (dw_or1 (dt_not (t_val (q_all g h.m_all (q_lc (ts := [1]) g tk nd [("sign", 1)] (by decide) (di_any g (q_v 0)) (blk_by (N := ["text", "sign"]) (sc := defScope s_is_count) (by decide +kernel)) (fun _ _ _ _ _ _ g => (g_name 1 nd)) (fun _ _ _ _ _ _ g => (dts_nil)) (fun _ _ _ _ _ _ _ g tk => q_cmp (opd_in g) (q_v 1) (q_s [48, 49, 50, 51, 52, 53, 54, 55, 56, 57])))))))).t)
       (ds_one (ds_ret (de_bl)))
       (ds_nil))
      (ds_one (ds_ret (de_or (q_cmp (opd_ne g) (q_ix g (q_v 0) (de_int)) (q_s [48])) (de_one (q_cmp (opd_eq g) (q_v 0) (q_s [48]))))))

theorem Hy.f_is_step (h : Hy P w K mg base Γ) : Cl P w K mg base Γ 2 "is_step" 1 r_is_step := h.d_is_step.cl fun f fd F => fn_run F sc_is_step fun cdv A outer s H E hr => by
    have g : Ok (cxOf (L2N.CX P w) P w K mg base ["value"] "is_step" (defScope s_is_step) f cdv A outer s H E) Γ := ⟨h.gk, h.gp, h.gw, hr.units⟩
    have tk : L2N.Takes (cxOf (L2N.CX P w) P w K mg base ["value"] "is_step" (defScope s_is_step) f cdv A outer s H E) (fun cls d _ H' => E cls d H') := L2N.takes_of rfl rfl rfl rfl
    have nd := sc_is_step.nd
    exact ds_cons (ds_if ((dw_or (dt_not (t_val (q_call (h.f_is_row) hr (by decide) tk (q_a (q_v 0) (q_a (de_int) (q_n)))))) (dw_or (dt_not (t_val (q_isi g .str h.m_isinstance h.m_str (q_ix g (q_v 0) (de_int))))) (dw_or1 (dt_not (t_val (q_isi g .str h.m_isinstance h.m_str (q_ix g (q_v 0) (de_int)))))))).t)
       (ds_one (ds_ret (de_bl)))
       (ds_nil))
      (ds_cons (ds_if ((dw_and (t_cmp (opd_ne g) (q_ix g (q_v 0) (de_int)) (q_s [])) (dw_and1 (t_cmp (opd_notin g) (q_ix g (q_v 0) (de_int)) (q_c h.c_WORDS)))).t)
       (ds_one (ds_ret (de_bl)))
       (ds_nil))
      (ds_one (ds_ret (de_and (de_or (q_cmp (opd_eq g) (q_ix g (q_v 0) (de_int)) (q_s [])) (de_one (q_call (h.f_is_name) hr (by decide) tk (q_a (q_ix g (q_v 0) (de_int)) (q_n))))) (de_one (q_isi g .bool h.m_isinstance h.m_bool (q_ix g (q_v 0) (de_int))))))))

theorem Hy.f_is_pattern (h : Hy P w K mg base Γ) : Cl P w K mg base Γ 3 "is_pattern" 1 r_is_pattern := h.d_is_pattern.cl fun f fd F => fn_run F sc_is_pattern fun cdv A outer s H E hr => by
    have g : Ok (cxOf (L2N.CX P w) P w K mg base ["value", "step"] "is_pattern" (defScope s_is_pattern) f cdv A outer s H E) Γ := ⟨h.gk, h.gp, h.gw, hr.units⟩
    have tk : L2N.Takes (cxOf (L2N.CX P w) P w K mg base ["value", "step"] "is_pattern" (defScope s_is_pattern) f cdv A outer s H E) (fun cls d _ H' => E cls d H') := L2N.takes_of rfl rfl rfl rfl
    have nd := sc_is_pattern.nd
    exact ds_one (ds_ret (de_and (q_isi g .tup h.m_isinstance h.m_tuple (q_v 0)) (de_and (q_chn opd_le opd_le (de_int) (q_len g h.m_len (q_v 0)) (q_c h.c_MOST_STEPS)) (de_one (q_all g h.m_all (q_lc (ts := [1]) g tk nd [("step", 1)] (by decide) (di_any g (q_v 0)) (blk_by (N := ["value", "step"]) (sc := defScope s_is_pattern) (by decide +kernel)) (fun _ _ _ _ _ _ g => (g_name 1 nd)) (fun _ _ _ _ _ _ g => (dts_nil)) (fun _ _ _ _ _ _ _ g tk => q_call (h.f_is_step) hr (by decide) tk (q_a (q_v 1) (q_n)))))))))

theorem Hy.f_need_pattern (h : Hy P w K mg base Γ) : Cl P w K mg base Γ 4 "need_pattern" 1 r_need_pattern := h.d_need_pattern.cl fun f fd F => fn_run F sc_need_pattern fun cdv A outer s H E hr => by
    have g : Ok (cxOf (L2N.CX P w) P w K mg base ["value"] "need_pattern" (defScope s_need_pattern) f cdv A outer s H E) Γ := ⟨h.gk, h.gp, h.gw, hr.units⟩
    have tk : L2N.Takes (cxOf (L2N.CX P w) P w K mg base ["value"] "need_pattern" (defScope s_need_pattern) f cdv A outer s H E) (fun cls d _ H' => E cls d H') := L2N.takes_of rfl rfl rfl rfl
    have nd := sc_need_pattern.nd
    exact ds_one (ds_if (dt_not (t_val (q_call (h.f_is_pattern) hr (by decide) tk (q_a (q_v 0) (q_n)))))
       (ds_one (s_raise g tk h.x_BadNumber hr (by decide) (q_a (q_v 0) (q_n))))
       (ds_nil))

theorem Hy.f_code_of (h : Hy P w K mg base Γ) : Cl P w K mg base Γ 3 "code_of" 1 r_code_of := h.d_code_of.cl fun f fd F => fn_run F sc_code_of fun cdv A outer s H E hr => by
    have g : Ok (cxOf (L2N.CX P w) P w K mg base ["text", "sign"] "code_of" (defScope s_code_of) f cdv A outer s H E) Γ := ⟨h.gk, h.gp, h.gw, hr.units⟩
    have tk : L2N.Takes (cxOf (L2N.CX P w) P w K mg base ["text", "sign"] "code_of" (defScope s_code_of) f cdv A outer s H E) (fun cls d _ H' => E cls d H') := L2N.takes_of rfl rfl rfl rfl
    have nd := sc_code_of.nd
    exact ds_cons (ds_if (dt_not (t_val (q_call (h.f_is_text) hr (by decide) tk (q_a (q_v 0) (q_n)))))
       (ds_one (s_raise g tk h.x_BadNumber hr (by decide) (q_a (q_v 0) (q_n))))
       (ds_nil))
      (ds_one (ds_ret (de_if (t_cmp (opd_ne g) (q_v 0) (q_s [])) (q_join g (q_s []) (q_lc (ts := [1]) g tk nd [("sign", 1)] (by decide) (di_any g (q_v 0)) (blk_by (N := ["text", "sign"]) (sc := defScope s_code_of) (by decide +kernel)) (fun _ _ _ _ _ _ g => (g_name 1 nd)) (fun _ _ _ _ _ _ g => (dts_nil)) (fun _ _ _ _ _ _ _ g tk => q_get g (q_c h.c_CODES) (q_v 1) (q_v 1)))) (q_c h.c_NOTHING))))

theorem Hy.f_read_code (h : Hy P w K mg base Γ) : Cl P w K mg base Γ 3 "read_code" 1 r_read_code := h.d_read_code.cl fun f fd F => fn_run F sc_read_code fun cdv A outer s H E hr => by
    have g : Ok (cxOf (L2N.CX P w) P w K mg base ["word", "found", "is_coded", "sign"] "read_code" (defScope s_read_code) f cdv A outer s H E) Γ := ⟨h.gk, h.gp, h.gw, hr.units⟩
    have tk : L2N.Takes (cxOf (L2N.CX P w) P w K mg base ["word", "found", "is_coded", "sign"] "read_code" (defScope s_read_code) f cdv A outer s H E) (fun cls d _ H' => E cls d H') := L2N.takes_of rfl rfl rfl rfl
    have nd := sc_read_code.nd
    have hp : PassesOwn (model P w) (A.deeper (envOfC "read_code" (defScope s_read_code) s.heap.objs.size f cdv)) _ _ := L2.passes_of (X := (cxOf (L2N.CX P w) P w K mg base ["word", "found", "is_coded", "sign"] "read_code" (defScope s_read_code) f cdv A outer s H E)) rfl
    exact ds_cons (ds_if ((dw_or (dt_not (t_val (q_isi g .str h.m_isinstance h.m_str (q_v 0)))) (dw_or1 (t_cmp (opd_eq g) (q_v 0) (q_s [])))).t)
       (ds_one (s_raise g tk h.x_BadNumber hr (by decide) (q_a (q_v 0) (q_n))))
       (ds_nil))
      (ds_cons (ds_if (t_cmp (opd_eq g) (q_v 0) (q_c h.c_NOTHING))
       (ds_one (ds_ret (q_s [])))
       (ds_nil))
      (ds_cons (s_par g 1 2 nd (q_a (de_new (q_n)) (q_a (de_bl) q_n)))
      (ds_cons (s_for g hp (di_any g (q_v 0)) (g_name 3 nd)
       (ds_cons (ds_if (t_val (q_v 2))
        (ds_cons (ds_if (t_cmp (opd_notin g) (q_v 3) (q_c h.c_SIGNS))
         (ds_one (s_raise g tk h.x_BadNumber hr (by decide) (q_a (q_v 0) (q_n))))
         (ds_nil))
        (ds_one (s_expr (q_append g (q_v 1) (q_ix g (q_c h.c_SIGNS) (q_v 3))))))
        (ds_one (ds_if (t_cmp (opd_ne g) (q_v 3) (q_s [126]))
         (ds_one (s_expr (q_append g (q_v 1) (q_v 3))))
         (ds_nil))))
       (ds_cons (ds_if ((dw_and (dt_not (t_val (q_v 2))) (dw_and1 (dt_not (t_chn opd_le opd_le (q_s [33]) (q_v 3) (q_s [126]))))).t)
        (ds_one (s_raise g tk h.x_BadNumber hr (by decide) (q_a (q_v 0) (q_n))))
        (ds_nil))
       (ds_one (s_set 2 nd (de_and (q_cmp (opd_eq g) (q_v 3) (q_s [126])) (de_one (de_not (q_v 2)))))))))
      (ds_cons (ds_if ((dw_or (t_val (q_v 2)) (dw_or1 (dt_not (t_val (q_call (h.f_is_text) hr (by decide) tk (q_a (q_join g (q_s []) (q_v 1)) (q_n))))))).t)
       (ds_one (s_raise g tk h.x_BadNumber hr (by decide) (q_a (q_v 0) (q_n))))
       (ds_nil))
      (ds_one (ds_ret (q_join g (q_s []) (q_v 1))))))))

theorem Hy.f_path_text (h : Hy P w K mg base Γ) : Cl P w K mg base Γ 3 "path_text" 1 r_path_text := h.d_path_text.cl fun f fd F => fn_run F sc_path_text fun cdv A outer s H E hr => by
    have g : Ok (cxOf (L2N.CX P w) P w K mg base ["path", "step"] "path_text" (defScope s_path_text) f cdv A outer s H E) Γ := ⟨h.gk, h.gp, h.gw, hr.units⟩
    have tk : L2N.Takes (cxOf (L2N.CX P w) P w K mg base ["path", "step"] "path_text" (defScope s_path_text) f cdv A outer s H E) (fun cls d _ H' => E cls d H') := L2N.takes_of rfl rfl rfl rfl
    have nd := sc_path_text.nd
    exact ds_cons (ds_if ((dw_or (dt_not (t_val (q_isi g .tup h.m_isinstance h.m_tuple (q_v 0)))) (dw_or1 (dt_not (t_val (q_all g h.m_all (q_lc (ts := [1]) g tk nd [("step", 1)] (by decide) (di_any g (q_v 0)) (blk_by (N := ["path", "step"]) (sc := defScope s_path_text) (by decide +kernel)) (fun _ _ _ _ _ _ g => (g_name 1 nd)) (fun _ _ _ _ _ _ g => (dts_nil)) (fun _ _ _ _ _ _ _ g tk => de_and (q_call (h.f_is_whole) hr (by decide) tk (q_a (q_v 1) (q_n))) (de_one (q_chn opd_le opd_le (de_int) (q_v 1) (de_int)))))))))).t)
       (ds_one (s_raise g tk h.x_BadNumber hr (by decide) (q_a (q_v 0) (q_n))))
       (ds_nil))
      (ds_one (ds_ret (de_if (t_cmp (opd_ne g) (q_v 0) (de_tup (q_n))) (q_join g (q_s [47]) (q_lc (ts := [1]) g tk nd [("step", 1)] (by decide) (di_any g (q_v 0)) (blk_by (N := ["path", "step"]) (sc := defScope s_path_text) (by decide +kernel)) (fun _ _ _ _ _ _ g => (g_name 1 nd)) (fun _ _ _ _ _ _ g => (dts_nil)) (fun _ _ _ _ _ _ _ g tk => q_str g h.m_str (q_v 1)))) (q_s [46]))))

theorem Hy.f_read_path (h : Hy P w K mg base Γ) : Cl P w K mg base Γ 3 "read_path" 1 r_read_path := h.d_read_path.cl fun f fd F => fn_run F sc_read_path fun cdv A outer s H E hr => by
    have g : Ok (cxOf (L2N.CX P w) P w K mg base ["text", "part"] "read_path" (defScope s_read_path) f cdv A outer s H E) Γ := ⟨h.gk, h.gp, h.gw, hr.units⟩
    have tk : L2N.Takes (cxOf (L2N.CX P w) P w K mg base ["text", "part"] "read_path" (defScope s_read_path) f cdv A outer s H E) (fun cls d _ H' => E cls d H') := L2N.takes_of rfl rfl rfl rfl
    have nd := sc_read_path.nd
    exact ds_cons (ds_if (dt_not (t_val (q_isi g .str h.m_isinstance h.m_str (q_v 0))))
       (ds_one (s_raise g tk h.x_BadNumber hr (by decide) (q_a (q_v 0) (q_n))))
       (ds_nil))
      (ds_cons (ds_if (t_cmp (opd_eq g) (q_v 0) (q_s [46]))
       (ds_one (ds_ret (de_tup (q_n))))
       (ds_nil))
      (ds_cons (ds_if (dt_not (t_val (q_all g h.m_all (q_lc (ts := [1]) g tk nd [("part", 1)] (by decide) (di_any g (q_split g (q_v 0) (q_s [47]))) (blk_by (N := ["text", "part"]) (sc := defScope s_read_path) (by decide +kernel)) (fun _ _ _ _ _ _ g => (g_name 1 nd)) (fun _ _ _ _ _ _ g => (dts_nil)) (fun _ _ _ _ _ _ _ g tk => q_call (h.f_is_count) hr (by decide) tk (q_a (q_v 1) (q_n)))))))
       (ds_one (s_raise g tk h.x_BadNumber hr (by decide) (q_a (q_v 0) (q_n))))
       (ds_nil))
      (ds_one (ds_ret (q_tuple g h.m_tuple (q_lc (ts := [1]) g tk nd [("part", 1)] (by decide) (di_any g (q_split g (q_v 0) (q_s [47]))) (blk_by (N := ["text", "part"]) (sc := defScope s_read_path) (by decide +kernel)) (fun _ _ _ _ _ _ g => (g_name 1 nd)) (fun _ _ _ _ _ _ g => (dts_nil)) (fun _ _ _ _ _ _ _ g tk => q_int g h.m_int (q_v 1))))))))

theorem Hy.f_step_text (h : Hy P w K mg base Γ) : Cl P w K mg base Γ 1 "step_text" 1 r_step_text := h.d_step_text.cl fun f fd F => fn_run F sc_step_text fun cdv A outer s H E hr => by
    have g : Ok (cxOf (L2N.CX P w) P w K mg base ["step", "word", "name"] "step_text" (defScope s_step_text) f cdv A outer s H E) Γ := ⟨h.gk, h.gp, h.gw, hr.units⟩
    have tk : L2N.Takes (cxOf (L2N.CX P w) P w K mg base ["step", "word", "name"] "step_text" (defScope s_step_text) f cdv A outer s H E) (fun cls d _ H' => E cls d H') := L2N.takes_of rfl rfl rfl rfl
    have nd := sc_step_text.nd
    exact ds_cons (s_par g 1 2 nd (q_a (de_if (t_cmp (opd_ne g) (q_ix g (q_v 0) (de_int)) (q_s [])) (q_ix g (q_v 0) (de_int)) (q_s [42])) (q_a (de_if (t_cmp (opd_ne g) (q_ix g (q_v 0) (de_int)) (q_s [])) (q_ix g (q_v 0) (de_int)) (q_s [42])) q_n)))
      (ds_one (ds_ret (de_bin (opd_add g) (de_bin (opd_add g) (de_bin (opd_add g) (de_if (t_val (q_ix g (q_v 0) (de_int))) (q_s [43]) (q_s [])) (q_v 1)) (q_s [58])) (q_v 2))))

theorem Hy.f_pattern_text (h : Hy P w K mg base Γ) : Cl P w K mg base Γ 5 "pattern_text" 1 r_pattern_text := h.d_pattern_text.cl fun f fd F => fn_run F sc_pattern_text fun cdv A outer s H E hr => by
    have g : Ok (cxOf (L2N.CX P w) P w K mg base ["pattern", "step"] "pattern_text" (defScope s_pattern_text) f cdv A outer s H E) Γ := ⟨h.gk, h.gp, h.gw, hr.units⟩
    have tk : L2N.Takes (cxOf (L2N.CX P w) P w K mg base ["pattern", "step"] "pattern_text" (defScope s_pattern_text) f cdv A outer s H E) (fun cls d _ H' => E cls d H') := L2N.takes_of rfl rfl rfl rfl
    have nd := sc_pattern_text.nd
    exact ds_cons (s_expr (q_call (h.f_need_pattern) hr (by decide) tk (q_a (q_v 0) (q_n))))
      (ds_one (ds_ret (q_join g (q_s [47]) (q_lc (ts := [1]) g tk nd [("step", 1)] (by decide) (di_any g (q_v 0)) (blk_by (N := ["pattern", "step"]) (sc := defScope s_pattern_text) (by decide +kernel)) (fun _ _ _ _ _ _ g => (g_name 1 nd)) (fun _ _ _ _ _ _ g => (dts_nil)) (fun _ _ _ _ _ _ _ g tk => q_call (h.f_step_text) hr (by decide) tk (q_a (q_v 1) (q_n)))))))

theorem Hy.f_read_step (h : Hy P w K mg base Γ) : Cl P w K mg base Γ 3 "read_step" 2 r_read_step := h.d_read_step.cl fun f fd F => fn_run F sc_read_step fun cdv A outer s H E hr => by
    have g : Ok (cxOf (L2N.CX P w) P w K mg base ["text", "whole", "is_deep", "parts"] "read_step" (defScope s_read_step) f cdv A outer s H E) Γ := ⟨h.gk, h.gp, h.gw, hr.units⟩
    have tk : L2N.Takes (cxOf (L2N.CX P w) P w K mg base ["text", "whole", "is_deep", "parts"] "read_step" (defScope s_read_step) f cdv A outer s H E) (fun cls d _ H' => E cls d H') := L2N.takes_of rfl rfl rfl rfl
    have nd := sc_read_step.nd
    exact ds_cons (s_set 2 nd (q_cmp (opd_eq g) (de_sl g (q_v 0) (dp_none) (dp_some (de_int))) (q_s [43])))
      (ds_cons (s_set 3 nd (q_split g (de_if (t_val (q_v 2)) (de_sl g (q_v 0) (dp_some (de_int)) (dp_none)) (q_v 0)) (q_s [58])))
      (ds_cons (ds_if ((dw_or (t_cmp (opd_ne g) (q_len g h.m_len (q_v 3)) (de_int)) (dw_or ((dw_and (t_cmp (opd_ne g) (q_ix g (q_v 3) (de_int)) (q_s [42])) (dw_and1 (t_cmp (opd_notin g) (q_ix g (q_v 3) (de_int)) (q_c h.c_WORDS)))).t) (dw_or1 ((dw_and (t_cmp (opd_ne g) (q_ix g (q_v 3) (de_int)) (q_s [42])) (dw_and1 (dt_not (t_val (q_call (h.f_is_name) hr (by decide) tk (q_a (q_ix g (q_v 3) (de_int)) (q_n))))))).t)))).t)
       (ds_one (s_raise g tk h.x_BadNumber hr (by decide) (q_a (q_v 1) (q_n))))
       (ds_nil))
      (ds_one (ds_ret (de_tup (q_a (de_if (t_cmp (opd_ne g) (q_ix g (q_v 3) (de_int)) (q_s [42])) (q_ix g (q_v 3) (de_int)) (q_s [])) (q_a (de_if (t_cmp (opd_ne g) (q_ix g (q_v 3) (de_int)) (q_s [42])) (q_ix g (q_v 3) (de_int)) (q_s [])) (q_a (q_v 2) (q_n)))))))))

theorem Hy.f_read_pattern (h : Hy P w K mg base Γ) : Cl P w K mg base Γ 4 "read_pattern" 1 r_read_pattern := h.d_read_pattern.cl fun f fd F => fn_run F sc_read_pattern fun cdv A outer s H E hr => by
    have g : Ok (cxOf (L2N.CX P w) P w K mg base ["text", "found", "part"] "read_pattern" (defScope s_read_pattern) f cdv A outer s H E) Γ := ⟨h.gk, h.gp, h.gw, hr.units⟩
    have tk : L2N.Takes (cxOf (L2N.CX P w) P w K mg base ["text", "found", "part"] "read_pattern" (defScope s_read_pattern) f cdv A outer s H E) (fun cls d _ H' => E cls d H') := L2N.takes_of rfl rfl rfl rfl
    have nd := sc_read_pattern.nd
    exact ds_cons (ds_if (dt_not (t_val (q_isi g .str h.m_isinstance h.m_str (q_v 0))))
       (ds_one (s_raise g tk h.x_BadNumber hr (by decide) (q_a (q_v 0) (q_n))))
       (ds_nil))
      (ds_cons (s_set 1 nd (q_tuple g h.m_tuple (q_lc (ts := [2]) g tk nd [("part", 2)] (by decide) (di_any g (q_split g (q_v 0) (q_s [47]))) (blk_by (N := ["text", "found", "part"]) (sc := defScope s_read_pattern) (by decide +kernel)) (fun _ _ _ _ _ _ g => (g_name 2 nd)) (fun _ _ _ _ _ _ g => (dts_nil)) (fun _ _ _ _ _ _ _ g tk => q_call (h.f_read_step) hr (by decide) tk (q_a (q_v 2) (q_a (q_v 0) (q_n)))))))
      (ds_cons (ds_if (t_cmp opd_gt (q_len g h.m_len (q_v 1)) (de_int))
       (ds_one (s_raise g tk h.x_BadNumber hr (by decide) (q_a (q_v 0) (q_n))))
       (ds_nil))
      (ds_one (ds_ret (q_v 1)))))

theorem Hy.f__law_taken (h : Hy P w K mg base Γ) : Cl P w K mg base Γ 1 "_law_taken" 2 r__law_taken := h.d__law_taken.cl fun f fd F => fn_run F sc__law_taken fun cdv A outer s H E hr => by
    have g : Ok (cxOf (L2N.CX P w) P w K mg base ["row", "amount", "found", "cell"] "_law_taken" (defScope s__law_taken) f cdv A outer s H E) Γ := ⟨h.gk, h.gp, h.gw, hr.units⟩
    have tk : L2N.Takes (cxOf (L2N.CX P w) P w K mg base ["row", "amount", "found", "cell"] "_law_taken" (defScope s__law_taken) f cdv A outer s H E) (fun cls d _ H' => E cls d H') := L2N.takes_of rfl rfl rfl rfl
    have nd := sc__law_taken.nd
    exact ds_cons (ds_if (t_cmp opd_gt (q_ix g (q_v 0) (de_int)) (de_int))
       (ds_cons (s_set 2 nd (de_bin opd_mod (q_int g h.m_int (q_ix g (q_v 0) (de_int))) (q_v 1)))
       (ds_cons (s_asg (de_bin opd_div (q_ix g (q_v 0) (de_int)) (q_v 1)) (g_sub (q_v 0) (de_int)))
       (ds_one (ds_ret (q_v 2)))))
       (ds_nil))
      (ds_cons (s_asg (de_bin (opd_add g) (q_ix g (q_v 0) (de_int)) (de_int)) (g_sub (q_v 0) (de_int)))
      (ds_cons (ds_if (t_cmp opd_gt (q_ix g (q_v 0) (de_int)) (q_len g h.m_len (q_ix g (q_v 0) (de_int))))
       (ds_cons (s_asg (de_bin opd_mod (q_int g h.m_int (de_bin (opd_add g) (de_bin opd_mul (q_ix g (q_v 0) (de_int)) (de_int)) (de_int))) (de_int)) (g_sub (q_v 0) (de_int)))
       (ds_one (ds_ret (de_bin opd_mod (q_int g h.m_int (de_bin opd_div (q_ix g (q_v 0) (de_int)) (de_int))) (q_v 1)))))
       (ds_nil))
      (ds_cons (s_set 3 nd (q_ix g (q_ix g (q_v 0) (de_int)) (de_bin opd_sub (q_ix g (q_v 0) (de_int)) (de_int))))
      (ds_cons (s_asg (de_bin opd_mod (q_int g h.m_int (de_bin (opd_add g) (de_bin (opd_add g) (de_bin opd_mul (q_ix g (q_v 0) (de_int)) (de_int)) (q_v 3)) (de_int))) (de_int)) (g_sub (q_v 0) (de_int)))
      (ds_cons (ds_if (t_cmp opd_ge (q_v 3) (de_bin opd_pow (de_int) (de_int)))
       (ds_cons (s_asg (de_bin opd_div (q_v 3) (q_v 1)) (g_sub (q_v 0) (de_int)))
       (ds_one (ds_ret (de_bin opd_mod (q_int g h.m_int (q_v 3)) (q_v 1)))))
       (ds_nil))
      (ds_one (ds_ret (de_bin opd_mod (q_int g h.m_int (de_bin (opd_add g) (de_bin opd_mul (de_bin opd_mod (q_int g h.m_int (q_v 3)) (de_int)) (de_int)) (de_bin opd_div (q_ix g (q_v 0) (de_int)) (de_int)))) (q_v 1)))))))))

theorem Hy.f__law_pick (h : Hy P w K mg base Γ) : Cl P w K mg base Γ 2 "_law_pick" 2 r__law_pick := h.d__law_pick.cl fun f fd F => fn_run F sc__law_pick fun cdv A outer s H E hr => by
    have g : Ok (cxOf (L2N.CX P w) P w K mg base ["row", "things"] "_law_pick" (defScope s__law_pick) f cdv A outer s H E) Γ := ⟨h.gk, h.gp, h.gw, hr.units⟩
    have tk : L2N.Takes (cxOf (L2N.CX P w) P w K mg base ["row", "things"] "_law_pick" (defScope s__law_pick) f cdv A outer s H E) (fun cls d _ H' => E cls d H') := L2N.takes_of rfl rfl rfl rfl
    have nd := sc__law_pick.nd
    exact ds_one (ds_ret (q_ix g (q_v 1) (q_call (h.f__law_taken) hr (by decide) tk (q_a (q_v 0) (q_a (q_len g h.m_len (q_v 1)) (q_n))))))

theorem Hy.g__law_alike (h : Hy P w K mg base Γ) : ∀ n : Nat, Cl P w K mg base Γ (1 + n) "_law_alike" 2 (r__law_alike n)
  | 0 => h.d__law_alike.cl0
  | n + 1 => have ih := h.g__law_alike n; h.d__law_alike.cl fun f fd F => fn_run F sc__law_alike fun cdv A outer s H E hr => by
    have g : Ok (cxOf (L2N.CX P w) P w K mg base ["found", "due", "k"] "_law_alike" (defScope s__law_alike) f cdv A outer s H E) Γ := ⟨h.gk, h.gp, h.gw, hr.units⟩
    have tk : L2N.Takes (cxOf (L2N.CX P w) P w K mg base ["found", "due", "k"] "_law_alike" (defScope s__law_alike) f cdv A outer s H E) (fun cls d _ H' => E cls d H') := L2N.takes_of rfl rfl rfl rfl
    have nd := sc__law_alike.nd
    exact ds_cons (ds_if (t_val (q_is2 g .tup .lst h.m_isinstance h.m_tuple h.m_list (q_v 1)))
       (ds_cons (ds_if ((dw_or (dt_not (t_val (q_is2 g .tup .lst h.m_isinstance h.m_tuple h.m_list (q_v 0)))) (dw_or1 (t_cmp (opd_ne g) (q_isi g .lst h.m_isinstance h.m_list (q_v 0)) (q_isi g .lst h.m_isinstance h.m_list (q_v 1))))).t)
        (ds_one (ds_ret (de_bl)))
        (ds_nil))
       (ds_cons (ds_if (t_cmp (opd_ne g) (q_len g h.m_len (q_v 0)) (q_len g h.m_len (q_v 1)))
        (ds_one (ds_ret (de_bl)))
        (ds_nil))
       (ds_one (ds_ret (q_cmp (opd_eq g) (q_lc (ts := [2]) g tk nd [("k", 2)] (by decide) (i_range h.m_range (q_len g h.m_len (q_v 1))) (blk_by (N := ["found", "due", "k"]) (sc := defScope s__law_alike) (by decide +kernel)) (fun _ _ _ _ _ _ g => (g_name 2 nd)) (fun _ _ _ _ _ _ g => (dts_one (dt_not (t_val (q_call ih hr (Nat.le_refl _) takes_WF (q_a (q_ix g (q_v 0) (q_v 2)) (q_a (q_ix g (q_v 1) (q_v 2)) (q_n)))))))) (fun _ _ _ _ _ _ _ g tk => q_v 2)) (de_lst (q_n)))))))
       (ds_nil))
      (ds_cons (ds_if ((dw_or (t_cmp opd_is (q_v 1) (de_non)) (dw_or1 (t_val (q_isi g .str h.m_isinstance h.m_str (q_v 1))))).t)
       (ds_one (ds_ret (de_and (q_cmp (opd_eq g) (q_v 0) (q_v 1)) (de_one (q_cmp (opd_eq g) (q_isi g .str h.m_isinstance h.m_str (q_v 0)) (q_isi g .str h.m_isinstance h.m_str (q_v 1)))))))
       (ds_nil))
      (ds_one (ds_ret (de_and (q_isi g .int h.m_isinstance h.m_int (q_v 0)) (de_and (q_cmp (opd_eq g) (q_isi g .bool h.m_isinstance h.m_bool (q_v 0)) (q_isi g .bool h.m_isinstance h.m_bool (q_v 1))) (de_one (q_cmp (opd_eq g) (q_v 0) (q_v 1))))))))
theorem Hy.f__law_alike (h : Hy P w K mg base Γ) : Cl P w K mg base Γ 7 "_law_alike" 2 (r__law_alike 6) := h.g__law_alike 6

theorem Hy.f__law_same (h : Hy P w K mg base Γ) : ClG P w K mg base Γ 1 "_law_same" 2 r__law_same := h.d__law_same.clG fun f fd F A ha hgd => fn_runA F sc__law_same ha fun cdv outer s H E hr => by
    have g : Ok (cxOf (L2N.CX P w) P w K mg base ["found", "due"] "_law_same" (defScope s__law_same) f cdv A outer s H E) Γ := ⟨h.gk, h.gp, h.gw, hr.units⟩
    have tk : L2N.Takes (cxOf (L2N.CX P w) P w K mg base ["found", "due"] "_law_same" (defScope s__law_same) f cdv A outer s H E) (fun cls d _ H' => E cls d H') := L2N.takes_of rfl rfl rfl rfl
    have nd := sc__law_same.nd
    have hgd : (cxOf (L2N.CX P w) P w K mg base ["found", "due"] "_law_same" (defScope s__law_same) f cdv A outer s H E).A.guards = some [] := guards_in hgd
    exact ds_one (ds_ret (q_cmp (opd_eq g) (q_repr g hgd h.m_repr (q_v 0)) (q_repr g hgd h.m_repr (q_v 1))))

theorem Hy.f__law_refusal (h : Hy P w K mg base Γ) : ClR P w K mg base Γ 1 "_law_refusal" r__law_refusal := h.d__law_refusal.clR fun f fd F => refok_of h.ghot F sc__law_refusal rfl fun cdv A outer s H E p c d h1 hz hv hr => by
    have g : Ok (cxH (L2N.CX P w) P w K mg base ["e", "kinds", "marks", "name"] "_law_refusal" (defScope s__law_refusal) f cdv A outer s H E p) (Γ.heat (p.1, d, c)) := ⟨h.gk, h.gp, h.gw, by have := hr.un; show (A.deeper (envOfC "_law_refusal" (defScope s__law_refusal) s.heap.objs.size f cdv)).units + 64 < cLine; omega⟩
    have tk : L2N.Takes (cxH (L2N.CX P w) P w K mg base ["e", "kinds", "marks", "name"] "_law_refusal" (defScope s__law_refusal) f cdv A outer s H E p) (fun cls d _ H' => E cls d H') := L2N.takes_of rfl rfl rfl rfl
    have nd := sc__law_refusal.nd
    have hx : HotX (cxH (L2N.CX P w) P w K mg base ["e", "kinds", "marks", "name"] "_law_refusal" (defScope s__law_refusal) f cdv A outer s H E p) (Γ.heat (p.1, d, c)) := ⟨⟨p.1, d, c, p.2, rfl, List.mem_singleton.mpr rfl, hz, hv⟩⟩
    exact ds_cons (s_set 1 nd (de_lst (q_a (q_s [66, 97, 100, 80, 97, 114, 116]) (q_a (q_s [66, 97, 100, 78, 117, 109, 98, 101, 114]) (q_a (q_s [85, 110, 107, 110, 111, 119, 110]) (q_a (q_s [66, 97, 100, 80, 108, 97, 99, 101]) (q_a (q_s [66, 97, 100, 67, 104, 97, 110, 103, 101]) (q_a (q_s [66, 97, 100, 84, 101, 120, 116]) (q_a (q_s [66, 97, 100, 76, 105, 110, 101]) (q_a (q_s [66, 97, 100, 67, 108, 97, 105, 109]) (q_a (q_s [78, 111, 116, 104, 105, 110, 103, 68, 111, 110, 101]) (q_n))))))))))))
      (ds_cons (s_set 2 nd (de_lst (q_a (q_isE (a := Γ.cls 1) sub_BadPart g hx h.e_BadPart h.m_isinstance h.n_BadPart (q_v 0)) (q_a (q_isE (a := Γ.cls 2) sub_BadNumber g hx h.e_BadNumber h.m_isinstance h.n_BadNumber (q_v 0)) (q_a (q_isE (a := Γ.cls 3) sub_Unknown g hx h.e_Unknown h.m_isinstance h.n_Unknown (q_v 0)) (q_a (q_isE (a := Γ.cls 4) sub_BadPlace g hx h.e_BadPlace h.m_isinstance h.n_BadPlace (q_v 0)) (q_a (q_isE (a := Γ.cls 5) sub_BadChange g hx h.e_BadChange h.m_isinstance h.n_BadChange (q_v 0)) (q_a (q_isE (a := Γ.cls 6) sub_BadText g hx h.e_BadText h.m_isinstance h.n_BadText (q_v 0)) (q_a (q_isE (a := Γ.cls 7) sub_BadLine g hx h.e_BadLine h.m_isinstance h.n_BadLine (q_v 0)) (q_a (q_isE (a := Γ.cls 8) sub_BadClaim g hx h.e_BadClaim h.m_isinstance h.n_BadClaim (q_v 0)) (q_a (q_isE (a := Γ.cls 9) sub_NothingDone g hx h.e_NothingDone h.m_isinstance h.n_NothingDone (q_v 0)) (q_n))))))))))))
      (ds_cons (ds_if ((dw_or (t_cmp (opd_ne g) (q_count g (q_v 2) (de_bl)) (de_int)) (dw_or1 (dt_not (t_val (q_isV sub_ValueError g hx h.e_ValueError h.m_isinstance h.m_ValueError (q_v 0)))))).t)
       (ds_one (ds_ret (de_tup (q_a (q_s [111, 116, 104, 101, 114]) (q_n)))))
       (ds_nil))
      (ds_cons (s_set 3 nd (q_ix g (q_v 1) (q_index g (q_v 2) (de_bl))))
      (ds_cons (ds_if (t_cmp (opd_eq g) (q_v 3) (q_s [66, 97, 100, 80, 97, 114, 116]))
       (ds_one (ds_ret (de_tup (q_a (q_v 3) (q_a (q_xfT okR g h.gf hx h.o_part (q_v 0)) (q_a (q_xfT okR g h.gf hx h.o_place (q_v 0)) (q_n)))))))
       (ds_nil))
      (ds_cons (ds_if (t_cmp (opd_eq g) (q_v 3) (q_s [66, 97, 100, 78, 117, 109, 98, 101, 114]))
       (ds_one (ds_ret (de_tup (q_a (q_v 3) (q_a (q_xfT okR g h.gf hx h.o_value (q_v 0)) (q_n))))))
       (ds_nil))
      (ds_cons (ds_if (t_cmp (opd_eq g) (q_v 3) (q_s [85, 110, 107, 110, 111, 119, 110]))
       (ds_one (ds_ret (de_tup (q_a (q_v 3) (q_a (q_xfT okR g h.gf hx h.o_name (q_v 0)) (q_n))))))
       (ds_nil))
      (ds_cons (ds_if (t_cmp (opd_in g) (q_v 3) (de_tup (q_a (q_s [66, 97, 100, 84, 101, 120, 116]) (q_a (q_s [66, 97, 100, 76, 105, 110, 101]) (q_n)))))
       (ds_one (ds_ret (de_tup (q_a (q_v 3) (q_a (q_xfT okR g h.gf hx h.o_line (q_v 0)) (q_n))))))
       (ds_nil))
      (ds_cons (ds_if (t_cmp (opd_in g) (q_v 3) (de_tup (q_a (q_s [66, 97, 100, 67, 108, 97, 105, 109]) (q_a (q_s [78, 111, 116, 104, 105, 110, 103, 68, 111, 110, 101]) (q_n)))))
       (ds_one (ds_ret (de_tup (q_a (q_v 3) (q_n)))))
       (ds_nil))
      (ds_one (ds_ret (de_tup (q_a (q_v 3) (q_a (q_xfT okR g h.gf hx h.o_place (q_v 0)) (q_n))))))))))))))

theorem Hy.f__law_is_name (h : Hy P w K mg base Γ) : Cl P w K mg base Γ 1 "_law_is_name" 1 r__law_is_name := h.d__law_is_name.cl fun f fd F => fn_run F sc__law_is_name fun cdv A outer s H E hr => by
    have g : Ok (cxOf (L2N.CX P w) P w K mg base ["value", "sign"] "_law_is_name" (defScope s__law_is_name) f cdv A outer s H E) Γ := ⟨h.gk, h.gp, h.gw, hr.units⟩
    have tk : L2N.Takes (cxOf (L2N.CX P w) P w K mg base ["value", "sign"] "_law_is_name" (defScope s__law_is_name) f cdv A outer s H E) (fun cls d _ H' => E cls d H') := L2N.takes_of rfl rfl rfl rfl
    have nd := sc__law_is_name.nd
    exact ds_one (ds_ret (de_and (q_isi g .str h.m_isinstance h.m_str (q_v 0)) (de_and (q_chn opd_le opd_le (de_int) (q_len g h.m_len (q_v 0)) (de_int)) (de_one (q_cmp (opd_eq g) (q_lc (ts := [1]) g tk nd [("sign", 1)] (by decide) (di_any g (q_v 0)) (blk_by (N := ["value", "sign"]) (sc := defScope s__law_is_name) (by decide +kernel)) (fun _ _ _ _ _ _ g => (g_name 1 nd)) (fun _ _ _ _ _ _ g => (dts_one (t_cmp (opd_notin g) (q_v 1) (q_s [97, 98, 99, 100, 101, 102, 103, 104, 105, 106, 107, 108, 109, 110, 111, 112, 113, 114, 115, 116, 117, 118, 119, 120, 121, 122])))) (fun _ _ _ _ _ _ _ g tk => q_v 1)) (de_lst (q_n)))))))

theorem Hy.f__law_marks (h : Hy P w K mg base Γ) : Cl P w K mg base Γ 3 "_law_marks" 1 r__law_marks := h.d__law_marks.cl fun f fd F => fn_run F sc__law_marks fun cdv A outer s H E hr => by
    have g : Ok (cxOf (L2N.CX P w) P w K mg base ["row", "lines", "pairs", "names", "signs", "start", "k", "way", "rows", "at"] "_law_marks" (defScope s__law_marks) f cdv A outer s H E) Γ := ⟨h.gk, h.gp, h.gw, hr.units⟩
    have tk : L2N.Takes (cxOf (L2N.CX P w) P w K mg base ["row", "lines", "pairs", "names", "signs", "start", "k", "way", "rows", "at"] "_law_marks" (defScope s__law_marks) f cdv A outer s H E) (fun cls d _ H' => E cls d H') := L2N.takes_of rfl rfl rfl rfl
    have nd := sc__law_marks.nd
    have hp : PassesOwn (model P w) (A.deeper (envOfC "_law_marks" (defScope s__law_marks) s.heap.objs.size f cdv)) _ _ := L2.passes_of (X := (cxOf (L2N.CX P w) P w K mg base ["row", "lines", "pairs", "names", "signs", "start", "k", "way", "rows", "at"] "_law_marks" (defScope s__law_marks) f cdv A outer s H E)) rfl
    exact ds_cons (s_par g 1 2 nd (q_a (de_lst (q_n)) (q_a (de_lst (q_n)) q_n)))
      (ds_cons (s_par g 3 4 nd (q_a (de_lst (q_a (q_s [97, 110, 110]) (q_a (q_s [98, 101, 110]) (q_a (q_s [99, 121]) (q_a (q_s [100, 97, 110]) (q_a (q_s [101, 118, 101]) (q_n))))))) (q_a (q_s [35, 45, 62, 42, 33, 124]) q_n)))
      (ds_cons (s_set 5 nd (q_call (h.f__law_taken) hr (by decide) tk (q_a (q_v 0) (q_a (de_int) (q_n)))))
      (ds_cons (s_for g hp (i_range h.m_range (q_call (h.f__law_taken) hr (by decide) tk (q_a (q_v 0) (q_a (de_int) (q_n))))) (g_name 6 nd)
       (ds_cons (s_set 7 nd (q_call (h.f__law_pick) hr (by decide) tk (q_a (q_v 0) (q_a (de_lst (q_a (q_s [104, 101, 97, 100]) (q_a (q_s [114, 97, 119]) (q_a (q_s [102, 101, 110, 99, 101]) (q_a (q_s [113, 117, 111, 116, 101]) (q_a (q_s [108, 105, 115, 116]) (q_a (q_s [113, 117, 111, 116, 101]) (q_a (q_s [108, 105, 115, 116]) (q_a (q_s [104, 101, 97, 100]) (q_n)))))))))) (q_n)))))
       (ds_one (s_set 1 nd (de_bin (opd_add g) (q_v 1) (de_lst (q_a (de_tup (q_a (q_ix g (q_v 4) (de_bin opd_mod (de_bin (opd_add g) (q_v 5) (q_v 6)) (de_int))) (q_a (q_ix g (q_v 3) (q_v 6)) (q_a (q_v 7) (q_n))))) (q_n))))))))
      (ds_cons (s_set 8 nd (de_lst (q_a (de_tup (q_a (q_s [42]) (q_a (q_s [42]) (q_a (q_s [102, 97, 121]) (q_a (q_s [100, 101, 101, 112]) (q_n)))))) (q_a (de_tup (q_a (q_s [91]) (q_a (q_s [93]) (q_a (q_s [103, 117, 115]) (q_a (q_s [100, 101, 101, 112]) (q_n)))))) (q_a (de_tup (q_a (q_s [124]) (q_a (q_s [124]) (q_a (q_s [104, 97, 108]) (q_a (q_s [114, 97, 119]) (q_n)))))) (q_a (de_tup (q_a (q_s [45]) (q_a (q_s [62]) (q_a (q_s [105, 100, 97]) (q_a (q_s [100, 101, 101, 112]) (q_n)))))) (q_a (de_tup (q_a (q_s [40]) (q_a (q_s [41]) (q_a (q_s [106, 111]) (q_a (q_s [114, 97, 119]) (q_n)))))) (q_n))))))))
      (ds_cons (s_set 9 nd (q_call (h.f__law_taken) hr (by decide) tk (q_a (q_v 0) (q_a (de_int) (q_n)))))
      (ds_cons (s_for g hp (i_range h.m_range (q_call (h.f__law_taken) hr (by decide) tk (q_a (q_v 0) (q_a (de_int) (q_n))))) (g_name 6 nd)
       (ds_one (s_set 2 nd (de_bin (opd_add g) (q_v 2) (de_lst (q_a (q_ix g (q_v 8) (de_bin opd_mod (de_bin (opd_add g) (q_v 9) (de_bin opd_mul (de_int) (q_v 6))) (de_int))) (q_n)))))))
      (ds_one (ds_ret (de_tup (q_a (q_tuple g h.m_tuple (q_v 1)) (q_a (q_tuple g h.m_tuple (q_v 2)) (q_a (q_call (h.f__law_pick) hr (by decide) tk (q_a (q_v 0) (q_a (de_lst (q_a (q_s []) (q_a (q_s [92]) (q_a (q_s [92]) (q_a (q_s [126]) (q_n)))))) (q_n)))) (q_n)))))))))))))

theorem Hy.f__law_letters (h : Hy P w K mg base Γ) : Cl P w K mg base Γ 1 "_law_letters" 1 r__law_letters := h.d__law_letters.cl fun f fd F => fn_run F sc__law_letters fun cdv A outer s H E hr => by
    have g : Ok (cxOf (L2N.CX P w) P w K mg base ["told", "found", "one"] "_law_letters" (defScope s__law_letters) f cdv A outer s H E) Γ := ⟨h.gk, h.gp, h.gw, hr.units⟩
    have tk : L2N.Takes (cxOf (L2N.CX P w) P w K mg base ["told", "found", "one"] "_law_letters" (defScope s__law_letters) f cdv A outer s H E) (fun cls d _ H' => E cls d H') := L2N.takes_of rfl rfl rfl rfl
    have nd := sc__law_letters.nd
    exact ds_cons (s_set 1 nd (q_sos g h.m_sorted h.m_set (de_bin (opd_add g) (de_bin (opd_add g) (de_bin (opd_add g) (q_lc (ts := [2]) g tk nd [("one", 2)] (by decide) (di_any g (q_ix g (q_v 0) (de_int))) (blk_by (N := ["told", "found", "one"]) (sc := defScope s__law_letters) (by decide +kernel)) (fun _ _ _ _ _ _ g => (g_name 2 nd)) (fun _ _ _ _ _ _ g => (dts_nil)) (fun _ _ _ _ _ _ _ g tk => q_ix g (q_v 2) (de_int))) (q_lc (ts := [2]) g tk nd [("one", 2)] (by decide) (di_any g (q_ix g (q_v 0) (de_int))) (blk_by (N := ["told", "found", "one"]) (sc := defScope s__law_letters) (by decide +kernel)) (fun _ _ _ _ _ _ g => (g_name 2 nd)) (fun _ _ _ _ _ _ g => (dts_nil)) (fun _ _ _ _ _ _ _ g tk => q_ix g (q_v 2) (de_int)))) (q_lc (ts := [2]) g tk nd [("one", 2)] (by decide) (di_any g (q_ix g (q_v 0) (de_int))) (blk_by (N := ["told", "found", "one"]) (sc := defScope s__law_letters) (by decide +kernel)) (fun _ _ _ _ _ _ g => (g_name 2 nd)) (fun _ _ _ _ _ _ g => (dts_nil)) (fun _ _ _ _ _ _ _ g tk => q_ix g (q_v 2) (de_int)))) (de_if (t_cmp (opd_ne g) (q_ix g (q_v 0) (de_int)) (q_s [])) (de_lst (q_a (q_ix g (q_v 0) (de_int)) (q_n))) (de_lst (q_n))))))
      (ds_one (ds_ret (de_bin (opd_add g) (de_lst (q_a (q_s [10]) (q_a (q_s [32]) (q_a (q_s [97]) (q_n))))) (q_v 1))))

theorem Hy.f__law_text (h : Hy P w K mg base Γ) : Cl P w K mg base Γ 3 "_law_text" 3 r__law_text := h.d__law_text.cl fun f fd F => fn_run F sc__law_text fun cdv A outer s H E hr => by
    have g : Ok (cxOf (L2N.CX P w) P w K mg base ["row", "told", "size", "letters", "k"] "_law_text" (defScope s__law_text) f cdv A outer s H E) Γ := ⟨h.gk, h.gp, h.gw, hr.units⟩
    have tk : L2N.Takes (cxOf (L2N.CX P w) P w K mg base ["row", "told", "size", "letters", "k"] "_law_text" (defScope s__law_text) f cdv A outer s H E) (fun cls d _ H' => E cls d H') := L2N.takes_of rfl rfl rfl rfl
    have nd := sc__law_text.nd
    exact ds_cons (s_set 3 nd (q_call (h.f__law_letters) hr (by decide) tk (q_a (q_v 1) (q_n))))
      (ds_cons (s_set 3 nd (de_bin (opd_add g) (de_bin (opd_add g) (q_v 3) (de_bin opd_mul (de_lst (q_a (q_s [10]) (q_n))) (de_bin opd_div (q_len g h.m_len (q_v 3)) (de_int)))) (de_sl g (q_v 3) (dp_some (de_int)) (dp_none))))
      (ds_one (ds_ret (q_join g (q_s []) (q_lc (ts := [4]) g tk nd [("k", 4)] (by decide) (i_range h.m_range (q_call (h.f__law_taken) hr (by decide) tk (q_a (q_v 0) (q_a (de_bin (opd_add g) (q_v 2) (de_int)) (q_n))))) (blk_by (N := ["row", "told", "size", "letters", "k"]) (sc := defScope s__law_text) (by decide +kernel)) (fun _ _ _ _ _ _ g => (g_name 4 nd)) (fun _ _ _ _ _ _ g => (dts_nil)) (fun _ _ _ _ _ _ _ g tk => q_call (h.f__law_pick) hr (by decide) tk (q_a (q_v 0) (q_a (q_v 3) (q_n)))))))))

theorem Hy.f__law_odd_text (h : Hy P w K mg base Γ) : Cl P w K mg base Γ 3 "_law_odd_text" 1 r__law_odd_text := h.d__law_odd_text.cl fun f fd F => fn_run F sc__law_odd_text fun cdv A outer s H E hr => by
    have g : Ok (cxOf (L2N.CX P w) P w K mg base ["row"] "_law_odd_text" (defScope s__law_odd_text) f cdv A outer s H E) Γ := ⟨h.gk, h.gp, h.gw, hr.units⟩
    have tk : L2N.Takes (cxOf (L2N.CX P w) P w K mg base ["row"] "_law_odd_text" (defScope s__law_odd_text) f cdv A outer s H E) (fun cls d _ H' => E cls d H') := L2N.takes_of rfl rfl rfl rfl
    have nd := sc__law_odd_text.nd
    exact ds_one (ds_ret (q_call (h.f__law_pick) hr (by decide) tk (q_a (q_v 0) (q_a (de_lst (q_a (de_non) (q_a (de_int) (q_a (de_tup (q_a (q_s [97]) (q_n))) (q_a (de_lst (q_a (q_s [97]) (q_n))) (q_a (q_s [9]) (q_a (q_s [97, 127]) (q_a (de_bin opd_mulS (q_s [97]) (de_int)) (q_a (de_bl) (q_a (de_flt) (q_n))))))))))) (q_n)))))

theorem Hy.f__law_code (h : Hy P w K mg base Γ) : Cl P w K mg base Γ 1 "_law_code" 1 r__law_code := h.d__law_code.cl fun f fd F => fn_run F sc__law_code fun cdv A outer s H E hr => by
    have g : Ok (cxOf (L2N.CX P w) P w K mg base ["text", "sign"] "_law_code" (defScope s__law_code) f cdv A outer s H E) Γ := ⟨h.gk, h.gp, h.gw, hr.units⟩
    have tk : L2N.Takes (cxOf (L2N.CX P w) P w K mg base ["text", "sign"] "_law_code" (defScope s__law_code) f cdv A outer s H E) (fun cls d _ H' => E cls d H') := L2N.takes_of rfl rfl rfl rfl
    have nd := sc__law_code.nd
    exact ds_one (ds_ret (de_if (t_cmp (opd_ne g) (q_v 0) (q_s [])) (q_join g (q_s []) (q_lc (ts := [1]) g tk nd [("sign", 1)] (by decide) (di_any g (q_v 0)) (blk_by (N := ["text", "sign"]) (sc := defScope s__law_code) (by decide +kernel)) (fun _ _ _ _ _ _ g => (g_name 1 nd)) (fun _ _ _ _ _ _ g => (dts_nil)) (fun _ _ _ _ _ _ _ g tk => q_get g (q_disp (dps_cons (q_s [10]) (q_s [126, 110]) (dps_cons (q_s [32]) (q_s [126, 115]) (dps_cons (q_s [126]) (q_s [126, 116]) (dps_nil))))) (q_v 1) (q_v 1)))) (q_s [126, 101])))

theorem Hy.f__law_uncode (h : Hy P w K mg base Γ) : Cl P w K mg base Γ 1 "_law_uncode" 1 r__law_uncode := h.d__law_uncode.cl fun f fd F => fn_run F sc__law_uncode fun cdv A outer s H E hr => by
    have g : Ok (cxOf (L2N.CX P w) P w K mg base ["word", "pieces", "found", "is_code", "k", "sign"] "_law_uncode" (defScope s__law_uncode) f cdv A outer s H E) Γ := ⟨h.gk, h.gp, h.gw, hr.units⟩
    have tk : L2N.Takes (cxOf (L2N.CX P w) P w K mg base ["word", "pieces", "found", "is_code", "k", "sign"] "_law_uncode" (defScope s__law_uncode) f cdv A outer s H E) (fun cls d _ H' => E cls d H') := L2N.takes_of rfl rfl rfl rfl
    have nd := sc__law_uncode.nd
    have hp : PassesOwn (model P w) (A.deeper (envOfC "_law_uncode" (defScope s__law_uncode) s.heap.objs.size f cdv)) _ _ := L2.passes_of (X := (cxOf (L2N.CX P w) P w K mg base ["word", "pieces", "found", "is_code", "k", "sign"] "_law_uncode" (defScope s__law_uncode) f cdv A outer s H E)) rfl
    exact ds_cons (ds_if (t_cmp (opd_eq g) (q_v 0) (q_s [126, 101]))
       (ds_one (ds_ret (de_tup (q_a (q_s []) (q_n)))))
       (ds_nil))
      (ds_cons (s_set 1 nd (q_split g (q_v 0) (q_s [126])))
      (ds_cons (ds_if ((dw_or (t_cmp (opd_eq g) (q_v 0) (q_s [])) (dw_or1 (t_cmp (opd_ne g) (q_lc (ts := [5]) g tk nd [("sign", 5)] (by decide) (di_any g (q_v 0)) (blk_by (N := ["word", "pieces", "found", "is_code", "k", "sign"]) (sc := defScope s__law_uncode) (by decide +kernel)) (fun _ _ _ _ _ _ g => (g_name 5 nd)) (fun _ _ _ _ _ _ g => (dts_one (dt_not (t_chn opd_le opd_le (q_s [33]) (q_v 5) (q_s [126]))))) (fun _ _ _ _ _ _ _ g tk => q_v 5)) (de_lst (q_n))))).t)
       (ds_one (ds_ret (de_tup (q_n))))
       (ds_nil))
      (ds_cons (s_asg (de_tup (q_a (q_s []) (q_a (de_bl) (q_n)))) (g_tup g 2 (g_cons (g_name 2 nd) (g_cons (g_name 3 nd) (dgs_nil)))))
      (ds_cons (s_for g hp (i_range h.m_range (q_len g h.m_len (q_v 0))) (g_name 4 nd)
       (ds_cons (ds_if ((dw_and (t_val (q_v 3)) (dw_and1 (t_cmp (opd_notin g) (q_ix g (q_v 0) (q_v 4)) (q_s [110, 115, 116])))).t)
        (ds_one (ds_ret (de_tup (q_n))))
        (ds_nil))
       (ds_cons (s_set 2 nd (de_bin (opd_add g) (q_v 2) (de_if (t_val (q_v 3)) (q_ix g (q_disp (dps_cons (q_s [110]) (q_s [10]) (dps_cons (q_s [115]) (q_s [32]) (dps_cons (q_s [116]) (q_s [126]) (dps_nil))))) (q_ix g (q_v 0) (q_v 4))) (de_if (t_cmp (opd_ne g) (q_ix g (q_v 0) (q_v 4)) (q_s [126])) (q_ix g (q_v 0) (q_v 4)) (q_s [])))))
       (ds_one (s_set 3 nd (de_and (q_cmp (opd_eq g) (q_ix g (q_v 0) (q_v 4)) (q_s [126])) (de_one (de_not (q_v 3)))))))))
      (ds_one (ds_ret (de_if ((dw_and (dt_not (t_val (q_v 3))) (dw_and (t_cmp opd_le (q_len g h.m_len (q_v 2)) (de_int)) (dw_and1 (t_cmp opd_gt (q_len g h.m_len (q_v 1)) (de_int))))).t) (de_tup (q_a (q_v 2) (q_n))) (de_tup (q_n)))))))))

theorem Hy.f__law_is_count (h : Hy P w K mg base Γ) : Cl P w K mg base Γ 1 "_law_is_count" 1 r__law_is_count := h.d__law_is_count.cl fun f fd F => fn_run F sc__law_is_count fun cdv A outer s H E hr => by
    have g : Ok (cxOf (L2N.CX P w) P w K mg base ["text", "sign"] "_law_is_count" (defScope s__law_is_count) f cdv A outer s H E) Γ := ⟨h.gk, h.gp, h.gw, hr.units⟩
    have tk : L2N.Takes (cxOf (L2N.CX P w) P w K mg base ["text", "sign"] "_law_is_count" (defScope s__law_is_count) f cdv A outer s H E) (fun cls d _ H' => E cls d H') := L2N.takes_of rfl rfl rfl rfl
    have nd := sc__law_is_count.nd
    exact ds_one (ds_ret (de_and (q_chn opd_le opd_le (de_int) (q_len g h.m_len (q_v 0)) (de_int)) (de_and (q_cmp (opd_eq g) (q_lc (ts := [1]) g tk nd [("sign", 1)] (by decide) (di_any g (q_v 0)) (blk_by (N := ["text", "sign"]) (sc := defScope s__law_is_count) (by decide +kernel)) (fun _ _ _ _ _ _ g => (g_name 1 nd)) (fun _ _ _ _ _ _ g => (dts_one (t_cmp (opd_notin g) (q_v 1) (q_s [48, 49, 50, 51, 52, 53, 54, 55, 56, 57])))) (fun _ _ _ _ _ _ _ g tk => q_v 1)) (de_lst (q_n))) (de_one (de_or (q_cmp (opd_ne g) (q_ix g (q_v 0) (de_int)) (q_s [48])) (de_one (q_cmp (opd_eq g) (q_v 0) (q_s [48]))))))))

theorem Hy.f__law_uncode_path (h : Hy P w K mg base Γ) : Cl P w K mg base Γ 2 "_law_uncode_path" 1 r__law_uncode_path := h.d__law_uncode_path.cl fun f fd F => fn_run F sc__law_uncode_path fun cdv A outer s H E hr => by
    have g : Ok (cxOf (L2N.CX P w) P w K mg base ["text", "parts", "part"] "_law_uncode_path" (defScope s__law_uncode_path) f cdv A outer s H E) Γ := ⟨h.gk, h.gp, h.gw, hr.units⟩
    have tk : L2N.Takes (cxOf (L2N.CX P w) P w K mg base ["text", "parts", "part"] "_law_uncode_path" (defScope s__law_uncode_path) f cdv A outer s H E) (fun cls d _ H' => E cls d H') := L2N.takes_of rfl rfl rfl rfl
    have nd := sc__law_uncode_path.nd
    exact ds_cons (ds_if (t_cmp (opd_eq g) (q_v 0) (q_s [46]))
       (ds_one (ds_ret (de_tup (q_a (de_tup (q_n)) (q_n)))))
       (ds_nil))
      (ds_cons (s_set 1 nd (q_split g (q_v 0) (q_s [47])))
      (ds_one (ds_ret (de_if (t_cmp (opd_eq g) (q_lc (ts := [2]) g tk nd [("part", 2)] (by decide) (di_any g (q_v 1)) (blk_by (N := ["text", "parts", "part"]) (sc := defScope s__law_uncode_path) (by decide +kernel)) (fun _ _ _ _ _ _ g => (g_name 2 nd)) (fun _ _ _ _ _ _ g => (dts_one (dt_not (t_val (q_call (h.f__law_is_count) hr (by decide) takes_WF (q_a (q_v 2) (q_n))))))) (fun _ _ _ _ _ _ _ g tk => q_v 2)) (de_lst (q_n))) (de_tup (q_a (q_tuple g h.m_tuple (q_lc (ts := [2]) g tk nd [("part", 2)] (by decide) (di_any g (q_v 1)) (blk_by (N := ["text", "parts", "part"]) (sc := defScope s__law_uncode_path) (by decide +kernel)) (fun _ _ _ _ _ _ g => (g_name 2 nd)) (fun _ _ _ _ _ _ g => (dts_nil)) (fun _ _ _ _ _ _ _ g tk => q_int g h.m_int (q_v 2)))) (q_n))) (de_tup (q_n))))))

theorem Hy.f__law_path_word (h : Hy P w K mg base Γ) : Cl P w K mg base Γ 1 "_law_path_word" 1 r__law_path_word := h.d__law_path_word.cl fun f fd F => fn_run F sc__law_path_word fun cdv A outer s H E hr => by
    have g : Ok (cxOf (L2N.CX P w) P w K mg base ["path", "step"] "_law_path_word" (defScope s__law_path_word) f cdv A outer s H E) Γ := ⟨h.gk, h.gp, h.gw, hr.units⟩
    have tk : L2N.Takes (cxOf (L2N.CX P w) P w K mg base ["path", "step"] "_law_path_word" (defScope s__law_path_word) f cdv A outer s H E) (fun cls d _ H' => E cls d H') := L2N.takes_of rfl rfl rfl rfl
    have nd := sc__law_path_word.nd
    exact ds_one (ds_ret (de_if (t_cmp (opd_ne g) (q_v 0) (de_tup (q_n))) (q_join g (q_s [47]) (q_lc (ts := [1]) g tk nd [("step", 1)] (by decide) (di_any g (q_v 0)) (blk_by (N := ["path", "step"]) (sc := defScope s__law_path_word) (by decide +kernel)) (fun _ _ _ _ _ _ g => (g_name 1 nd)) (fun _ _ _ _ _ _ g => (dts_nil)) (fun _ _ _ _ _ _ _ g tk => q_str g h.m_str (q_v 1)))) (q_s [46])))

theorem Hy.f__law_spoiled_line (h : Hy P w K mg base Γ) : Cl P w K mg base Γ 3 "_law_spoiled_line" 2 r__law_spoiled_line := h.d__law_spoiled_line.cl fun f fd F => fn_run F sc__law_spoiled_line fun cdv A outer s H E hr => by
    have g : Ok (cxOf (L2N.CX P w) P w K mg base ["row", "line", "words", "at", "k", "found"] "_law_spoiled_line" (defScope s__law_spoiled_line) f cdv A outer s H E) Γ := ⟨h.gk, h.gp, h.gw, hr.units⟩
    have tk : L2N.Takes (cxOf (L2N.CX P w) P w K mg base ["row", "line", "words", "at", "k", "found"] "_law_spoiled_line" (defScope s__law_spoiled_line) f cdv A outer s H E) (fun cls d _ H' => E cls d H') := L2N.takes_of rfl rfl rfl rfl
    have nd := sc__law_spoiled_line.nd
    exact ds_cons (s_par g 2 3 nd (q_a (q_split g (q_v 1) (q_s [32])) (q_a (q_call (h.f__law_taken) hr (by decide) tk (q_a (q_v 0) (q_a (de_bin (opd_add g) (q_len g h.m_len (q_v 1)) (de_int)) (q_n)))) q_n)))
      (ds_cons (s_set 4 nd (q_call (h.f__law_taken) hr (by decide) tk (q_a (q_v 0) (q_a (de_int) (q_n)))))
      (ds_cons (ds_if (t_cmp (opd_eq g) (q_v 4) (de_int))
       (ds_one (ds_ret (de_bin (opd_add g) (de_sl g (q_v 1) (dp_none) (dp_some (q_v 3))) (de_sl g (q_v 1) (dp_some (de_bin (opd_add g) (q_v 3) (de_int))) (dp_none)))))
       (ds_nil))
      (ds_cons (ds_if (t_cmp (opd_eq g) (q_v 4) (de_int))
       (ds_one (ds_ret (de_bin (opd_add g) (de_bin (opd_add g) (de_sl g (q_v 1) (dp_none) (dp_some (q_v 3))) (q_call (h.f__law_pick) hr (by decide) tk (q_a (q_v 0) (q_a (de_lst (q_a (q_s [32]) (q_a (q_s [48]) (q_a (q_s [49]) (q_a (q_s [45]) (q_a (q_s [97]) (q_a (q_s [47]) (q_a (q_s [126]) (q_a (q_s [126, 110]) (q_a (q_s [42]) (q_a (q_s [46]) (q_n)))))))))))) (q_n))))) (de_sl g (q_v 1) (dp_some (q_v 3)) (dp_none)))))
       (ds_nil))
      (ds_cons (ds_if (t_cmp (opd_eq g) (q_v 4) (de_int))
       (ds_one (ds_ret (q_join g (q_s [32]) (de_sl g (q_v 2) (dp_none) (dp_some (q_neg (de_int)))))))
       (ds_nil))
      (ds_cons (ds_if (t_cmp (opd_eq g) (q_v 4) (de_int))
       (ds_one (ds_ret (de_bin (opd_add g) (q_v 1) (q_call (h.f__law_pick) hr (by decide) tk (q_a (q_v 0) (q_a (de_lst (q_a (q_s [32]) (q_a (q_s [32, 49]) (q_a (q_s [48]) (q_a (q_s [32, 122, 122]) (q_a (q_s [45]) (q_n))))))) (q_n)))))))
       (ds_nil))
      (ds_cons (ds_if (t_cmp (opd_eq g) (q_v 4) (de_int))
       (ds_one (ds_ret (de_bin (opd_add g) (de_bin (opd_add g) (de_sl g (q_v 1) (dp_none) (dp_some (q_v 3))) (q_call (h.f__law_pick) hr (by decide) tk (q_a (q_v 0) (q_a (de_lst (q_a (q_s [50]) (q_a (q_s [97]) (q_a (q_s [122]) (q_a (q_s [45]) (q_a (q_s [48]) (q_a (q_s [126]) (q_a (q_s [43]) (q_a (q_s [63]) (q_n)))))))))) (q_n))))) (de_sl g (q_v 1) (dp_some (de_bin (opd_add g) (q_v 3) (de_int))) (dp_none)))))
       (ds_nil))
      (ds_cons (s_set 5 nd (de_lst (q_a (q_s []) (q_a (q_s [32]) (q_a (q_s [102, 111, 108, 105, 111]) (q_a (q_s [115, 97, 121]) (q_a (q_s [100, 114, 111, 112]) (q_a (q_s [100, 114, 111, 112, 32, 48, 49]) (q_a (q_s [100, 114, 111, 112, 32, 45, 49]) (q_a (q_s [115, 101, 116, 32, 48, 32, 48]) (q_a (q_s [115, 101, 116, 32, 48, 32, 48, 32, 97, 126]) (q_a (q_s [115, 101, 116, 32, 48, 48, 32, 49, 32, 97]) (q_a (q_s [115, 104, 105, 101, 108, 100, 32, 35, 35]) (q_a (q_s [115, 104, 111, 114, 116, 32, 49]) (q_a (q_s [108, 105, 110, 101, 32, 35, 32, 97, 110, 110, 32, 100, 101, 101, 112]) (q_n))))))))))))))))
      (ds_one (ds_ret (q_call (h.f__law_pick) hr (by decide) tk (q_a (q_v 0) (q_a (de_bin (opd_add g) (q_v 5) (de_lst (q_a (q_s [119, 105, 100, 116, 104, 32, 49, 48, 48, 48, 48]) (q_a (q_s [114, 101, 102, 32, 65, 110, 110]) (q_a (q_s [115, 111, 117, 110, 100]) (q_a (q_s [97, 116, 63, 32, 49, 32, 50]) (q_a (q_s [108, 105, 110, 101, 63, 32, 48, 49]) (q_a (q_s [102, 105, 110, 100, 63, 32, 112, 97, 103, 101]) (q_a (q_s [110, 111, 100, 101, 63, 32, 47]) (q_a (q_s [112, 97, 105, 114, 32, 91, 32, 93, 32, 103, 117, 115, 32, 104, 101, 97, 100]) (q_n))))))))))) (q_n)))))))))))))

theorem Hy.f__law_read_pattern (h : Hy P w K mg base Γ) : Cl P w K mg base Γ 2 "_law_read_pattern" 1 r__law_read_pattern := h.d__law_read_pattern.cl fun f fd F => fn_run F sc__law_read_pattern fun cdv A outer s H E hr => by
    have g : Ok (cxOf (L2N.CX P w) P w K mg base ["text", "words", "found", "part", "rest", "pieces"] "_law_read_pattern" (defScope s__law_read_pattern) f cdv A outer s H E) Γ := ⟨h.gk, h.gp, h.gw, hr.units⟩
    have tk : L2N.Takes (cxOf (L2N.CX P w) P w K mg base ["text", "words", "found", "part", "rest", "pieces"] "_law_read_pattern" (defScope s__law_read_pattern) f cdv A outer s H E) (fun cls d _ H' => E cls d H') := L2N.takes_of rfl rfl rfl rfl
    have nd := sc__law_read_pattern.nd
    have hp : PassesOwn (model P w) (A.deeper (envOfC "_law_read_pattern" (defScope s__law_read_pattern) s.heap.objs.size f cdv)) _ _ := L2.passes_of (X := (cxOf (L2N.CX P w) P w K mg base ["text", "words", "found", "part", "rest", "pieces"] "_law_read_pattern" (defScope s__law_read_pattern) f cdv A outer s H E)) rfl
    exact ds_cons (s_par g 1 2 nd (q_a (de_lst (q_a (q_s [42]) (q_a (q_s [112, 97, 103, 101]) (q_a (q_s [113, 117, 111, 116, 101]) (q_a (q_s [108, 105, 115, 116]) (q_a (q_s [105, 116, 101, 109]) (q_a (q_s [104, 101, 97, 100]) (q_a (q_s [114, 97, 119]) (q_a (q_s [102, 101, 110, 99, 101]) (q_a (q_s [112, 97, 114, 97]) (q_a (q_s [108, 105, 110, 101]) (q_a (q_s [112, 97, 105, 114]) (q_a (q_s [116, 111, 114, 110]) (q_a (q_s [116, 101, 120, 116]) (q_n))))))))))))))) (q_a (de_tup (q_n)) q_n)))
      (ds_cons (s_for g hp (di_any g (q_split g (q_v 0) (q_s [47]))) (g_name 3 nd)
       (ds_cons (s_set 4 nd (de_if (t_cmp (opd_eq g) (de_sl g (q_v 3) (dp_none) (dp_some (de_int))) (q_s [43])) (de_sl g (q_v 3) (dp_some (de_int)) (dp_none)) (q_v 3)))
       (ds_cons (s_set 5 nd (q_split g (q_v 4) (q_s [58])))
       (ds_cons (ds_if ((dw_or (t_cmp (opd_ne g) (q_len g h.m_len (q_v 5)) (de_int)) (dw_or (t_cmp (opd_notin g) (q_ix g (q_v 5) (de_int)) (q_v 1)) (dw_or1 ((dw_and (t_cmp (opd_ne g) (q_ix g (q_v 5) (de_int)) (q_s [42])) (dw_and1 (dt_not (t_val (q_call (h.f__law_is_name) hr (by decide) tk (q_a (q_ix g (q_v 5) (de_int)) (q_n))))))).t)))).t)
        (ds_one (ds_ret (de_tup (q_n))))
        (ds_nil))
       (ds_one (s_set 2 nd (de_bin (opd_add g) (q_v 2) (de_tup (q_a (de_tup (q_a (de_if (t_cmp (opd_ne g) (q_ix g (q_v 5) (de_int)) (q_s [42])) (q_ix g (q_v 5) (de_int)) (q_s [])) (q_a (de_if (t_cmp (opd_ne g) (q_ix g (q_v 5) (de_int)) (q_s [42])) (q_ix g (q_v 5) (de_int)) (q_s [])) (q_a (q_cmp (opd_eq g) (de_sl g (q_v 3) (dp_none) (dp_some (de_int))) (q_s [43])) (q_n))))) (q_n))))))))))
      (ds_one (ds_ret (de_if (t_cmp opd_le (q_len g h.m_len (q_v 2)) (de_int)) (de_tup (q_a (q_v 2) (q_n))) (de_tup (q_n))))))

theorem Hy.lo_0 (h : Hy P w K mg base Γ) : LamOk P w K mg base Γ 6 0 0 cr_0 := by
  obtain ⟨K0, P0, w0, cls, fld, lam, cells, T, hot⟩ := Γ
  obtain rfl : lam = lamw := h.gl
  exact lamok_of (Γ := ⟨K0, P0, w0, cls, fld, lamw, cells, T, hot⟩) (k := 0) (N := ["a", "ones"]) (ps := ["a"]) (nscope_by (show nscB ["a", "ones"] ["a"] (lamw 0).fr (lamw 0).scope = true by decide +kernel)) rfl (lb_one rfl) fun A outer s H E f c cl hr => by
    have g : Ok (ncx (L2N.CX P w) P w K mg base ["a", "ones"] (lamNF (lamw 0) cl c) f A outer s H E) ⟨K0, P0, w0, cls, fld, lamw, cells, T, hot⟩ := ⟨h.gk, h.gp, h.gw, hr.units⟩
    have tk : L2N.Takes (ncx (L2N.CX P w) P w K mg base ["a", "ones"] (lamNF (lamw 0) cl c) f A outer s H E) (fun cls d _ H' => E cls d H') := L2N.takes_of rfl rfl rfl rfl
    exact q_call (h.f_read_code) hr (by decide) tk (q_a (q_ix g (q_v 1) (de_int)) (q_n))

theorem Hy.lo_1 (h : Hy P w K mg base Γ) : LamOk P w K mg base Γ 6 1 0 cr_1 := by
  obtain ⟨K0, P0, w0, cls, fld, lam, cells, T, hot⟩ := Γ
  obtain rfl : lam = lamw := h.gl
  exact lamok_of (Γ := ⟨K0, P0, w0, cls, fld, lamw, cells, T, hot⟩) (k := 1) (N := ["b", "ones"]) (ps := ["b"]) (nscope_by (show nscB ["b", "ones"] ["b"] (lamw 1).fr (lamw 1).scope = true by decide +kernel)) rfl (lb_one rfl) fun A outer s H E f c cl hr => by
    have g : Ok (ncx (L2N.CX P w) P w K mg base ["b", "ones"] (lamNF (lamw 1) cl c) f A outer s H E) ⟨K0, P0, w0, cls, fld, lamw, cells, T, hot⟩ := ⟨h.gk, h.gp, h.gw, hr.units⟩
    have tk : L2N.Takes (ncx (L2N.CX P w) P w K mg base ["b", "ones"] (lamNF (lamw 1) cl c) f A outer s H E) (fun cls d _ H' => E cls d H') := L2N.takes_of rfl rfl rfl rfl
    exact q_call (h.f_read_path) hr (by decide) tk (q_a (q_ix g (q_v 1) (de_int)) (q_n))

theorem Hy.lo_2 (h : Hy P w K mg base Γ) : LamOk P w K mg base Γ 6 2 0 cr_2 := by
  obtain ⟨K0, P0, w0, cls, fld, lam, cells, T, hot⟩ := Γ
  obtain rfl : lam = lamw := h.gl
  exact lamok_of (Γ := ⟨K0, P0, w0, cls, fld, lamw, cells, T, hot⟩) (k := 2) (N := ["c", "ones"]) (ps := ["c"]) (nscope_by (show nscB ["c", "ones"] ["c"] (lamw 2).fr (lamw 2).scope = true by decide +kernel)) rfl (lb_one rfl) fun A outer s H E f c cl hr => by
    have g : Ok (ncx (L2N.CX P w) P w K mg base ["c", "ones"] (lamNF (lamw 2) cl c) f A outer s H E) ⟨K0, P0, w0, cls, fld, lamw, cells, T, hot⟩ := ⟨h.gk, h.gp, h.gw, hr.units⟩
    have tk : L2N.Takes (ncx (L2N.CX P w) P w K mg base ["c", "ones"] (lamNF (lamw 2) cl c) f A outer s H E) (fun cls d _ H' => E cls d H') := L2N.takes_of rfl rfl rfl rfl
    exact q_call (h.f_read_pattern) hr (by decide) tk (q_a (q_ix g (q_v 1) (de_int)) (q_n))

theorem Hy.lo_3 (h : Hy P w K mg base Γ) : LamOk P w K mg base Γ 6 3 0 cr_3 := by
  obtain ⟨K0, P0, w0, cls, fld, lam, cells, T, hot⟩ := Γ
  obtain rfl : lam = lamw := h.gl
  exact lamok_of (Γ := ⟨K0, P0, w0, cls, fld, lamw, cells, T, hot⟩) (k := 3) (N := ["a", "odd"]) (ps := ["a"]) (nscope_by (show nscB ["a", "odd"] ["a"] (lamw 3).fr (lamw 3).scope = true by decide +kernel)) rfl (lb_one rfl) fun A outer s H E f c cl hr => by
    have g : Ok (ncx (L2N.CX P w) P w K mg base ["a", "odd"] (lamNF (lamw 3) cl c) f A outer s H E) ⟨K0, P0, w0, cls, fld, lamw, cells, T, hot⟩ := ⟨h.gk, h.gp, h.gw, hr.units⟩
    have tk : L2N.Takes (ncx (L2N.CX P w) P w K mg base ["a", "odd"] (lamNF (lamw 3) cl c) f A outer s H E) (fun cls d _ H' => E cls d H') := L2N.takes_of rfl rfl rfl rfl
    exact q_call (h.f_read_code) hr (by decide) tk (q_a (q_v 1) (q_n))

theorem Hy.lo_4 (h : Hy P w K mg base Γ) : LamOk P w K mg base Γ 6 4 0 cr_4 := by
  obtain ⟨K0, P0, w0, cls, fld, lam, cells, T, hot⟩ := Γ
  obtain rfl : lam = lamw := h.gl
  exact lamok_of (Γ := ⟨K0, P0, w0, cls, fld, lamw, cells, T, hot⟩) (k := 4) (N := ["b", "odd"]) (ps := ["b"]) (nscope_by (show nscB ["b", "odd"] ["b"] (lamw 4).fr (lamw 4).scope = true by decide +kernel)) rfl (lb_one rfl) fun A outer s H E f c cl hr => by
    have g : Ok (ncx (L2N.CX P w) P w K mg base ["b", "odd"] (lamNF (lamw 4) cl c) f A outer s H E) ⟨K0, P0, w0, cls, fld, lamw, cells, T, hot⟩ := ⟨h.gk, h.gp, h.gw, hr.units⟩
    have tk : L2N.Takes (ncx (L2N.CX P w) P w K mg base ["b", "odd"] (lamNF (lamw 4) cl c) f A outer s H E) (fun cls d _ H' => E cls d H') := L2N.takes_of rfl rfl rfl rfl
    exact q_call (h.f_read_path) hr (by decide) tk (q_a (q_v 1) (q_n))

theorem Hy.lo_5 (h : Hy P w K mg base Γ) : LamOk P w K mg base Γ 6 5 0 cr_5 := by
  obtain ⟨K0, P0, w0, cls, fld, lam, cells, T, hot⟩ := Γ
  obtain rfl : lam = lamw := h.gl
  exact lamok_of (Γ := ⟨K0, P0, w0, cls, fld, lamw, cells, T, hot⟩) (k := 5) (N := ["c", "odd"]) (ps := ["c"]) (nscope_by (show nscB ["c", "odd"] ["c"] (lamw 5).fr (lamw 5).scope = true by decide +kernel)) rfl (lb_one rfl) fun A outer s H E f c cl hr => by
    have g : Ok (ncx (L2N.CX P w) P w K mg base ["c", "odd"] (lamNF (lamw 5) cl c) f A outer s H E) ⟨K0, P0, w0, cls, fld, lamw, cells, T, hot⟩ := ⟨h.gk, h.gp, h.gw, hr.units⟩
    have tk : L2N.Takes (ncx (L2N.CX P w) P w K mg base ["c", "odd"] (lamNF (lamw 5) cl c) f A outer s H E) (fun cls d _ H' => E cls d H') := L2N.takes_of rfl rfl rfl rfl
    exact q_call (h.f_read_pattern) hr (by decide) tk (q_a (q_v 1) (q_n))

theorem Hy.lo_6 (h : Hy P w K mg base Γ) : LamOk P w K mg base Γ 6 6 0 cr_6 := by
  obtain ⟨K0, P0, w0, cls, fld, lam, cells, T, hot⟩ := Γ
  obtain rfl : lam = lamw := h.gl
  exact lamok_of (Γ := ⟨K0, P0, w0, cls, fld, lamw, cells, T, hot⟩) (k := 6) (N := ["d"]) (ps := ["d"]) (nscope_by (show nscB ["d"] ["d"] (lamw 6).fr (lamw 6).scope = true by decide +kernel)) rfl (lb_one rfl) fun A outer s H E f c cl hr => by
    have g : Ok (ncx (L2N.CX P w) P w K mg base ["d"] (lamNF (lamw 6) cl c) f A outer s H E) ⟨K0, P0, w0, cls, fld, lamw, cells, T, hot⟩ := ⟨h.gk, h.gp, h.gw, hr.units⟩
    have tk : L2N.Takes (ncx (L2N.CX P w) P w K mg base ["d"] (lamNF (lamw 6) cl c) f A outer s H E) (fun cls d _ H' => E cls d H') := L2N.takes_of rfl rfl rfl rfl
    exact q_call (h.f_read_code) hr (by decide) tk (q_a (de_bin opd_mulS (q_s [97]) (de_int)) (q_n))

theorem Hy.lo_7 (h : Hy P w K mg base Γ) : LamOk P w K mg base Γ 6 7 0 cr_7 := by
  obtain ⟨K0, P0, w0, cls, fld, lam, cells, T, hot⟩ := Γ
  obtain rfl : lam = lamw := h.gl
  exact lamok_of (Γ := ⟨K0, P0, w0, cls, fld, lamw, cells, T, hot⟩) (k := 7) (N := ["a", "bad"]) (ps := ["a"]) (nscope_by (show nscB ["a", "bad"] ["a"] (lamw 7).fr (lamw 7).scope = true by decide +kernel)) rfl (lb_one rfl) fun A outer s H E f c cl hr => by
    have g : Ok (ncx (L2N.CX P w) P w K mg base ["a", "bad"] (lamNF (lamw 7) cl c) f A outer s H E) ⟨K0, P0, w0, cls, fld, lamw, cells, T, hot⟩ := ⟨h.gk, h.gp, h.gw, hr.units⟩
    have tk : L2N.Takes (ncx (L2N.CX P w) P w K mg base ["a", "bad"] (lamNF (lamw 7) cl c) f A outer s H E) (fun cls d _ H' => E cls d H') := L2N.takes_of rfl rfl rfl rfl
    exact q_call (h.f_code_of) hr (by decide) tk (q_a (q_v 1) (q_n))

theorem Hy.lo_8 (h : Hy P w K mg base Γ) : LamOk P w K mg base Γ 6 8 0 cr_8 := by
  obtain ⟨K0, P0, w0, cls, fld, lam, cells, T, hot⟩ := Γ
  obtain rfl : lam = lamw := h.gl
  exact lamok_of (Γ := ⟨K0, P0, w0, cls, fld, lamw, cells, T, hot⟩) (k := 8) (N := ["b", "wrong"]) (ps := ["b"]) (nscope_by (show nscB ["b", "wrong"] ["b"] (lamw 8).fr (lamw 8).scope = true by decide +kernel)) rfl (lb_one rfl) fun A outer s H E f c cl hr => by
    have g : Ok (ncx (L2N.CX P w) P w K mg base ["b", "wrong"] (lamNF (lamw 8) cl c) f A outer s H E) ⟨K0, P0, w0, cls, fld, lamw, cells, T, hot⟩ := ⟨h.gk, h.gp, h.gw, hr.units⟩
    have tk : L2N.Takes (ncx (L2N.CX P w) P w K mg base ["b", "wrong"] (lamNF (lamw 8) cl c) f A outer s H E) (fun cls d _ H' => E cls d H') := L2N.takes_of rfl rfl rfl rfl
    exact q_call (h.f_path_text) hr (by decide) tk (q_a (q_v 1) (q_n))

theorem Hy.lo_9 (h : Hy P w K mg base Γ) : LamOk P w K mg base Γ 6 9 0 cr_9 := by
  obtain ⟨K0, P0, w0, cls, fld, lam, cells, T, hot⟩ := Γ
  obtain rfl : lam = lamw := h.gl
  exact lamok_of (Γ := ⟨K0, P0, w0, cls, fld, lamw, cells, T, hot⟩) (k := 9) (N := ["c", "wrong"]) (ps := ["c"]) (nscope_by (show nscB ["c", "wrong"] ["c"] (lamw 9).fr (lamw 9).scope = true by decide +kernel)) rfl (lb_one rfl) fun A outer s H E f c cl hr => by
    have g : Ok (ncx (L2N.CX P w) P w K mg base ["c", "wrong"] (lamNF (lamw 9) cl c) f A outer s H E) ⟨K0, P0, w0, cls, fld, lamw, cells, T, hot⟩ := ⟨h.gk, h.gp, h.gw, hr.units⟩
    have tk : L2N.Takes (ncx (L2N.CX P w) P w K mg base ["c", "wrong"] (lamNF (lamw 9) cl c) f A outer s H E) (fun cls d _ H' => E cls d H') := L2N.takes_of rfl rfl rfl rfl
    exact q_call (h.f_pattern_text) hr (by decide) tk (q_a (q_v 1) (q_n))

theorem Hy.lo_10 (h : Hy P w K mg base Γ) : LamOk P w K mg base Γ 6 10 0 cr_10 := by
  obtain ⟨K0, P0, w0, cls, fld, lam, cells, T, hot⟩ := Γ
  obtain rfl : lam = lamw := h.gl
  exact lamok_of (Γ := ⟨K0, P0, w0, cls, fld, lamw, cells, T, hot⟩) (k := 10) (N := ["d"]) (ps := ["d"]) (nscope_by (show nscB ["d"] ["d"] (lamw 10).fr (lamw 10).scope = true by decide +kernel)) rfl (lb_one rfl) fun A outer s H E f c cl hr => by
    have g : Ok (ncx (L2N.CX P w) P w K mg base ["d"] (lamNF (lamw 10) cl c) f A outer s H E) ⟨K0, P0, w0, cls, fld, lamw, cells, T, hot⟩ := ⟨h.gk, h.gp, h.gw, hr.units⟩
    have tk : L2N.Takes (ncx (L2N.CX P w) P w K mg base ["d"] (lamNF (lamw 10) cl c) f A outer s H E) (fun cls d _ H' => E cls d H') := L2N.takes_of rfl rfl rfl rfl
    exact q_call (h.f_pattern_text) hr (by decide) tk (q_a (de_tup (q_n)) (q_n))

theorem Hy.lo (h : Hy P w K mg base Γ) : ∀ k ∈ lamS, LamOk P w K mg base Γ 6 k 0 (crun k) := fun k hk => by
  simp only [lamS, List.mem_cons, List.not_mem_nil, or_false] at hk
  rcases hk with rfl | rfl | rfl | rfl | rfl | rfl | rfl | rfl | rfl | rfl | rfl
  · exact h.lo_0
  · exact h.lo_1
  · exact h.lo_2
  · exact h.lo_3
  · exact h.lo_4
  · exact h.lo_5
  · exact h.lo_6
  · exact h.lo_7
  · exact h.lo_8
  · exact h.lo_9
  · exact h.lo_10
theorem Hy.f__law_told (h : Hy P w K mg base Γ) : Cl P w K mg base Γ 7 "_law_told" 1 r__law_told := h.d__law_told.cl fun f fd F => fn_run F sc__law_told fun cdv A outer s H E hr => by
    have g : Ok (cxOf (L2N.CX P w) P w K mg base ["call", "e"] "_law_told" (defScope s__law_told) f cdv A outer s H E) Γ := ⟨h.gk, h.gp, h.gw, hr.units⟩
    have tk : L2N.Takes (cxOf (L2N.CX P w) P w K mg base ["call", "e"] "_law_told" (defScope s__law_told) f cdv A outer s H E) (fun cls d _ H' => E cls d H') := L2N.takes_of rfl rfl rfl rfl
    have nd := sc__law_told.nd
    exact ds_one (s_told 1 cat_MarkError nd h.n_MarkError tk h.k_MarkError h.f__law_refusal hr (by decide) (fun W' pn xe tk => ds_one (ds_ret (de_tup (q_a (q_s [116, 111, 108, 100]) (q_a (q_clo0 0 tk hr (by decide) h.lo) (q_n)))))))

theorem Hy.law (h : Hy P w K mg base Γ) {c P0 : Addr} (tB : LamX.TabB base mg c P0) (hT : Γ.T = [(P0, fun _ _ => lamQ)]) {f : Addr} {fd : FuncData} (F : Fun K "law" "law" s_law f fd)
    (hc : ∃ oc od kV doc pm an ct osl, K.lookup f = some ⟨oc, od, .func (PySem.W.fnOf "law" "law" (defArgs s_law) (defBody s_law) (defScope s_law) .none kV doc pm an (.ref c) ct), osl⟩) {A : Around} (ha : Room 8 A) (hgd : A.guards = some []) :
    FnA P w K mg base (L2N.CX P w) A f fd ["script"] (spR Γ 1 r_law) := by
  obtain ⟨K0, P1, w0, cls, fld, lam, cells, T, hot⟩ := Γ
  obtain rfl : lam = lamw := h.gl
  obtain rfl : cells = none := h.gce
  obtain rfl : T = _ := hT
  exact fn_runLA rfl F sc_law ha fun cdv outer s H E hcode hr => by
    obtain rfl : cdv = .ref c := code_eq (a := defArgs s_law) (b := defArgs s_law) hcode hc
    clear hcode
    have g : Ok (cxOf (L2N.CX P w) P w K mg base ["script", "row", "told", "turn", "text", "word", "path", "pattern", "line", "k", "ones", "dues", "made", "odd", "calls", "bad", "wrong", "call", "one", "i"] "law" (defScope s_law) f (.ref c) A outer s H E) (Gam.at ⟨K0, P1, w0, cls, fld, lamw, none, [(P0, fun _ _ => lamQ)], hot⟩ (envOfC "law" (defScope s_law) s.heap.objs.size f (.ref c)).cells) := ⟨h.gk, h.gp, h.gw, hr.units⟩
    have tk : L2N.Takes (cxOf (L2N.CX P w) P w K mg base ["script", "row", "told", "turn", "text", "word", "path", "pattern", "line", "k", "ones", "dues", "made", "odd", "calls", "bad", "wrong", "call", "one", "i"] "law" (defScope s_law) f (.ref c) A outer s H E) (fun cls d _ H' => E cls d H') := L2N.takes_of rfl rfl rfl rfl
    have nd := sc_law.nd
    have tb : TabL (cxOf (L2N.CX P w) P w K mg base ["script", "row", "told", "turn", "text", "word", "path", "pattern", "line", "k", "ones", "dues", "made", "odd", "calls", "bad", "wrong", "call", "one", "i"] "law" (defScope s_law) f (.ref c) A outer s H E).base (cxOf (L2N.CX P w) P w K mg base ["script", "row", "told", "turn", "text", "word", "path", "pattern", "line", "k", "ones", "dues", "made", "odd", "calls", "bad", "wrong", "call", "one", "i"] "law" (defScope s_law) f (.ref c) A outer s H E).mg (Gam.at ⟨K0, P1, w0, cls, fld, lamw, none, [(P0, fun _ _ => lamQ)], hot⟩ (envOfC "law" (defScope s_law) s.heap.objs.size f (.ref c)).cells).T c P0 lamQ := ⟨tB, List.mem_singleton.mpr rfl, fun p hp _ => by rw [List.mem_singleton.mp hp]⟩
    have hcode : (cxOf (L2N.CX P w) P w K mg base ["script", "row", "told", "turn", "text", "word", "path", "pattern", "line", "k", "ones", "dues", "made", "odd", "calls", "bad", "wrong", "call", "one", "i"] "law" (defScope s_law) f (.ref c) A outer s H E).env.code = .ref c := rfl
    have hce : (Gam.at ⟨K0, P1, w0, cls, fld, lamw, none, [(P0, fun _ _ => lamQ)], hot⟩ (envOfC "law" (defScope s_law) s.heap.objs.size f (.ref c)).cells).cells = some (cxOf (L2N.CX P w) P w K mg base ["script", "row", "told", "turn", "text", "word", "path", "pattern", "line", "k", "ones", "dues", "made", "odd", "calls", "bad", "wrong", "call", "one", "i"] "law" (defScope s_law) f (.ref c) A outer s H E).env.cells := rfl
    have hab : CellsUp (cxOf (L2N.CX P w) P w K mg base ["script", "row", "told", "turn", "text", "word", "path", "pattern", "line", "k", "ones", "dues", "made", "odd", "calls", "bad", "wrong", "call", "one", "i"] "law" (defScope s_law) f (.ref c) A outer s H E) := cells_up
    have hgd : (cxOf (L2N.CX P w) P w K mg base ["script", "row", "told", "turn", "text", "word", "path", "pattern", "line", "k", "ones", "dues", "made", "odd", "calls", "bad", "wrong", "call", "one", "i"] "law" (defScope s_law) f (.ref c) A outer s H E).A.guards = some [] := guards_in hgd
    have hp : PassesOwn (model P w) (A.deeper (envOfC "law" (defScope s_law) s.heap.objs.size f (.ref c))) _ _ := L2.passes_of (X := (cxOf (L2N.CX P w) P w K mg base ["script", "row", "told", "turn", "text", "word", "path", "pattern", "line", "k", "ones", "dues", "made", "odd", "calls", "bad", "wrong", "call", "one", "i"] "law" (defScope s_law) f (.ref c) A outer s H E)) rfl
    exact ds_cons (s_set 1 nd (de_new (q_a (q_v 0) (q_a (de_int) (q_a (de_int) (q_a (de_int) (q_n)))))))
      (ds_cons (s_set 2 nd (q_callL [] js_law (h.f__law_marks) hr (by decide) (lams_nil hce) hab tk (q_a (q_v 1) (q_n))))
      (ds_cons (s_for g hp (i_range h.m_range (de_int)) (g_name 3 nd)
       (ds_cons (s_set 4 nd (q_callL [] js_law (h.f__law_text) hr (by decide) (lams_nil hce) hab tk (q_a (q_v 1) (q_a (de_tup (q_a (q_ix g (q_v 2) (de_int)) (q_a (q_ix g (q_v 2) (de_int)) (q_a (q_s [126]) (q_n))))) (q_a (de_int) (q_n))))))
       (ds_cons (s_set 5 nd (q_callL [] js_law (h.f__law_code) hr (by decide) (lams_nil hce) hab tk (q_a (q_v 4) (q_n))))
       (ds_cons (s_set 6 nd (q_tuple g h.m_tuple (q_lcl (ts := [9]) [] js_law g tk hab nd [("k", 9)] (lams_by (N := ["script", "row", "told", "turn", "text", "word", "path", "pattern", "line", "k", "ones", "dues", "made", "odd", "calls", "bad", "wrong", "call", "one", "i"]) (sc := defScope s_law) hce rfl rfl (by show lamsB ["script", "row", "told", "turn", "text", "word", "path", "pattern", "line", "k", "ones", "dues", "made", "odd", "calls", "bad", "wrong", "call", "one", "i"] (defScope s_law) _ lamw js_law [] = true; decide +kernel)) (by decide) (i_range h.m_range (q_callL [] js_law (h.f__law_taken) hr (by decide) (lams_nil hce) hab tk (q_a (q_v 1) (q_a (de_int) (q_n))))) (blk_by (N := ["script", "row", "told", "turn", "text", "word", "path", "pattern", "line", "k", "ones", "dues", "made", "odd", "calls", "bad", "wrong", "call", "one", "i"]) (sc := defScope s_law) (by decide +kernel)) (fun _ _ _ _ _ _ g => (g_name 9 nd)) (fun _ _ _ _ _ _ g => (dts_nil)) (fun _ _ _ _ _ _ _ g tk => q_call (h.f__law_pick) hr (by decide) tk (q_a (q_v 1) (q_a (de_lst (q_a (de_int) (q_a (de_int) (q_a (de_int) (q_a (de_int) (q_a (de_int) (q_n))))))) (q_n)))))))
       (ds_cons (s_set 7 nd (q_tuple g h.m_tuple (q_lcl (ts := [9]) [] js_law g tk hab nd [("k", 9)] (lams_by (N := ["script", "row", "told", "turn", "text", "word", "path", "pattern", "line", "k", "ones", "dues", "made", "odd", "calls", "bad", "wrong", "call", "one", "i"]) (sc := defScope s_law) hce rfl rfl (by show lamsB ["script", "row", "told", "turn", "text", "word", "path", "pattern", "line", "k", "ones", "dues", "made", "odd", "calls", "bad", "wrong", "call", "one", "i"] (defScope s_law) _ lamw js_law [] = true; decide +kernel)) (by decide) (i_range h.m_range (de_bin (opd_add g) (de_int) (q_callL [] js_law (h.f__law_taken) hr (by decide) (lams_nil hce) hab tk (q_a (q_v 1) (q_a (de_int) (q_n)))))) (blk_by (N := ["script", "row", "told", "turn", "text", "word", "path", "pattern", "line", "k", "ones", "dues", "made", "odd", "calls", "bad", "wrong", "call", "one", "i"]) (sc := defScope s_law) (by decide +kernel)) (fun _ _ _ _ _ _ g => (g_name 9 nd)) (fun _ _ _ _ _ _ g => (dts_nil)) (fun _ _ _ _ _ _ _ g tk => de_tup (q_a (q_call (h.f__law_pick) hr (by decide) tk (q_a (q_v 1) (q_a (de_lst (q_a (q_s []) (q_a (q_s [112, 97, 103, 101]) (q_a (q_s [116, 101, 120, 116]) (q_a (q_s [116, 111, 114, 110]) (q_n)))))) (q_n)))) (q_a (q_call (h.f__law_pick) hr (by decide) tk (q_a (q_v 1) (q_a (de_lst (q_a (q_s []) (q_a (q_s [97, 110, 110]) (q_a (q_s [97, 98, 99, 100, 101, 102, 103, 104]) (q_n))))) (q_n)))) (q_a (q_cmp (opd_eq g) (q_call (h.f__law_taken) hr (by decide) tk (q_a (q_v 1) (q_a (de_int) (q_n)))) (de_int)) (q_n))))))))
       (ds_cons (s_set 8 nd (q_join g (q_s [47]) (q_lcl (ts := [18]) [] js_law g tk hab nd [("one", 18)] (lams_by (N := ["script", "row", "told", "turn", "text", "word", "path", "pattern", "line", "k", "ones", "dues", "made", "odd", "calls", "bad", "wrong", "call", "one", "i"]) (sc := defScope s_law) hce rfl rfl (by show lamsB ["script", "row", "told", "turn", "text", "word", "path", "pattern", "line", "k", "ones", "dues", "made", "odd", "calls", "bad", "wrong", "call", "one", "i"] (defScope s_law) _ lamw js_law [] = true; decide +kernel)) (by decide) (di_any g (q_v 7)) (blk_by (N := ["script", "row", "told", "turn", "text", "word", "path", "pattern", "line", "k", "ones", "dues", "made", "odd", "calls", "bad", "wrong", "call", "one", "i"]) (sc := defScope s_law) (by decide +kernel)) (fun _ _ _ _ _ _ g => (g_name 18 nd)) (fun _ _ _ _ _ _ g => (dts_nil)) (fun _ _ _ _ _ _ _ g tk => de_bin (opd_add g) (de_bin (opd_add g) (de_bin (opd_add g) (de_if (t_val (q_ix g (q_v 18) (de_int))) (q_s [43]) (q_s [])) (de_if (t_cmp (opd_ne g) (q_ix g (q_v 18) (de_int)) (q_s [])) (q_ix g (q_v 18) (de_int)) (q_s [42]))) (q_s [58])) (de_if (t_cmp (opd_ne g) (q_ix g (q_v 18) (de_int)) (q_s [])) (q_ix g (q_v 18) (de_int)) (q_s [42]))))))
       (ds_cons (ds_if (dt_not (t_val (q_callL [] js_law (h.f__law_alike) hr (by decide) (lams_nil hce) hab tk (q_a (de_tup (q_a (q_callL [] js_law (h.f_code_of) hr (by decide) (lams_nil hce) hab tk (q_a (q_v 4) (q_n))) (q_a (q_callL [] js_law (h.f_read_code) hr (by decide) (lams_nil hce) hab tk (q_a (q_v 5) (q_n))) (q_a (q_callL [] js_law (h.f_path_text) hr (by decide) (lams_nil hce) hab tk (q_a (q_v 6) (q_n))) (q_a (q_callL [] js_law (h.f_read_path) hr (by decide) (lams_nil hce) hab tk (q_a (q_callL [] js_law (h.f__law_path_word) hr (by decide) (lams_nil hce) hab tk (q_a (q_v 6) (q_n))) (q_n))) (q_n)))))) (q_a (de_tup (q_a (q_v 5) (q_a (q_v 4) (q_a (q_callL [] js_law (h.f__law_path_word) hr (by decide) (lams_nil hce) hab tk (q_a (q_v 6) (q_n))) (q_a (q_v 6) (q_n)))))) (q_n))))))
        (ds_one (ds_ret (de_bl)))
        (ds_nil))
       (ds_cons (ds_if (dt_not (t_val (q_callL [] js_law (h.f__law_alike) hr (by decide) (lams_nil hce) hab tk (q_a (de_tup (q_a (q_callL [] js_law (h.f_pattern_text) hr (by decide) (lams_nil hce) hab tk (q_a (q_v 7) (q_n))) (q_a (q_callL [] js_law (h.f_read_pattern) hr (by decide) (lams_nil hce) hab tk (q_a (q_v 8) (q_n))) (q_a (q_callL [] js_law (h.f_is_pattern) hr (by decide) (lams_nil hce) hab tk (q_a (q_v 7) (q_n))) (q_n))))) (q_a (de_tup (q_a (q_v 8) (q_a (q_v 7) (q_a (de_bl) (q_n))))) (q_n))))))
        (ds_one (ds_ret (de_bl)))
        (ds_nil))
       (ds_one (s_for g hp (i_range h.m_range (de_int)) (g_name 9 nd)
        (ds_cons (s_set 10 nd (q_lcl (ts := [18]) [] js_law g tk hab nd [("one", 18)] (lams_by (N := ["script", "row", "told", "turn", "text", "word", "path", "pattern", "line", "k", "ones", "dues", "made", "odd", "calls", "bad", "wrong", "call", "one", "i"]) (sc := defScope s_law) hce rfl rfl (by show lamsB ["script", "row", "told", "turn", "text", "word", "path", "pattern", "line", "k", "ones", "dues", "made", "odd", "calls", "bad", "wrong", "call", "one", "i"] (defScope s_law) _ lamw js_law [] = true; decide +kernel)) (by decide) (di_any g (de_lst (q_a (q_v 5) (q_a (q_callL [] js_law (h.f__law_path_word) hr (by decide) (lams_nil hce) hab tk (q_a (q_v 6) (q_n))) (q_a (q_v 8) (q_n)))))) (blk_by (N := ["script", "row", "told", "turn", "text", "word", "path", "pattern", "line", "k", "ones", "dues", "made", "odd", "calls", "bad", "wrong", "call", "one", "i"]) (sc := defScope s_law) (by decide +kernel)) (fun _ _ _ _ _ _ g => (g_name 18 nd)) (fun _ _ _ _ _ _ g => (dts_nil)) (fun _ _ _ _ _ _ _ g tk => q_call (h.f__law_spoiled_line) hr (by decide) tk (q_a (q_v 1) (q_a (q_v 18) (q_n))))))
        (ds_cons (s_set 11 nd (de_lst (q_a (q_callL [] js_law (h.f__law_uncode) hr (by decide) (lams_nil hce) hab tk (q_a (q_ix g (q_v 10) (de_int)) (q_n))) (q_a (q_callL [] js_law (h.f__law_uncode_path) hr (by decide) (lams_nil hce) hab tk (q_a (q_ix g (q_v 10) (de_int)) (q_n))) (q_a (q_callL [] js_law (h.f__law_read_pattern) hr (by decide) (lams_nil hce) hab tk (q_a (q_ix g (q_v 10) (de_int)) (q_n))) (q_n))))))
        (ds_cons (s_set 12 nd (de_lst (q_a (q_callL [0] js_law (h.f__law_told) hr (by decide) (lams_by (N := ["script", "row", "told", "turn", "text", "word", "path", "pattern", "line", "k", "ones", "dues", "made", "odd", "calls", "bad", "wrong", "call", "one", "i"]) (sc := defScope s_law) hce rfl rfl (show lamsB ["script", "row", "told", "turn", "text", "word", "path", "pattern", "line", "k", "ones", "dues", "made", "odd", "calls", "bad", "wrong", "call", "one", "i"] (defScope s_law) (noNames (defScope s_law)) lamw js_law [0] = true by decide +kernel)) hab tk (q_a (q_lam1 (k := 0) g tb hcode (hfree := lf_0)) (q_n))) (q_a (q_callL [1] js_law (h.f__law_told) hr (by decide) (lams_by (N := ["script", "row", "told", "turn", "text", "word", "path", "pattern", "line", "k", "ones", "dues", "made", "odd", "calls", "bad", "wrong", "call", "one", "i"]) (sc := defScope s_law) hce rfl rfl (show lamsB ["script", "row", "told", "turn", "text", "word", "path", "pattern", "line", "k", "ones", "dues", "made", "odd", "calls", "bad", "wrong", "call", "one", "i"] (defScope s_law) (noNames (defScope s_law)) lamw js_law [1] = true by decide +kernel)) hab tk (q_a (q_lam1 (k := 1) g tb hcode (hfree := lf_1)) (q_n))) (q_a (q_callL [2] js_law (h.f__law_told) hr (by decide) (lams_by (N := ["script", "row", "told", "turn", "text", "word", "path", "pattern", "line", "k", "ones", "dues", "made", "odd", "calls", "bad", "wrong", "call", "one", "i"]) (sc := defScope s_law) hce rfl rfl (show lamsB ["script", "row", "told", "turn", "text", "word", "path", "pattern", "line", "k", "ones", "dues", "made", "odd", "calls", "bad", "wrong", "call", "one", "i"] (defScope s_law) (noNames (defScope s_law)) lamw js_law [2] = true by decide +kernel)) hab tk (q_a (q_lam1 (k := 2) g tb hcode (hfree := lf_2)) (q_n))) (q_n))))))
        (ds_one (ds_if (dt_not (t_val (q_callLG [0, 1, 2] js_law (h.f__law_same) hgd hr (by decide) (lams_by (N := ["script", "row", "told", "turn", "text", "word", "path", "pattern", "line", "k", "ones", "dues", "made", "odd", "calls", "bad", "wrong", "call", "one", "i"]) (sc := defScope s_law) hce rfl rfl (show lamsB ["script", "row", "told", "turn", "text", "word", "path", "pattern", "line", "k", "ones", "dues", "made", "odd", "calls", "bad", "wrong", "call", "one", "i"] (defScope s_law) (noNames (defScope s_law)) lamw js_law [0, 1, 2] = true by decide +kernel)) hab tk (q_a (q_v 12) (q_a (q_lcl (ts := [19]) [] js_law g tk hab nd [("i", 19)] (lams_by (N := ["script", "row", "told", "turn", "text", "word", "path", "pattern", "line", "k", "ones", "dues", "made", "odd", "calls", "bad", "wrong", "call", "one", "i"]) (sc := defScope s_law) hce rfl rfl (by show lamsB ["script", "row", "told", "turn", "text", "word", "path", "pattern", "line", "k", "ones", "dues", "made", "odd", "calls", "bad", "wrong", "call", "one", "i"] (defScope s_law) _ lamw js_law [] = true; decide +kernel)) (by decide) (i_range h.m_range (de_int)) (blk_by (N := ["script", "row", "told", "turn", "text", "word", "path", "pattern", "line", "k", "ones", "dues", "made", "odd", "calls", "bad", "wrong", "call", "one", "i"]) (sc := defScope s_law) (by decide +kernel)) (fun _ _ _ _ _ _ g => (g_name 19 nd)) (fun _ _ _ _ _ _ g => (dts_nil)) (fun _ _ _ _ _ _ _ g tk => de_if (t_cmp (opd_ne g) (q_ix g (q_v 11) (q_v 19)) (de_tup (q_n))) (de_tup (q_a (q_s [116, 111, 108, 100]) (q_a (q_ix g (q_ix g (q_v 11) (q_v 19)) (de_int)) (q_n)))) (de_tup (q_a (q_s [66, 97, 100, 78, 117, 109, 98, 101, 114]) (q_a (q_ix g (q_v 10) (q_v 19)) (q_n)))))) (q_n))))))
         (ds_one (ds_ret (de_bl)))
         (ds_nil))))))))))))))))
      (ds_cons (s_set 13 nd (q_callL [] js_law (h.f__law_pick) hr (by decide) (lams_nil hce) hab tk (q_a (q_v 1) (q_a (de_lst (q_a (de_non) (q_a (de_int) (q_a (de_lst (q_a (q_s [97]) (q_n))) (q_a (de_tup (q_a (q_s [97]) (q_n))) (q_a (de_bl) (q_a (q_s []) (q_n)))))))) (q_n)))))
      (ds_cons (s_set 14 nd (de_lst (q_a (q_lam1 (k := 3) g tb hcode (hfree := lf_3)) (q_a (q_lam1 (k := 4) g tb hcode (hfree := lf_4)) (q_a (q_lam1 (k := 5) g tb hcode (hfree := lf_5)) (q_a (q_lam1 (k := 6) g tb hcode (hfree := lf_6)) (q_n)))))))
      (ds_cons (ds_if (dt_not (t_val (q_callLG [] js_law (h.f__law_same) hgd hr (by decide) (lams_nil hce) hab tk (q_a (q_lcl (ts := [17]) [3, 4, 5, 6] js_law g tk hab nd [("call", 17)] (lams_by (N := ["script", "row", "told", "turn", "text", "word", "path", "pattern", "line", "k", "ones", "dues", "made", "odd", "calls", "bad", "wrong", "call", "one", "i"]) (sc := defScope s_law) hce rfl rfl (by show lamsB ["script", "row", "told", "turn", "text", "word", "path", "pattern", "line", "k", "ones", "dues", "made", "odd", "calls", "bad", "wrong", "call", "one", "i"] (defScope s_law) _ lamw js_law [3, 4, 5, 6] = true; decide +kernel)) (by decide) (di_any g (q_v 14)) (blk_by (N := ["script", "row", "told", "turn", "text", "word", "path", "pattern", "line", "k", "ones", "dues", "made", "odd", "calls", "bad", "wrong", "call", "one", "i"]) (sc := defScope s_law) (by decide +kernel)) (fun _ _ _ _ _ _ g => (g_name 17 nd)) (fun _ _ _ _ _ _ g => (dts_nil)) (fun _ _ _ _ _ _ _ g tk => q_call (h.f__law_told) hr (by decide) tk (q_a (q_v 17) (q_n)))) (q_a (de_bin (opd_add g) (de_bin opd_mul (de_lst (q_a (de_tup (q_a (q_s [66, 97, 100, 78, 117, 109, 98, 101, 114]) (q_a (q_v 13) (q_n)))) (q_n))) (de_int)) (de_lst (q_a (de_tup (q_a (q_s [66, 97, 100, 78, 117, 109, 98, 101, 114]) (q_a (de_bin opd_mulS (q_s [97]) (de_int)) (q_n)))) (q_n)))) (q_n))))))
       (ds_one (ds_ret (de_bl)))
       (ds_nil))
      (ds_cons (s_asg (de_tup (q_a (q_callL [] js_law (h.f__law_odd_text) hr (by decide) (lams_nil hce) hab tk (q_a (q_v 1) (q_n))) (q_a (q_callL [] js_law (h.f__law_pick) hr (by decide) (lams_nil hce) hab tk (q_a (q_v 1) (q_a (de_lst (q_a (de_non) (q_a (de_lst (q_n)) (q_a (de_tup (q_a (q_neg (de_int)) (q_n))) (q_a (de_tup (q_a (de_int) (q_n))) (q_a (de_tup (q_a (de_bl) (q_n))) (q_a (de_tup (q_a (q_s [48]) (q_n))) (q_a (de_int) (q_a (de_tup (q_a (de_tup (q_n)) (q_n))) (q_n)))))))))) (q_n)))) (q_n)))) (g_tup g 2 (g_cons (g_name 15 nd) (g_cons (g_name 16 nd) (dgs_nil)))))
      (ds_cons (s_set 14 nd (de_lst (q_a (q_lam1 (k := 7) g tb hcode (hfree := lf_7)) (q_a (q_lam1 (k := 8) g tb hcode (hfree := lf_8)) (q_a (q_lam1 (k := 9) g tb hcode (hfree := lf_9)) (q_a (q_lam1 (k := 10) g tb hcode (hfree := lf_10)) (q_n)))))))
      (ds_one (ds_ret (q_callLG [] js_law (h.f__law_same) hgd hr (by decide) (lams_nil hce) hab tk (q_a (q_lcl (ts := [17]) [7, 8, 9, 10] js_law g tk hab nd [("call", 17)] (lams_by (N := ["script", "row", "told", "turn", "text", "word", "path", "pattern", "line", "k", "ones", "dues", "made", "odd", "calls", "bad", "wrong", "call", "one", "i"]) (sc := defScope s_law) hce rfl rfl (by show lamsB ["script", "row", "told", "turn", "text", "word", "path", "pattern", "line", "k", "ones", "dues", "made", "odd", "calls", "bad", "wrong", "call", "one", "i"] (defScope s_law) _ lamw js_law [7, 8, 9, 10] = true; decide +kernel)) (by decide) (di_any g (q_v 14)) (blk_by (N := ["script", "row", "told", "turn", "text", "word", "path", "pattern", "line", "k", "ones", "dues", "made", "odd", "calls", "bad", "wrong", "call", "one", "i"]) (sc := defScope s_law) (by decide +kernel)) (fun _ _ _ _ _ _ g => (g_name 17 nd)) (fun _ _ _ _ _ _ g => (dts_nil)) (fun _ _ _ _ _ _ _ g tk => q_call (h.f__law_told) hr (by decide) tk (q_a (q_v 17) (q_n)))) (q_a (de_lst (q_a (de_tup (q_a (q_s [66, 97, 100, 78, 117, 109, 98, 101, 114]) (q_a (q_v 15) (q_n)))) (q_a (de_tup (q_a (q_s [66, 97, 100, 78, 117, 109, 98, 101, 114]) (q_a (q_v 16) (q_n)))) (q_a (de_tup (q_a (q_s [66, 97, 100, 78, 117, 109, 98, 101, 114]) (q_a (q_v 16) (q_n)))) (q_a (de_tup (q_a (q_s [66, 97, 100, 78, 117, 109, 98, 101, 114]) (q_a (de_tup (q_n)) (q_n)))) (q_n)))))) (q_n)))))))))))))

end
end K33

set_option maxRecDepth 100000
set_option maxHeartbeats 4000000
namespace K33
open PySem PySem.Spec PyProof.Rows PySem.W L2 LamX NdefX L2H MT
section
variable {P : Program} {w : World} {K : PySem.W.Frag} {mg : Str → Option Value} {h : Heap}
theorem top (KX : K.In h) (G : h.Ns mainGlobals mg) {c0 P0 : Addr}
    {u_BREAK : Value}
    {C_CODES : Addr} {it_CODES : Array DictEntry} {nn_CODES : Nat}
    {u_LONGEST : Value}
    {u_MOST_STEPS : Value}
    {u_MOST_TEXT : Value}
    {u_NOTHING : Value}
    {C_SIGNS : Addr} {it_SIGNS : Array DictEntry} {nn_SIGNS : Nat}
    {u_SMALL : Value}
    {C_WORDS : Addr} {od_WORDS : Option Addr} {it_WORDS : Array Value} {nn_WORDS : Nat} {sl_WORDS : Array (Option Value)}
    {C_MarkError : Addr}
    {C_BadPart : Addr}
    {C_BadNumber : Addr}
    {C_Unknown : Addr}
    {C_BadPlace : Addr}
    {C_BadChange : Addr}
    {C_BadText : Addr}
    {C_BadLine : Addr}
    {C_BadClaim : Addr}
    {C_NothingDone : Addr}
    {fI_BadNumber cda_BadNumber cc_BadNumber : Addr}
    {oc_BadNumber kV_BadNumber doc_BadNumber pm_BadNumber ct_BadNumber : Value} {od_BadNumber an_BadNumber : Option Addr} {osl_BadNumber : Array (Option Value)}
    {f_is_whole : Addr} {oc_is_whole kV_is_whole doc_is_whole pm_is_whole cdv_is_whole ct_is_whole : Value} {od_is_whole an_is_whole : Option Addr} {osl_is_whole : Array (Option Value)}
    {f_is_name : Addr} {oc_is_name kV_is_name doc_is_name pm_is_name cdv_is_name ct_is_name : Value} {od_is_name an_is_name : Option Addr} {osl_is_name : Array (Option Value)}
    {f_is_text : Addr} {oc_is_text kV_is_text doc_is_text pm_is_text cdv_is_text ct_is_text : Value} {od_is_text an_is_text : Option Addr} {osl_is_text : Array (Option Value)}
    {f_is_row : Addr} {oc_is_row kV_is_row doc_is_row pm_is_row cdv_is_row ct_is_row : Value} {od_is_row an_is_row : Option Addr} {osl_is_row : Array (Option Value)}
    {f_is_count : Addr} {oc_is_count kV_is_count doc_is_count pm_is_count cdv_is_count ct_is_count : Value} {od_is_count an_is_count : Option Addr} {osl_is_count : Array (Option Value)}
    {f_is_step : Addr} {oc_is_step kV_is_step doc_is_step pm_is_step cdv_is_step ct_is_step : Value} {od_is_step an_is_step : Option Addr} {osl_is_step : Array (Option Value)}
    {f_is_pattern : Addr} {oc_is_pattern kV_is_pattern doc_is_pattern pm_is_pattern cdv_is_pattern ct_is_pattern : Value} {od_is_pattern an_is_pattern : Option Addr} {osl_is_pattern : Array (Option Value)}
    {f_need_pattern : Addr} {oc_need_pattern kV_need_pattern doc_need_pattern pm_need_pattern cdv_need_pattern ct_need_pattern : Value} {od_need_pattern an_need_pattern : Option Addr} {osl_need_pattern : Array (Option Value)}
    {f_code_of : Addr} {oc_code_of kV_code_of doc_code_of pm_code_of cdv_code_of ct_code_of : Value} {od_code_of an_code_of : Option Addr} {osl_code_of : Array (Option Value)}
    {f_read_code : Addr} {oc_read_code kV_read_code doc_read_code pm_read_code cdv_read_code ct_read_code : Value} {od_read_code an_read_code : Option Addr} {osl_read_code : Array (Option Value)}
    {f_path_text : Addr} {oc_path_text kV_path_text doc_path_text pm_path_text cdv_path_text ct_path_text : Value} {od_path_text an_path_text : Option Addr} {osl_path_text : Array (Option Value)}
    {f_read_path : Addr} {oc_read_path kV_read_path doc_read_path pm_read_path cdv_read_path ct_read_path : Value} {od_read_path an_read_path : Option Addr} {osl_read_path : Array (Option Value)}
    {f_step_text : Addr} {oc_step_text kV_step_text doc_step_text pm_step_text cdv_step_text ct_step_text : Value} {od_step_text an_step_text : Option Addr} {osl_step_text : Array (Option Value)}
    {f_pattern_text : Addr} {oc_pattern_text kV_pattern_text doc_pattern_text pm_pattern_text cdv_pattern_text ct_pattern_text : Value} {od_pattern_text an_pattern_text : Option Addr} {osl_pattern_text : Array (Option Value)}
    {f_read_step : Addr} {oc_read_step kV_read_step doc_read_step pm_read_step cdv_read_step ct_read_step : Value} {od_read_step an_read_step : Option Addr} {osl_read_step : Array (Option Value)}
    {f_read_pattern : Addr} {oc_read_pattern kV_read_pattern doc_read_pattern pm_read_pattern cdv_read_pattern ct_read_pattern : Value} {od_read_pattern an_read_pattern : Option Addr} {osl_read_pattern : Array (Option Value)}
    {f__law_taken : Addr} {oc__law_taken kV__law_taken doc__law_taken pm__law_taken cdv__law_taken ct__law_taken : Value} {od__law_taken an__law_taken : Option Addr} {osl__law_taken : Array (Option Value)}
    {f__law_pick : Addr} {oc__law_pick kV__law_pick doc__law_pick pm__law_pick cdv__law_pick ct__law_pick : Value} {od__law_pick an__law_pick : Option Addr} {osl__law_pick : Array (Option Value)}
    {f__law_alike : Addr} {oc__law_alike kV__law_alike doc__law_alike pm__law_alike cdv__law_alike ct__law_alike : Value} {od__law_alike an__law_alike : Option Addr} {osl__law_alike : Array (Option Value)}
    {f__law_same : Addr} {oc__law_same kV__law_same doc__law_same pm__law_same cdv__law_same ct__law_same : Value} {od__law_same an__law_same : Option Addr} {osl__law_same : Array (Option Value)}
    {f__law_refusal : Addr} {oc__law_refusal kV__law_refusal doc__law_refusal pm__law_refusal cdv__law_refusal ct__law_refusal : Value} {od__law_refusal an__law_refusal : Option Addr} {osl__law_refusal : Array (Option Value)}
    {f__law_is_name : Addr} {oc__law_is_name kV__law_is_name doc__law_is_name pm__law_is_name cdv__law_is_name ct__law_is_name : Value} {od__law_is_name an__law_is_name : Option Addr} {osl__law_is_name : Array (Option Value)}
    {f__law_marks : Addr} {oc__law_marks kV__law_marks doc__law_marks pm__law_marks cdv__law_marks ct__law_marks : Value} {od__law_marks an__law_marks : Option Addr} {osl__law_marks : Array (Option Value)}
    {f__law_letters : Addr} {oc__law_letters kV__law_letters doc__law_letters pm__law_letters cdv__law_letters ct__law_letters : Value} {od__law_letters an__law_letters : Option Addr} {osl__law_letters : Array (Option Value)}
    {f__law_text : Addr} {oc__law_text kV__law_text doc__law_text pm__law_text cdv__law_text ct__law_text : Value} {od__law_text an__law_text : Option Addr} {osl__law_text : Array (Option Value)}
    {f__law_odd_text : Addr} {oc__law_odd_text kV__law_odd_text doc__law_odd_text pm__law_odd_text cdv__law_odd_text ct__law_odd_text : Value} {od__law_odd_text an__law_odd_text : Option Addr} {osl__law_odd_text : Array (Option Value)}
    {f__law_code : Addr} {oc__law_code kV__law_code doc__law_code pm__law_code cdv__law_code ct__law_code : Value} {od__law_code an__law_code : Option Addr} {osl__law_code : Array (Option Value)}
    {f__law_uncode : Addr} {oc__law_uncode kV__law_uncode doc__law_uncode pm__law_uncode cdv__law_uncode ct__law_uncode : Value} {od__law_uncode an__law_uncode : Option Addr} {osl__law_uncode : Array (Option Value)}
    {f__law_is_count : Addr} {oc__law_is_count kV__law_is_count doc__law_is_count pm__law_is_count cdv__law_is_count ct__law_is_count : Value} {od__law_is_count an__law_is_count : Option Addr} {osl__law_is_count : Array (Option Value)}
    {f__law_uncode_path : Addr} {oc__law_uncode_path kV__law_uncode_path doc__law_uncode_path pm__law_uncode_path cdv__law_uncode_path ct__law_uncode_path : Value} {od__law_uncode_path an__law_uncode_path : Option Addr} {osl__law_uncode_path : Array (Option Value)}
    {f__law_path_word : Addr} {oc__law_path_word kV__law_path_word doc__law_path_word pm__law_path_word cdv__law_path_word ct__law_path_word : Value} {od__law_path_word an__law_path_word : Option Addr} {osl__law_path_word : Array (Option Value)}
    {f__law_spoiled_line : Addr} {oc__law_spoiled_line kV__law_spoiled_line doc__law_spoiled_line pm__law_spoiled_line cdv__law_spoiled_line ct__law_spoiled_line : Value} {od__law_spoiled_line an__law_spoiled_line : Option Addr} {osl__law_spoiled_line : Array (Option Value)}
    {f__law_read_pattern : Addr} {oc__law_read_pattern kV__law_read_pattern doc__law_read_pattern pm__law_read_pattern cdv__law_read_pattern ct__law_read_pattern : Value} {od__law_read_pattern an__law_read_pattern : Option Addr} {osl__law_read_pattern : Array (Option Value)}
    {f__law_told : Addr} {oc__law_told kV__law_told doc__law_told pm__law_told cdv__law_told ct__law_told : Value} {od__law_told an__law_told : Option Addr} {osl__law_told : Array (Option Value)}
    {f_law : Addr} {oc_law kV_law doc_law pm_law cdv_law ct_law : Value} {od_law an_law : Option Addr} {osl_law : Array (Option Value)}
    (a_ValueError : PySem.W.nsIn K mainGlobals "ValueError" = some none)
    (a_all : PySem.W.nsIn K mainGlobals "all" = some none)
    (a_bool : PySem.W.nsIn K mainGlobals "bool" = some none)
    (a_int : PySem.W.nsIn K mainGlobals "int" = some none)
    (a_isinstance : PySem.W.nsIn K mainGlobals "isinstance" = some none)
    (a_len : PySem.W.nsIn K mainGlobals "len" = some none)
    (a_list : PySem.W.nsIn K mainGlobals "list" = some none)
    (a_range : PySem.W.nsIn K mainGlobals "range" = some none)
    (a_repr : PySem.W.nsIn K mainGlobals "repr" = some none)
    (a_set : PySem.W.nsIn K mainGlobals "set" = some none)
    (a_sorted : PySem.W.nsIn K mainGlobals "sorted" = some none)
    (a_str : PySem.W.nsIn K mainGlobals "str" = some none)
    (a_super : PySem.W.nsIn K mainGlobals "super" = some none)
    (a_tuple : PySem.W.nsIn K mainGlobals "tuple" = some none)
    (a_BREAK : PySem.W.nsIn K mainGlobals "BREAK" = some (some u_BREAK))
    (s_BREAK : scV u_BREAK = some (.str [10]))
    (a_CODES : PySem.W.nsIn K mainGlobals "CODES" = some (some (.ref C_CODES)))
    (l_CODES : K.lookup C_CODES = some ⟨.type "dict", none, .dict it_CODES nn_CODES, #[]⟩)
    (s_CODES : entD it_CODES.toList = some ([.inr (txt [10]), .inr (txt [32]), .inr (txt [126])], [(.str [126, 110]), (.str [126, 115]), (.str [126, 116])]))
    (k_CODES : PySem.W.KeysLit w.params it_CODES.toList)
    (z_CODES : (C_CODES == sysModules) = false)
    (a_LONGEST : PySem.W.nsIn K mainGlobals "LONGEST" = some (some u_LONGEST))
    (s_LONGEST : scV u_LONGEST = some (.int 8))
    (a_MOST_STEPS : PySem.W.nsIn K mainGlobals "MOST_STEPS" = some (some u_MOST_STEPS))
    (s_MOST_STEPS : scV u_MOST_STEPS = some (.int 6))
    (a_MOST_TEXT : PySem.W.nsIn K mainGlobals "MOST_TEXT" = some (some u_MOST_TEXT))
    (s_MOST_TEXT : scV u_MOST_TEXT = some (.int 2000))
    (a_NOTHING : PySem.W.nsIn K mainGlobals "NOTHING" = some (some u_NOTHING))
    (s_NOTHING : scV u_NOTHING = some (.str [126, 101]))
    (a_SIGNS : PySem.W.nsIn K mainGlobals "SIGNS" = some (some (.ref C_SIGNS)))
    (l_SIGNS : K.lookup C_SIGNS = some ⟨.type "dict", none, .dict it_SIGNS nn_SIGNS, #[]⟩)
    (s_SIGNS : entD it_SIGNS.toList = some ([.inr (txt [110]), .inr (txt [115]), .inr (txt [116])], [(.str [10]), (.str [32]), (.str [126])]))
    (k_SIGNS : PySem.W.KeysLit w.params it_SIGNS.toList)
    (z_SIGNS : (C_SIGNS == sysModules) = false)
    (a_SMALL : PySem.W.nsIn K mainGlobals "SMALL" = some (some u_SMALL))
    (s_SMALL : scV u_SMALL = some (.str [97, 98, 99, 100, 101, 102, 103, 104, 105, 106, 107, 108, 109, 110, 111, 112, 113, 114, 115, 116, 117, 118, 119, 120, 121, 122]))
    (a_WORDS : PySem.W.nsIn K mainGlobals "WORDS" = some (some (.ref C_WORDS)))
    (l_WORDS : K.lookup C_WORDS = some ⟨.type "tuple", od_WORDS, .seq it_WORDS nn_WORDS, sl_WORDS⟩)
    (s_WORDS : scL it_WORDS.toList = some [(.str [112, 97, 103, 101]), (.str [113, 117, 111, 116, 101]), (.str [108, 105, 115, 116]), (.str [105, 116, 101, 109]), (.str [104, 101, 97, 100]), (.str [114, 97, 119]), (.str [102, 101, 110, 99, 101]), (.str [112, 97, 114, 97]), (.str [108, 105, 110, 101]), (.str [112, 97, 105, 114]), (.str [116, 111, 114, 110]), (.str [116, 101, 120, 116])])
    (z_WORDS : it_WORDS.size ≤ sizeLine)
    (a_MarkError : PySem.W.nsIn K mainGlobals "MarkError" = some (some (.ref C_MarkError)))
    (a_BadPart : PySem.W.nsIn K mainGlobals "BadPart" = some (some (.ref C_BadPart)))
    (a_BadNumber : PySem.W.nsIn K mainGlobals "BadNumber" = some (some (.ref C_BadNumber)))
    (a_Unknown : PySem.W.nsIn K mainGlobals "Unknown" = some (some (.ref C_Unknown)))
    (a_BadPlace : PySem.W.nsIn K mainGlobals "BadPlace" = some (some (.ref C_BadPlace)))
    (a_BadChange : PySem.W.nsIn K mainGlobals "BadChange" = some (some (.ref C_BadChange)))
    (a_BadText : PySem.W.nsIn K mainGlobals "BadText" = some (some (.ref C_BadText)))
    (a_BadLine : PySem.W.nsIn K mainGlobals "BadLine" = some (some (.ref C_BadLine)))
    (a_BadClaim : PySem.W.nsIn K mainGlobals "BadClaim" = some (some (.ref C_BadClaim)))
    (a_NothingDone : PySem.W.nsIn K mainGlobals "NothingDone" = some (some (.ref C_NothingDone)))
    (egetattribute_BadNumber : PySem.W.findIn K (.ref C_BadNumber) "__getattribute__" = some (some (.builtin "BaseException.__getattribute__")))
    (egetattr_BadNumber : PySem.W.findIn K (.ref C_BadNumber) "__getattr__" = some none)
    (eclass_BadNumber : PySem.W.findIn K (.ref C_BadNumber) "__class__" = some (some (.builtin "object.__class__")))
    (esetattr_BadNumber : PySem.W.findIn K (.ref C_BadNumber) "__setattr__" = some (some (.builtin "object.__setattr__")))
    (einit_BadNumber : PySem.W.findIn K (.ref C_BadNumber) "__init__" = some (some (.ref fI_BadNumber)))
    (ef_line_BadNumber : PySem.W.findIn K (.ref C_BadNumber) "line" = some none)
    (ef_name_BadNumber : PySem.W.findIn K (.ref C_BadNumber) "name" = some none)
    (ef_part_BadNumber : PySem.W.findIn K (.ref C_BadNumber) "part" = some none)
    (ef_place_BadNumber : PySem.W.findIn K (.ref C_BadNumber) "place" = some none)
    (ef_value_BadNumber : PySem.W.findIn K (.ref C_BadNumber) "value" = some none)
    (eb_BadNumber : PySem.W.subIn K (.ref C_BadNumber) (.type "BaseException") = some true)
    (ev_BadNumber : PySem.W.subIn K (.ref C_BadNumber) (.type "ValueError") = some true)
    (ed_BadNumber : PySem.W.hasDictIn K C_BadNumber = true)
    (en_BadNumber : PySem.W.specialIn K (.builtin "object.__class__") "__get__" = some (some (.builtin "getset_descriptor.__get__")))
    (et_BadNumber : PySem.W.takesIn K (.builtin "object.__class__") = some true)
    (em_BadNumber : PySem.W.mroIn K C_BadNumber (.type "object") = some true)
    (eo_BadNumber : PySem.W.mroIn K C_BadNumber (.ref C_BadNumber) = some true)
    (ety_BadNumber : PySem.W.typeIn K (.ref C_BadNumber) = some (.type "type"))
    (ek_BadNumber : PySem.W.keepIn K (.ref C_BadNumber) = true)
    (eti_BadNumber : PySem.W.typeIn K (.ref fI_BadNumber) = some (.type "function"))
    (es_BadNumber : PySem.W.ks_superIn K C_BadNumber C_BadNumber "__init__" = some (some (.builtin "ValueError.__init__")))
    (el_BadNumber : K.lookup fI_BadNumber = some ⟨oc_BadNumber, od_BadNumber, .func (PySem.W.ksFn "__init__" "BadNumber.__init__" (defArgs (inClass (topS 3) 0)) (defBody (inClass (topS 3) 0)) (defScope (inClass (topS 3) 0)) .none kV_BadNumber doc_BadNumber pm_BadNumber an_BadNumber (.ref cda_BadNumber) ct_BadNumber cc_BadNumber), osl_BadNumber⟩)
    (ec_BadNumber : PySem.W.codeIn K (.ref cda_BadNumber) "BadNumber.__init__" = true)
    (ecode_BadNumber : ∃ ccl cdd vs ccs file tf, K.lookup cda_BadNumber = some ⟨ccl, cdd, .fields vs, ccs⟩ ∧ vs[2]? = some (.str file tf) ∧ ((P.main.file : Str) == file) = true)
    (ecell_BadNumber : ∃ cl cld csl, K.lookup cc_BadNumber = some ⟨cl, cld, .cell (some (.ref C_BadNumber)), csl⟩)
    (ecls_BadNumber : ∃ cd, PySem.W.clsIn K C_BadNumber = some cd)
    (eob_BadNumber : ∃ nm q N bs bm sn sub ab col dd k0 k1 k2 k3 k5, K.lookup C_BadNumber = some (excClassObj nm q C_BadNumber N bs bm true sn sub ab col dd k0 k1 k2 k3 k5 "ValueError.__new__") ∧ PySem.HandSPX.refsVE bm = true)
    (eops_BadNumber : PySem.W.nsIn K cStatics "thirdparty.any" = some none)
    (etop_BadNumber : (P.main.scope.names.lookup ("super" : Str)).isSome = false)
    (ei_BadChange_BadNumber : PySem.W.kitOne K (.ref C_BadNumber) (.ref C_BadChange) = some false)
    (ei_BadClaim_BadNumber : PySem.W.kitOne K (.ref C_BadNumber) (.ref C_BadClaim) = some false)
    (ei_BadLine_BadNumber : PySem.W.kitOne K (.ref C_BadNumber) (.ref C_BadLine) = some false)
    (ei_BadNumber_BadNumber : PySem.W.kitOne K (.ref C_BadNumber) (.ref C_BadNumber) = some true)
    (ei_BadPart_BadNumber : PySem.W.kitOne K (.ref C_BadNumber) (.ref C_BadPart) = some false)
    (ei_BadPlace_BadNumber : PySem.W.kitOne K (.ref C_BadNumber) (.ref C_BadPlace) = some false)
    (ei_BadText_BadNumber : PySem.W.kitOne K (.ref C_BadNumber) (.ref C_BadText) = some false)
    (ei_NothingDone_BadNumber : PySem.W.kitOne K (.ref C_BadNumber) (.ref C_NothingDone) = some false)
    (ei_Unknown_BadNumber : PySem.W.kitOne K (.ref C_BadNumber) (.ref C_Unknown) = some false)
    (ei_ValueError_BadNumber : PySem.W.kitOne K (.ref C_BadNumber) (.type "ValueError") = some true)
    (ex_MarkError_BadNumber : PySem.W.exmOne K (.ref C_BadNumber) (.ref C_MarkError) = some true)
    (a_is_whole : PySem.W.nsIn K mainGlobals "is_whole" = some (some (.ref f_is_whole)))
    (l_is_whole : K.lookup f_is_whole = some ⟨oc_is_whole, od_is_whole, .func (PySem.W.fnOf "is_whole" "is_whole" (defArgs s_is_whole) (defBody s_is_whole) (defScope s_is_whole) .none kV_is_whole doc_is_whole pm_is_whole an_is_whole cdv_is_whole ct_is_whole), osl_is_whole⟩)
    (i_is_whole : PySem.W.codeIn K cdv_is_whole "is_whole" = true)
    (j_is_whole : PySem.W.keepIn K (.ref f_is_whole) = true)
    (a_is_name : PySem.W.nsIn K mainGlobals "is_name" = some (some (.ref f_is_name)))
    (l_is_name : K.lookup f_is_name = some ⟨oc_is_name, od_is_name, .func (PySem.W.fnOf "is_name" "is_name" (defArgs s_is_name) (defBody s_is_name) (defScope s_is_name) .none kV_is_name doc_is_name pm_is_name an_is_name cdv_is_name ct_is_name), osl_is_name⟩)
    (i_is_name : PySem.W.codeIn K cdv_is_name "is_name" = true)
    (j_is_name : PySem.W.keepIn K (.ref f_is_name) = true)
    (a_is_text : PySem.W.nsIn K mainGlobals "is_text" = some (some (.ref f_is_text)))
    (l_is_text : K.lookup f_is_text = some ⟨oc_is_text, od_is_text, .func (PySem.W.fnOf "is_text" "is_text" (defArgs s_is_text) (defBody s_is_text) (defScope s_is_text) .none kV_is_text doc_is_text pm_is_text an_is_text cdv_is_text ct_is_text), osl_is_text⟩)
    (i_is_text : PySem.W.codeIn K cdv_is_text "is_text" = true)
    (j_is_text : PySem.W.keepIn K (.ref f_is_text) = true)
    (a_is_row : PySem.W.nsIn K mainGlobals "is_row" = some (some (.ref f_is_row)))
    (l_is_row : K.lookup f_is_row = some ⟨oc_is_row, od_is_row, .func (PySem.W.fnOf "is_row" "is_row" (defArgs s_is_row) (defBody s_is_row) (defScope s_is_row) .none kV_is_row doc_is_row pm_is_row an_is_row cdv_is_row ct_is_row), osl_is_row⟩)
    (i_is_row : PySem.W.codeIn K cdv_is_row "is_row" = true)
    (j_is_row : PySem.W.keepIn K (.ref f_is_row) = true)
    (a_is_count : PySem.W.nsIn K mainGlobals "is_count" = some (some (.ref f_is_count)))
    (l_is_count : K.lookup f_is_count = some ⟨oc_is_count, od_is_count, .func (PySem.W.fnOf "is_count" "is_count" (defArgs s_is_count) (defBody s_is_count) (defScope s_is_count) .none kV_is_count doc_is_count pm_is_count an_is_count cdv_is_count ct_is_count), osl_is_count⟩)
    (i_is_count : PySem.W.codeIn K cdv_is_count "is_count" = true)
    (j_is_count : PySem.W.keepIn K (.ref f_is_count) = true)
    (a_is_step : PySem.W.nsIn K mainGlobals "is_step" = some (some (.ref f_is_step)))
    (l_is_step : K.lookup f_is_step = some ⟨oc_is_step, od_is_step, .func (PySem.W.fnOf "is_step" "is_step" (defArgs s_is_step) (defBody s_is_step) (defScope s_is_step) .none kV_is_step doc_is_step pm_is_step an_is_step cdv_is_step ct_is_step), osl_is_step⟩)
    (i_is_step : PySem.W.codeIn K cdv_is_step "is_step" = true)
    (j_is_step : PySem.W.keepIn K (.ref f_is_step) = true)
    (a_is_pattern : PySem.W.nsIn K mainGlobals "is_pattern" = some (some (.ref f_is_pattern)))
    (l_is_pattern : K.lookup f_is_pattern = some ⟨oc_is_pattern, od_is_pattern, .func (PySem.W.fnOf "is_pattern" "is_pattern" (defArgs s_is_pattern) (defBody s_is_pattern) (defScope s_is_pattern) .none kV_is_pattern doc_is_pattern pm_is_pattern an_is_pattern cdv_is_pattern ct_is_pattern), osl_is_pattern⟩)
    (i_is_pattern : PySem.W.codeIn K cdv_is_pattern "is_pattern" = true)
    (j_is_pattern : PySem.W.keepIn K (.ref f_is_pattern) = true)
    (a_need_pattern : PySem.W.nsIn K mainGlobals "need_pattern" = some (some (.ref f_need_pattern)))
    (l_need_pattern : K.lookup f_need_pattern = some ⟨oc_need_pattern, od_need_pattern, .func (PySem.W.fnOf "need_pattern" "need_pattern" (defArgs s_need_pattern) (defBody s_need_pattern) (defScope s_need_pattern) .none kV_need_pattern doc_need_pattern pm_need_pattern an_need_pattern cdv_need_pattern ct_need_pattern), osl_need_pattern⟩)
    (i_need_pattern : PySem.W.codeIn K cdv_need_pattern "need_pattern" = true)
    (j_need_pattern : PySem.W.keepIn K (.ref f_need_pattern) = true)
    (a_code_of : PySem.W.nsIn K mainGlobals "code_of" = some (some (.ref f_code_of)))
    (l_code_of : K.lookup f_code_of = some ⟨oc_code_of, od_code_of, .func (PySem.W.fnOf "code_of" "code_of" (defArgs s_code_of) (defBody s_code_of) (defScope s_code_of) .none kV_code_of doc_code_of pm_code_of an_code_of cdv_code_of ct_code_of), osl_code_of⟩)
    (i_code_of : PySem.W.codeIn K cdv_code_of "code_of" = true)
    (j_code_of : PySem.W.keepIn K (.ref f_code_of) = true)
    (a_read_code : PySem.W.nsIn K mainGlobals "read_code" = some (some (.ref f_read_code)))
    (l_read_code : K.lookup f_read_code = some ⟨oc_read_code, od_read_code, .func (PySem.W.fnOf "read_code" "read_code" (defArgs s_read_code) (defBody s_read_code) (defScope s_read_code) .none kV_read_code doc_read_code pm_read_code an_read_code cdv_read_code ct_read_code), osl_read_code⟩)
    (i_read_code : PySem.W.codeIn K cdv_read_code "read_code" = true)
    (j_read_code : PySem.W.keepIn K (.ref f_read_code) = true)
    (a_path_text : PySem.W.nsIn K mainGlobals "path_text" = some (some (.ref f_path_text)))
    (l_path_text : K.lookup f_path_text = some ⟨oc_path_text, od_path_text, .func (PySem.W.fnOf "path_text" "path_text" (defArgs s_path_text) (defBody s_path_text) (defScope s_path_text) .none kV_path_text doc_path_text pm_path_text an_path_text cdv_path_text ct_path_text), osl_path_text⟩)
    (i_path_text : PySem.W.codeIn K cdv_path_text "path_text" = true)
    (j_path_text : PySem.W.keepIn K (.ref f_path_text) = true)
    (a_read_path : PySem.W.nsIn K mainGlobals "read_path" = some (some (.ref f_read_path)))
    (l_read_path : K.lookup f_read_path = some ⟨oc_read_path, od_read_path, .func (PySem.W.fnOf "read_path" "read_path" (defArgs s_read_path) (defBody s_read_path) (defScope s_read_path) .none kV_read_path doc_read_path pm_read_path an_read_path cdv_read_path ct_read_path), osl_read_path⟩)
    (i_read_path : PySem.W.codeIn K cdv_read_path "read_path" = true)
    (j_read_path : PySem.W.keepIn K (.ref f_read_path) = true)
    (a_step_text : PySem.W.nsIn K mainGlobals "step_text" = some (some (.ref f_step_text)))
    (l_step_text : K.lookup f_step_text = some ⟨oc_step_text, od_step_text, .func (PySem.W.fnOf "step_text" "step_text" (defArgs s_step_text) (defBody s_step_text) (defScope s_step_text) .none kV_step_text doc_step_text pm_step_text an_step_text cdv_step_text ct_step_text), osl_step_text⟩)
    (i_step_text : PySem.W.codeIn K cdv_step_text "step_text" = true)
    (j_step_text : PySem.W.keepIn K (.ref f_step_text) = true)
    (a_pattern_text : PySem.W.nsIn K mainGlobals "pattern_text" = some (some (.ref f_pattern_text)))
    (l_pattern_text : K.lookup f_pattern_text = some ⟨oc_pattern_text, od_pattern_text, .func (PySem.W.fnOf "pattern_text" "pattern_text" (defArgs s_pattern_text) (defBody s_pattern_text) (defScope s_pattern_text) .none kV_pattern_text doc_pattern_text pm_pattern_text an_pattern_text cdv_pattern_text ct_pattern_text), osl_pattern_text⟩)
    (i_pattern_text : PySem.W.codeIn K cdv_pattern_text "pattern_text" = true)
    (j_pattern_text : PySem.W.keepIn K (.ref f_pattern_text) = true)
    (a_read_step : PySem.W.nsIn K mainGlobals "read_step" = some (some (.ref f_read_step)))
    (l_read_step : K.lookup f_read_step = some ⟨oc_read_step, od_read_step, .func (PySem.W.fnOf "read_step" "read_step" (defArgs s_read_step) (defBody s_read_step) (defScope s_read_step) .none kV_read_step doc_read_step pm_read_step an_read_step cdv_read_step ct_read_step), osl_read_step⟩)
    (i_read_step : PySem.W.codeIn K cdv_read_step "read_step" = true)
    (j_read_step : PySem.W.keepIn K (.ref f_read_step) = true)
    (a_read_pattern : PySem.W.nsIn K mainGlobals "read_pattern" = some (some (.ref f_read_pattern)))
    (l_read_pattern : K.lookup f_read_pattern = some ⟨oc_read_pattern, od_read_pattern, .func (PySem.W.fnOf "read_pattern" "read_pattern" (defArgs s_read_pattern) (defBody s_read_pattern) (defScope s_read_pattern) .none kV_read_pattern doc_read_pattern pm_read_pattern an_read_pattern cdv_read_pattern ct_read_pattern), osl_read_pattern⟩)
    (i_read_pattern : PySem.W.codeIn K cdv_read_pattern "read_pattern" = true)
    (j_read_pattern : PySem.W.keepIn K (.ref f_read_pattern) = true)
    (a__law_taken : PySem.W.nsIn K mainGlobals "_law_taken" = some (some (.ref f__law_taken)))
    (l__law_taken : K.lookup f__law_taken = some ⟨oc__law_taken, od__law_taken, .func (PySem.W.fnOf "_law_taken" "_law_taken" (defArgs s__law_taken) (defBody s__law_taken) (defScope s__law_taken) .none kV__law_taken doc__law_taken pm__law_taken an__law_taken cdv__law_taken ct__law_taken), osl__law_taken⟩)
    (i__law_taken : PySem.W.codeIn K cdv__law_taken "_law_taken" = true)
    (j__law_taken : PySem.W.keepIn K (.ref f__law_taken) = true)
    (a__law_pick : PySem.W.nsIn K mainGlobals "_law_pick" = some (some (.ref f__law_pick)))
    (l__law_pick : K.lookup f__law_pick = some ⟨oc__law_pick, od__law_pick, .func (PySem.W.fnOf "_law_pick" "_law_pick" (defArgs s__law_pick) (defBody s__law_pick) (defScope s__law_pick) .none kV__law_pick doc__law_pick pm__law_pick an__law_pick cdv__law_pick ct__law_pick), osl__law_pick⟩)
    (i__law_pick : PySem.W.codeIn K cdv__law_pick "_law_pick" = true)
    (j__law_pick : PySem.W.keepIn K (.ref f__law_pick) = true)
    (a__law_alike : PySem.W.nsIn K mainGlobals "_law_alike" = some (some (.ref f__law_alike)))
    (l__law_alike : K.lookup f__law_alike = some ⟨oc__law_alike, od__law_alike, .func (PySem.W.fnOf "_law_alike" "_law_alike" (defArgs s__law_alike) (defBody s__law_alike) (defScope s__law_alike) .none kV__law_alike doc__law_alike pm__law_alike an__law_alike cdv__law_alike ct__law_alike), osl__law_alike⟩)
    (i__law_alike : PySem.W.codeIn K cdv__law_alike "_law_alike" = true)
    (j__law_alike : PySem.W.keepIn K (.ref f__law_alike) = true)
    (a__law_same : PySem.W.nsIn K mainGlobals "_law_same" = some (some (.ref f__law_same)))
    (l__law_same : K.lookup f__law_same = some ⟨oc__law_same, od__law_same, .func (PySem.W.fnOf "_law_same" "_law_same" (defArgs s__law_same) (defBody s__law_same) (defScope s__law_same) .none kV__law_same doc__law_same pm__law_same an__law_same cdv__law_same ct__law_same), osl__law_same⟩)
    (i__law_same : PySem.W.codeIn K cdv__law_same "_law_same" = true)
    (j__law_same : PySem.W.keepIn K (.ref f__law_same) = true)
    (a__law_refusal : PySem.W.nsIn K mainGlobals "_law_refusal" = some (some (.ref f__law_refusal)))
    (l__law_refusal : K.lookup f__law_refusal = some ⟨oc__law_refusal, od__law_refusal, .func (PySem.W.fnOf "_law_refusal" "_law_refusal" (defArgs s__law_refusal) (defBody s__law_refusal) (defScope s__law_refusal) .none kV__law_refusal doc__law_refusal pm__law_refusal an__law_refusal cdv__law_refusal ct__law_refusal), osl__law_refusal⟩)
    (i__law_refusal : PySem.W.codeIn K cdv__law_refusal "_law_refusal" = true)
    (j__law_refusal : PySem.W.keepIn K (.ref f__law_refusal) = true)
    (a__law_is_name : PySem.W.nsIn K mainGlobals "_law_is_name" = some (some (.ref f__law_is_name)))
    (l__law_is_name : K.lookup f__law_is_name = some ⟨oc__law_is_name, od__law_is_name, .func (PySem.W.fnOf "_law_is_name" "_law_is_name" (defArgs s__law_is_name) (defBody s__law_is_name) (defScope s__law_is_name) .none kV__law_is_name doc__law_is_name pm__law_is_name an__law_is_name cdv__law_is_name ct__law_is_name), osl__law_is_name⟩)
    (i__law_is_name : PySem.W.codeIn K cdv__law_is_name "_law_is_name" = true)
    (j__law_is_name : PySem.W.keepIn K (.ref f__law_is_name) = true)
    (a__law_marks : PySem.W.nsIn K mainGlobals "_law_marks" = some (some (.ref f__law_marks)))
    (l__law_marks : K.lookup f__law_marks = some ⟨oc__law_marks, od__law_marks, .func (PySem.W.fnOf "_law_marks" "_law_marks" (defArgs s__law_marks) (defBody s__law_marks) (defScope s__law_marks) .none kV__law_marks doc__law_marks pm__law_marks an__law_marks cdv__law_marks ct__law_marks), osl__law_marks⟩)
    (i__law_marks : PySem.W.codeIn K cdv__law_marks "_law_marks" = true)
    (j__law_marks : PySem.W.keepIn K (.ref f__law_marks) = true)
    (a__law_letters : PySem.W.nsIn K mainGlobals "_law_letters" = some (some (.ref f__law_letters)))
    (l__law_letters : K.lookup f__law_letters = some ⟨oc__law_letters, od__law_letters, .func (PySem.W.fnOf "_law_letters" "_law_letters" (defArgs s__law_letters) (defBody s__law_letters) (defScope s__law_letters) .none kV__law_letters doc__law_letters pm__law_letters an__law_letters cdv__law_letters ct__law_letters), osl__law_letters⟩)
    (i__law_letters : PySem.W.codeIn K cdv__law_letters "_law_letters" = true)
    (j__law_letters : PySem.W.keepIn K (.ref f__law_letters) = true)
    (a__law_text : PySem.W.nsIn K mainGlobals "_law_text" = some (some (.ref f__law_text)))
    (l__law_text : K.lookup f__law_text = some ⟨oc__law_text, od__law_text, .func (PySem.W.fnOf "_law_text" "_law_text" (defArgs s__law_text) (defBody s__law_text) (defScope s__law_text) .none kV__law_text doc__law_text pm__law_text an__law_text cdv__law_text ct__law_text), osl__law_text⟩)
    (i__law_text : PySem.W.codeIn K cdv__law_text "_law_text" = true)
    (j__law_text : PySem.W.keepIn K (.ref f__law_text) = true)
    (a__law_odd_text : PySem.W.nsIn K mainGlobals "_law_odd_text" = some (some (.ref f__law_odd_text)))
    (l__law_odd_text : K.lookup f__law_odd_text = some ⟨oc__law_odd_text, od__law_odd_text, .func (PySem.W.fnOf "_law_odd_text" "_law_odd_text" (defArgs s__law_odd_text) (defBody s__law_odd_text) (defScope s__law_odd_text) .none kV__law_odd_text doc__law_odd_text pm__law_odd_text an__law_odd_text cdv__law_odd_text ct__law_odd_text), osl__law_odd_text⟩)
    (i__law_odd_text : PySem.W.codeIn K cdv__law_odd_text "_law_odd_text" = true)
    (j__law_odd_text : PySem.W.keepIn K (.ref f__law_odd_text) = true)
    (a__law_code : PySem.W.nsIn K mainGlobals "_law_code" = some (some (.ref f__law_code)))
    (l__law_code : K.lookup f__law_code = some ⟨oc__law_code, od__law_code, .func (PySem.W.fnOf "_law_code" "_law_code" (defArgs s__law_code) (defBody s__law_code) (defScope s__law_code) .none kV__law_code doc__law_code pm__law_code an__law_code cdv__law_code ct__law_code), osl__law_code⟩)
    (i__law_code : PySem.W.codeIn K cdv__law_code "_law_code" = true)
    (j__law_code : PySem.W.keepIn K (.ref f__law_code) = true)
    (a__law_uncode : PySem.W.nsIn K mainGlobals "_law_uncode" = some (some (.ref f__law_uncode)))
    (l__law_uncode : K.lookup f__law_uncode = some ⟨oc__law_uncode, od__law_uncode, .func (PySem.W.fnOf "_law_uncode" "_law_uncode" (defArgs s__law_uncode) (defBody s__law_uncode) (defScope s__law_uncode) .none kV__law_uncode doc__law_uncode pm__law_uncode an__law_uncode cdv__law_uncode ct__law_uncode), osl__law_uncode⟩)
    (i__law_uncode : PySem.W.codeIn K cdv__law_uncode "_law_uncode" = true)
    (j__law_uncode : PySem.W.keepIn K (.ref f__law_uncode) = true)
    (a__law_is_count : PySem.W.nsIn K mainGlobals "_law_is_count" = some (some (.ref f__law_is_count)))
    (l__law_is_count : K.lookup f__law_is_count = some ⟨oc__law_is_count, od__law_is_count, .func (PySem.W.fnOf "_law_is_count" "_law_is_count" (defArgs s__law_is_count) (defBody s__law_is_count) (defScope s__law_is_count) .none kV__law_is_count doc__law_is_count pm__law_is_count an__law_is_count cdv__law_is_count ct__law_is_count), osl__law_is_count⟩)
    (i__law_is_count : PySem.W.codeIn K cdv__law_is_count "_law_is_count" = true)
    (j__law_is_count : PySem.W.keepIn K (.ref f__law_is_count) = true)
    (a__law_uncode_path : PySem.W.nsIn K mainGlobals "_law_uncode_path" = some (some (.ref f__law_uncode_path)))
    (l__law_uncode_path : K.lookup f__law_uncode_path = some ⟨oc__law_uncode_path, od__law_uncode_path, .func (PySem.W.fnOf "_law_uncode_path" "_law_uncode_path" (defArgs s__law_uncode_path) (defBody s__law_uncode_path) (defScope s__law_uncode_path) .none kV__law_uncode_path doc__law_uncode_path pm__law_uncode_path an__law_uncode_path cdv__law_uncode_path ct__law_uncode_path), osl__law_uncode_path⟩)
    (i__law_uncode_path : PySem.W.codeIn K cdv__law_uncode_path "_law_uncode_path" = true)
    (j__law_uncode_path : PySem.W.keepIn K (.ref f__law_uncode_path) = true)
    (a__law_path_word : PySem.W.nsIn K mainGlobals "_law_path_word" = some (some (.ref f__law_path_word)))
    (l__law_path_word : K.lookup f__law_path_word = some ⟨oc__law_path_word, od__law_path_word, .func (PySem.W.fnOf "_law_path_word" "_law_path_word" (defArgs s__law_path_word) (defBody s__law_path_word) (defScope s__law_path_word) .none kV__law_path_word doc__law_path_word pm__law_path_word an__law_path_word cdv__law_path_word ct__law_path_word), osl__law_path_word⟩)
    (i__law_path_word : PySem.W.codeIn K cdv__law_path_word "_law_path_word" = true)
    (j__law_path_word : PySem.W.keepIn K (.ref f__law_path_word) = true)
    (a__law_spoiled_line : PySem.W.nsIn K mainGlobals "_law_spoiled_line" = some (some (.ref f__law_spoiled_line)))
    (l__law_spoiled_line : K.lookup f__law_spoiled_line = some ⟨oc__law_spoiled_line, od__law_spoiled_line, .func (PySem.W.fnOf "_law_spoiled_line" "_law_spoiled_line" (defArgs s__law_spoiled_line) (defBody s__law_spoiled_line) (defScope s__law_spoiled_line) .none kV__law_spoiled_line doc__law_spoiled_line pm__law_spoiled_line an__law_spoiled_line cdv__law_spoiled_line ct__law_spoiled_line), osl__law_spoiled_line⟩)
    (i__law_spoiled_line : PySem.W.codeIn K cdv__law_spoiled_line "_law_spoiled_line" = true)
    (j__law_spoiled_line : PySem.W.keepIn K (.ref f__law_spoiled_line) = true)
    (a__law_read_pattern : PySem.W.nsIn K mainGlobals "_law_read_pattern" = some (some (.ref f__law_read_pattern)))
    (l__law_read_pattern : K.lookup f__law_read_pattern = some ⟨oc__law_read_pattern, od__law_read_pattern, .func (PySem.W.fnOf "_law_read_pattern" "_law_read_pattern" (defArgs s__law_read_pattern) (defBody s__law_read_pattern) (defScope s__law_read_pattern) .none kV__law_read_pattern doc__law_read_pattern pm__law_read_pattern an__law_read_pattern cdv__law_read_pattern ct__law_read_pattern), osl__law_read_pattern⟩)
    (i__law_read_pattern : PySem.W.codeIn K cdv__law_read_pattern "_law_read_pattern" = true)
    (j__law_read_pattern : PySem.W.keepIn K (.ref f__law_read_pattern) = true)
    (a__law_told : PySem.W.nsIn K mainGlobals "_law_told" = some (some (.ref f__law_told)))
    (l__law_told : K.lookup f__law_told = some ⟨oc__law_told, od__law_told, .func (PySem.W.fnOf "_law_told" "_law_told" (defArgs s__law_told) (defBody s__law_told) (defScope s__law_told) .none kV__law_told doc__law_told pm__law_told an__law_told cdv__law_told ct__law_told), osl__law_told⟩)
    (i__law_told : PySem.W.codeIn K cdv__law_told "_law_told" = true)
    (j__law_told : PySem.W.keepIn K (.ref f__law_told) = true)
    (a_law : PySem.W.nsIn K mainGlobals "law" = some (some (.ref f_law)))
    (l_law : K.lookup f_law = some ⟨oc_law, od_law, .func (PySem.W.fnOf "law" "law" (defArgs s_law) (defBody s_law) (defScope s_law) .none kV_law doc_law pm_law an_law cdv_law ct_law), osl_law⟩)
    (i_law : PySem.W.codeIn K cdv_law "law" = true)
    (j_law : PySem.W.keepIn K (.ref f_law) = true)
    (hcd : cdv_law = .ref c0) (hT : h.get? P0 = some { cls := .none, data := .fields #[] }) (nT : K.lookup P0 = none) (cT : PySem.W.codeHdIn K c0 P0 = true) {fa : Addr} (hfa : mg "law" = some (.ref fa)) {l : PySem.W.OpenLaw} (hl : l.prog = P) (ht : ∀ ns : List Int, ns.length ≤ 63 → (∀ z ∈ ns, Builtin.Int.intBits z ≤ 1048576) → ∃ M, r_law [.scr ns] [] = .ok (.bl true) M) :
    LawG l w K (L2N.CX P w) 63 "script" mg fa h := by
  subst hcd
  have hy : ∀ base : Heap, Hy P w K mg base ⟨K, P, w, clsT [C_MarkError, C_BadPart, C_BadNumber, C_Unknown, C_BadPlace, C_BadChange, C_BadText, C_BadLine, C_BadClaim, C_NothingDone], fldT, lamw, none, [(P0, fun _ _ => lamQ)], none⟩ := fun base => {
    c_BREAK := cst_sc (mg_of KX G a_BREAK) s_BREAK
    c_CODES := cst_dic rfl rfl (mg_of KX G a_CODES) l_CODES s_CODES k_CODES z_CODES
    c_LONGEST := cst_sc (mg_of KX G a_LONGEST) s_LONGEST
    c_MOST_STEPS := cst_sc (mg_of KX G a_MOST_STEPS) s_MOST_STEPS
    c_MOST_TEXT := cst_sc (mg_of KX G a_MOST_TEXT) s_MOST_TEXT
    c_NOTHING := cst_sc (mg_of KX G a_NOTHING) s_NOTHING
    c_SIGNS := cst_dic rfl rfl (mg_of KX G a_SIGNS) l_SIGNS s_SIGNS k_SIGNS z_SIGNS
    c_SMALL := cst_sc (mg_of KX G a_SMALL) s_SMALL
    c_WORDS := cst_tup rfl (mg_of KX G a_WORDS) l_WORDS s_WORDS z_WORDS
    n_NothingDone := mg_of KX G a_NothingDone
    n_BadClaim := mg_of KX G a_BadClaim
    n_BadNumber := mg_of KX G a_BadNumber
    n_Unknown := mg_of KX G a_Unknown
    n_MarkError := mg_of KX G a_MarkError
    n_BadLine := mg_of KX G a_BadLine
    n_BadChange := mg_of KX G a_BadChange
    n_BadPart := mg_of KX G a_BadPart
    n_BadText := mg_of KX G a_BadText
    n_BadPlace := mg_of KX G a_BadPlace
    m_all := mg_none_of KX G a_all
    m_bool := mg_none_of KX G a_bool
    m_str := mg_none_of KX G a_str
    m_ValueError := mg_none_of KX G a_ValueError
    m_len := mg_none_of KX G a_len
    m_repr := mg_none_of KX G a_repr
    m_isinstance := mg_none_of KX G a_isinstance
    m_set := mg_none_of KX G a_set
    m_range := mg_none_of KX G a_range
    m_list := mg_none_of KX G a_list
    m_int := mg_none_of KX G a_int
    m_tuple := mg_none_of KX G a_tuple
    m_sorted := mg_none_of KX G a_sorted
    d_is_whole := df_mk (mg_of KX G a_is_whole) l_is_whole i_is_whole j_is_whole fun us hu => by
      match us, hu with
      | [_], _ => rfl
    d_is_name := df_mk (mg_of KX G a_is_name) l_is_name i_is_name j_is_name fun us hu => by
      match us, hu with
      | [_], _ => rfl
    d_is_text := df_mk (mg_of KX G a_is_text) l_is_text i_is_text j_is_text fun us hu => by
      match us, hu with
      | [_], _ => rfl
    d_is_row := df_mk (mg_of KX G a_is_row) l_is_row i_is_row j_is_row fun us hu => by
      match us, hu with
      | [_, _], _ => rfl
    d_is_count := df_mk (mg_of KX G a_is_count) l_is_count i_is_count j_is_count fun us hu => by
      match us, hu with
      | [_], _ => rfl
    d_is_step := df_mk (mg_of KX G a_is_step) l_is_step i_is_step j_is_step fun us hu => by
      match us, hu with
      | [_], _ => rfl
    d_is_pattern := df_mk (mg_of KX G a_is_pattern) l_is_pattern i_is_pattern j_is_pattern fun us hu => by
      match us, hu with
      | [_], _ => rfl
    d_need_pattern := df_mk (mg_of KX G a_need_pattern) l_need_pattern i_need_pattern j_need_pattern fun us hu => by
      match us, hu with
      | [_], _ => rfl
    d_code_of := df_mk (mg_of KX G a_code_of) l_code_of i_code_of j_code_of fun us hu => by
      match us, hu with
      | [_], _ => rfl
    d_read_code := df_mk (mg_of KX G a_read_code) l_read_code i_read_code j_read_code fun us hu => by
      match us, hu with
      | [_], _ => rfl
    d_path_text := df_mk (mg_of KX G a_path_text) l_path_text i_path_text j_path_text fun us hu => by
      match us, hu with
      | [_], _ => rfl
    d_read_path := df_mk (mg_of KX G a_read_path) l_read_path i_read_path j_read_path fun us hu => by
      match us, hu with
      | [_], _ => rfl
    d_step_text := df_mk (mg_of KX G a_step_text) l_step_text i_step_text j_step_text fun us hu => by
      match us, hu with
      | [_], _ => rfl
    d_pattern_text := df_mk (mg_of KX G a_pattern_text) l_pattern_text i_pattern_text j_pattern_text fun us hu => by
      match us, hu with
      | [_], _ => rfl
    d_read_step := df_mk (mg_of KX G a_read_step) l_read_step i_read_step j_read_step fun us hu => by
      match us, hu with
      | [_, _], _ => rfl
    d_read_pattern := df_mk (mg_of KX G a_read_pattern) l_read_pattern i_read_pattern j_read_pattern fun us hu => by
      match us, hu with
      | [_], _ => rfl
    d__law_taken := df_mk (mg_of KX G a__law_taken) l__law_taken i__law_taken j__law_taken fun us hu => by
      match us, hu with
      | [_, _], _ => rfl
    d__law_pick := df_mk (mg_of KX G a__law_pick) l__law_pick i__law_pick j__law_pick fun us hu => by
      match us, hu with
      | [_, _], _ => rfl
    d__law_alike := df_mk (mg_of KX G a__law_alike) l__law_alike i__law_alike j__law_alike fun us hu => by
      match us, hu with
      | [_, _], _ => rfl
    d__law_same := df_mk (mg_of KX G a__law_same) l__law_same i__law_same j__law_same fun us hu => by
      match us, hu with
      | [_, _], _ => rfl
    d__law_refusal := df_mk (mg_of KX G a__law_refusal) l__law_refusal i__law_refusal j__law_refusal fun us hu => by
      match us, hu with
      | [_], _ => rfl
    d__law_is_name := df_mk (mg_of KX G a__law_is_name) l__law_is_name i__law_is_name j__law_is_name fun us hu => by
      match us, hu with
      | [_], _ => rfl
    d__law_marks := df_mk (mg_of KX G a__law_marks) l__law_marks i__law_marks j__law_marks fun us hu => by
      match us, hu with
      | [_], _ => rfl
    d__law_letters := df_mk (mg_of KX G a__law_letters) l__law_letters i__law_letters j__law_letters fun us hu => by
      match us, hu with
      | [_], _ => rfl
    d__law_text := df_mk (mg_of KX G a__law_text) l__law_text i__law_text j__law_text fun us hu => by
      match us, hu with
      | [_, _, _], _ => rfl
    d__law_odd_text := df_mk (mg_of KX G a__law_odd_text) l__law_odd_text i__law_odd_text j__law_odd_text fun us hu => by
      match us, hu with
      | [_], _ => rfl
    d__law_code := df_mk (mg_of KX G a__law_code) l__law_code i__law_code j__law_code fun us hu => by
      match us, hu with
      | [_], _ => rfl
    d__law_uncode := df_mk (mg_of KX G a__law_uncode) l__law_uncode i__law_uncode j__law_uncode fun us hu => by
      match us, hu with
      | [_], _ => rfl
    d__law_is_count := df_mk (mg_of KX G a__law_is_count) l__law_is_count i__law_is_count j__law_is_count fun us hu => by
      match us, hu with
      | [_], _ => rfl
    d__law_uncode_path := df_mk (mg_of KX G a__law_uncode_path) l__law_uncode_path i__law_uncode_path j__law_uncode_path fun us hu => by
      match us, hu with
      | [_], _ => rfl
    d__law_path_word := df_mk (mg_of KX G a__law_path_word) l__law_path_word i__law_path_word j__law_path_word fun us hu => by
      match us, hu with
      | [_], _ => rfl
    d__law_spoiled_line := df_mk (mg_of KX G a__law_spoiled_line) l__law_spoiled_line i__law_spoiled_line j__law_spoiled_line fun us hu => by
      match us, hu with
      | [_, _], _ => rfl
    d__law_read_pattern := df_mk (mg_of KX G a__law_read_pattern) l__law_read_pattern i__law_read_pattern j__law_read_pattern fun us hu => by
      match us, hu with
      | [_], _ => rfl
    d__law_told := df_mk (mg_of KX G a__law_told) l__law_told i__law_told j__law_told fun us hu => by
      match us, hu with
      | [_], _ => rfl
    e_NothingDone := isF_of (c := 2) (fun _ => rfl) ei_NothingDone_BadNumber ⟨egetattribute_BadNumber, egetattr_BadNumber, eb_BadNumber, ed_BadNumber, eclass_BadNumber, en_BadNumber, et_BadNumber, em_BadNumber⟩
    e_ValueError := isF_of (c := 2) (fun _ => rfl) ei_ValueError_BadNumber ⟨egetattribute_BadNumber, egetattr_BadNumber, eb_BadNumber, ed_BadNumber, eclass_BadNumber, en_BadNumber, et_BadNumber, em_BadNumber⟩
    e_BadClaim := isF_of (c := 2) (fun _ => rfl) ei_BadClaim_BadNumber ⟨egetattribute_BadNumber, egetattr_BadNumber, eb_BadNumber, ed_BadNumber, eclass_BadNumber, en_BadNumber, et_BadNumber, em_BadNumber⟩
    e_BadNumber := isF_of (c := 2) (fun _ => rfl) ei_BadNumber_BadNumber ⟨egetattribute_BadNumber, egetattr_BadNumber, eb_BadNumber, ed_BadNumber, eclass_BadNumber, en_BadNumber, et_BadNumber, em_BadNumber⟩
    e_Unknown := isF_of (c := 2) (fun _ => rfl) ei_Unknown_BadNumber ⟨egetattribute_BadNumber, egetattr_BadNumber, eb_BadNumber, ed_BadNumber, eclass_BadNumber, en_BadNumber, et_BadNumber, em_BadNumber⟩
    e_BadLine := isF_of (c := 2) (fun _ => rfl) ei_BadLine_BadNumber ⟨egetattribute_BadNumber, egetattr_BadNumber, eb_BadNumber, ed_BadNumber, eclass_BadNumber, en_BadNumber, et_BadNumber, em_BadNumber⟩
    e_BadChange := isF_of (c := 2) (fun _ => rfl) ei_BadChange_BadNumber ⟨egetattribute_BadNumber, egetattr_BadNumber, eb_BadNumber, ed_BadNumber, eclass_BadNumber, en_BadNumber, et_BadNumber, em_BadNumber⟩
    e_BadPart := isF_of (c := 2) (fun _ => rfl) ei_BadPart_BadNumber ⟨egetattribute_BadNumber, egetattr_BadNumber, eb_BadNumber, ed_BadNumber, eclass_BadNumber, en_BadNumber, et_BadNumber, em_BadNumber⟩
    e_BadText := isF_of (c := 2) (fun _ => rfl) ei_BadText_BadNumber ⟨egetattribute_BadNumber, egetattr_BadNumber, eb_BadNumber, ed_BadNumber, eclass_BadNumber, en_BadNumber, et_BadNumber, em_BadNumber⟩
    e_BadPlace := isF_of (c := 2) (fun _ => rfl) ei_BadPlace_BadNumber ⟨egetattribute_BadNumber, egetattr_BadNumber, eb_BadNumber, ed_BadNumber, eclass_BadNumber, en_BadNumber, et_BadNumber, em_BadNumber⟩
    k_MarkError := fun c hc => by
      obtain rfl : c = 2 := by simpa [cat_MarkError] using hc
      exact ex_MarkError_BadNumber
    o_name := fun c hc => by
      obtain rfl : c = 2 := by simpa [okR] using hc
      exact ⟨⟨egetattribute_BadNumber, egetattr_BadNumber, eb_BadNumber, ed_BadNumber⟩, ef_name_BadNumber⟩
    o_place := fun c hc => by
      obtain rfl : c = 2 := by simpa [okR] using hc
      exact ⟨⟨egetattribute_BadNumber, egetattr_BadNumber, eb_BadNumber, ed_BadNumber⟩, ef_place_BadNumber⟩
    o_line := fun c hc => by
      obtain rfl : c = 2 := by simpa [okR] using hc
      exact ⟨⟨egetattribute_BadNumber, egetattr_BadNumber, eb_BadNumber, ed_BadNumber⟩, ef_line_BadNumber⟩
    o_part := fun c hc => by
      obtain rfl : c = 2 := by simpa [okR] using hc
      exact ⟨⟨egetattribute_BadNumber, egetattr_BadNumber, eb_BadNumber, ed_BadNumber⟩, ef_part_BadNumber⟩
    o_value := fun c hc => by
      obtain rfl : c = 2 := by simpa [okR] using hc
      exact ⟨⟨egetattribute_BadNumber, egetattr_BadNumber, eb_BadNumber, ed_BadNumber⟩, ef_value_BadNumber⟩
    x_BadNumber := excL1 (st := inClass (topS 3) 0) (s := "self") (y := "value") (fl := "value") rfl rfl ⟨⟨eob_BadNumber, esetattr_BadNumber, eb_BadNumber, ety_BadNumber, ek_BadNumber⟩, es_BadNumber, eo_BadNumber, ev_BadNumber⟩ ef_value_BadNumber einit_BadNumber eti_BadNumber el_BadNumber ec_BadNumber ⟨ecode_BadNumber, ecell_BadNumber, ecls_BadNumber, eops_BadNumber, mg_none_of KX G a_super, rfl, etop_BadNumber, by decide +kernel⟩ (fun us hu => by
      match us, hu with
      | [_, _], _ => rfl) (nscope_by (by decide +kernel)) (mg_of KX G a_BadNumber) rfl rfl rfl rfl (fun _ _ => rfl) (fun _ _ => rfl) (fun _ _ => rfl) (fun _ _ => rfl) (fun _ _ => rfl) (by decide) (by decide) (by decide) (by decide)
    gk := rfl
    gp := rfl
    gw := rfl
    gf := rfl
    gl := rfl
    gce := rfl
    ghot := rfl }
  have ef : f_law = fa := by
    have e := (mg_of KX G a_law).symm.trans hfa
    injection e with e
    injection e
  subst ef
  refine ⟨PySem.W.fnOf "law" "law" (defArgs s_law) (defBody s_law) (defScope s_law) .none kV_law doc_law pm_law an_law (.ref c0) ct_law, [(c0, P0)], spR ⟨K, P, w, clsT [C_MarkError, C_BadPart, C_BadNumber, C_Unknown, C_BadPlace, C_BadChange, C_BadText, C_BadLine, C_BadClaim, C_NothingDone], fldT, lamw, none, [(P0, fun _ _ => lamQ)], none⟩ 1 r_law, fun p hp => ?_, fun p hp => ?_, fun p hp => ?_, fun s u => ?_, fun H a ns hn hb hH hs => ?_, fun base hK hG hc => ?_⟩
  · rw [List.mem_singleton.mp hp]; exact hT
  · rw [List.mem_singleton.mp hp]; exact nT
  · rw [List.mem_singleton.mp hp]; exact codeHd_of_K KX cT
  rotate_left
  · exact sp_start (Γ := ⟨K, P, w, clsT [C_MarkError, C_BadPart, C_BadNumber, C_Unknown, C_BadPlace, C_BadChange, C_BadText, C_BadLine, C_BadClaim, C_NothingDone], fldT, lamw, none, [(P0, fun _ _ => lamQ)], none⟩) hs (tabs_start (hH _ (List.mem_singleton.mpr rfl))) (ht ns hn hb)
  · rw [hl]
    exact (hy base).law (hc _ (List.mem_singleton.mpr rfl)) rfl (fun_mk l_law i_law j_law) ⟨_, _, _, _, _, _, _, _, l_law⟩ ((⟨rfl, by decide, by decide⟩ : Room 20 callerA).mono (by decide : 8 ≤ 20)) rfl
  · exact BindsTo.of_eq rfl
end
end K33

set_option maxRecDepth 100000
/-! MtPure: what the denotations give, by simp. -/
namespace MT
open PySem PySem.Spec PyProof.Rows L2
theorem nr {α : Sort _} {a b : α} (h : a = b) : a = b := h
section
variable {σ : Slots} {M M1 : Mem} {m ma mb mc : DM} {g g' : Mem → D → D → Option D} {r : DA} {d : D}
@[simp] theorem bind_ok {α β : Type} (a : α) (f : α → Mem → Res β) : (Res.ok a M).bind f = f a M := nr rfl
@[simp] theorem bind_exc {α β : Type} (c fs) (f : α → Mem → Res β) : (Res.exc c fs M : Res α).bind f = .exc c fs M := nr rfl
@[simp] theorem out_ok {α : Type} (a : α) (f : α → Mem → Out) : (Res.ok a M).out σ f = f a M := nr rfl
@[simp] theorem out_exc {α : Type} (c fs) (f : α → Mem → Out) : (Res.exc c fs M : Res α).out σ f = .exc c fs σ M := nr rfl
@[simp] theorem ofOpt_some : ofOpt (some d) M = .ok d M := nr rfl
@[simp] theorem mVar_ap {i : Nat} : mVar i σ M = (match σ[i]? with
  | some (some d) => .ok d M
  | _ => .stuck) := nr rfl
@[simp] theorem mC_ap : mC d σ M = .ok d M := nr rfl
@[simp] theorem mOp_ap : mOp g ma mb σ M = (ma σ M).bind fun a M1 => (mb σ M1).bind fun b M2 => ofOpt (g M2 a b) M2 := nr rfl
@[simp] theorem tB1_ok {b : Bool} : tB1 (.ok (.bl b) M) = .ok b M := nr rfl
@[simp] theorem tB1_stuck : tB1 .stuck = .stuck := nr rfl
@[simp] theorem tB1_ite {c : Prop} [Decidable c] {x y : Res D} : tB1 (if c then x else y) = if c then tB1 x else tB1 y := by split <;> rfl
@[simp] theorem tB1_exc {c fs} : tB1 (.exc c fs M) = .exc c fs M := nr rfl
def chB (o : Option D) (x : Res D) (M : Mem) : Res D := match o with
  | some (.bl true) => x
  | some (.bl false) => .ok (.bl false) M
  | _ => .stuck
@[simp] theorem chB_bl {b : Bool} {x : Res D} : chB (some (.bl b)) x M = if b then x else .ok (.bl false) M := by cases b <;> rfl
@[simp] theorem mChain_ap : mChain g g' ma mb mc σ M = (ma σ M).bind fun a M1 => (mb σ M1).bind fun b M2 => chB (g M2 a b) ((mc σ M2).bind fun c M3 => ofOpt (g' M3 b c) M3) M2 := nr rfl
@[simp] theorem ite_bind {α β : Type} {c : Prop} [Decidable c] {x y : Res α} {f : α → Mem → Res β} : (if c then x else y).bind f = if c then x.bind f else y.bind f := by split <;> rfl
@[simp] theorem ite_out {α : Type} {c : Prop} [Decidable c] {x y : Res α} {f : α → Mem → Out} : (if c then x else y).out σ f = if c then x.out σ f else y.out σ f := by split <;> rfl
@[simp] theorem stuck_bind {α β : Type} {f : α → Mem → Res β} : (Res.stuck : Res α).bind f = .stuck := nr rfl
@[simp] theorem stuck_out {α : Type} {f : α → Mem → Out} : (Res.stuck : Res α).out σ f = .stuck := nr rfl
@[simp] theorem ofOpt_none : ofOpt none M = .stuck := nr rfl
@[simp] theorem ofOpt_ite {c : Prop} [Decidable c] {x y : Option D} : ofOpt (if c then x else y) M = if c then ofOpt x M else ofOpt y M := by split <;> rfl
def andThen (r : Out) (f : Slots → Mem → Out) : Out := match r with
  | .nx σ' M' => f σ' M'
  | r => r
@[simp] theorem at_nx {f : Slots → Mem → Out} : andThen (.nx σ M) f = f σ M := nr rfl
@[simp] theorem at_rt {f : Slots → Mem → Out} : andThen (.rt d M) f = .rt d M := nr rfl
@[simp] theorem at_exc {f : Slots → Mem → Out} {c fs} : andThen (.exc c fs σ M) f = .exc c fs σ M := nr rfl
@[simp] theorem at_stuck {f : Slots → Mem → Out} : andThen .stuck f = .stuck := nr rfl
@[simp] theorem at_ite {c : Prop} [Decidable c] {x y : Out} {f : Slots → Mem → Out} : andThen (if c then x else y) f = if c then andThen x f else andThen y f := by split <;> rfl
def fin (n : Nat) : Out → Res D
  | .nx _ M' => .ok .non (trim n [] M')
  | .rt d M' => .ok d (trim n [d] M')
  | .exc c fs _ M' => .exc c fs (trim n fs M')
  | _ => .stuck
@[simp] theorem fin_nx {n} : fin n (.nx σ M) = .ok .non (trim n [] M) := nr rfl
@[simp] theorem fin_rt {n} : fin n (.rt d M) = .ok d (trim n [d] M) := nr rfl
@[simp] theorem fin_exc {n c fs} : fin n (.exc c fs σ M) = .exc c fs (trim n fs M) := nr rfl
@[simp] theorem fin_ite {n} {c : Prop} [Decidable c] {x y : Out} : fin n (if c then x else y) = if c then fin n x else fin n y := by split <;> rfl
@[simp] theorem mAnd_ap {a b : DT} : mAnd a b σ M = (a σ M).bind fun c M1 => if c then b σ M1 else .ok false M1 := nr rfl
@[simp] theorem mOr_ap {a b : DT} : mOr a b σ M = (a σ M).bind fun c M1 => if c then .ok true M1 else b σ M1 := nr rfl
@[simp] theorem mNot_ap {a : DT} : mNot a σ M = (a σ M).bind fun c M1 => .ok (!c) M1 := nr rfl
@[simp] theorem tV_ap : tV m σ M = tB1 (m σ M) := nr rfl
@[simp] theorem tTrue_ap : tTrue σ M = .ok true M := nr rfl
@[simp] theorem vAnd_ap : vAnd ma mb σ M = (tB1 (ma σ M)).bind fun c M1 => if c then mb σ M1 else .ok (.bl false) M1 := nr rfl
@[simp] theorem vOr_ap : vOr ma mb σ M = (tB1 (ma σ M)).bind fun c M1 => if c then .ok (.bl true) M1 else mb σ M1 := nr rfl
@[simp] theorem vNot_ap : vNot ma σ M = (tB1 (ma σ M)).bind fun c M1 => .ok (.bl (!c)) M1 := nr rfl
@[simp] theorem mIf_ap {c : DT} : mIf c ma mb σ M = (c σ M).bind fun c M1 => if c then ma σ M1 else mb σ M1 := nr rfl
@[simp] theorem aNil_ap : aNil σ M = .ok [] M := nr rfl
@[simp] theorem aCons_ap : aCons m r σ M = (m σ M).bind fun d M1 => (r σ M1).bind fun ds M2 => .ok (d :: ds) M2 := nr rfl
@[simp] theorem mTup_ap : mTup r σ M = (r σ M).bind fun ds M1 => if ds.length ≤ 1000 then .ok (.tup ds) M1 else .stuck := nr rfl
@[simp] theorem mLst_ap : mLst r σ M = (r σ M).bind fun ds M1 => if ds.length ≤ 1000 then .ok (.lst ds) M1 else .stuck := nr rfl
@[simp] theorem mNew_ap : mNew r σ M = (r σ M).bind fun ds M1 => if ds.length ≤ 1000 then .ok (.obj M1.length) (M1 ++ [.lst ds]) else .stuck := nr rfl
@[simp] theorem sNil_ap : sNil σ M = .nx σ M := nr rfl
@[simp] theorem sRet_ap : sRet m σ M = (m σ M).out σ fun d M' => .rt d M' := nr rfl
@[simp] theorem sExpr_ap : sExpr m σ M = (m σ M).out σ fun _ M' => .nx σ M' := nr rfl
@[simp] theorem sSet_ap {i : Nat} : sSet i m σ M = (m σ M).out σ fun d M' => .nx (σ.set i (some d)) M' := nr rfl
@[simp] theorem sIf_ap {c : DT} {a b : DSt} : sIf c a b σ M = (c σ M).out σ fun k M' => if k then a σ M' else b σ M' := nr rfl
@[simp] theorem sSeq_ap {a b : DSt} : sSeq a b σ M = andThen (a σ M) fun σ' M' => b σ' M' := nr rfl
@[simp] theorem sRaise_ap {c n : Nat} : sRaise c n r σ M = (r σ M).out σ fun ds M' => if ds.length = n ∧ n ≤ 1000 then .exc c ds.reverse σ M' else .stuck := nr rfl
@[simp] theorem sPar_ap {i j : Nat} : sPar i j r σ M = (r σ M).out σ fun ds M1 => match ds with
  | [d, e] => .nx ((σ.set i (some d)).set j (some e)) M1
  | _ => .stuck := nr rfl
@[simp] theorem sAsg_ap {gt : DGt} : sAsg m gt σ M = (m σ M).out σ fun d M1 => match gt d σ M1 with
  | some p => .nx p.1 p.2
  | none => .stuck := nr rfl
@[simp] theorem gtName_ap {i : Nat} : gtName i d σ M = some (σ.set i (some d), M) := nr rfl
@[simp] theorem gtSub_ap {mo mi : DM} : gtSub mo mi d σ M = (match mo σ M with
  | .ok o M1 => match mi σ M1 with
    | .ok i M2 => (setD M2 o i d).map fun M3 => (σ, M3)
    | _ => none
  | _ => none) := nr rfl
@[simp] theorem mB_ap {gg : Mem → List D → Option D} : mB gg r σ M = (r σ M).bind fun ds M1 => ofOpt (gg M1 ds) M1 := nr rfl
@[simp] theorem mIsi_ap {T : Ty} : mIsi T m σ M = (m σ M).bind fun d M1 => ofOpt ((tyOf M1 d).map fun n => .bl (isTy T n)) M1 := nr rfl
@[simp] theorem mIs2_ap {T U : Ty} : mIs2 T U m σ M = (m σ M).bind fun d M1 => ofOpt ((tyOf M1 d).map fun n => .bl (isTy T n || isTy U n)) M1 := nr rfl
@[simp] theorem mNeg_ap : mNeg m σ M = (m σ M).bind fun d M1 => match d with
  | .int i => .ok (.int (-i)) M1
  | _ => .stuck := nr rfl
@[simp] theorem mCall_ap {np : Nat} {rr : List D → Mem → Res D} : mCall np rr r σ M = (r σ M).bind fun ds M1 => if ds.length = np then rr ds M1 else .stuck := nr rfl
@[simp] theorem mMt_ap {T : String} {k : Mem → D → List D → Option (D × Mem)} : mMt T k m r σ M = (m σ M).bind fun d M1 => if tyM T M1 d then (r σ M1).bind fun ds M2 => match k M2 d ds with
    | some p => .ok p.1 p.2
    | none => .stuck
  else .stuck := nr rfl
@[simp] theorem mSl_ap {lo hi : DO} : mSl m lo hi σ M = (m σ M).bind fun d M1 => (lo σ M1).bind fun a M2 => (hi σ M2).bind fun b M3 => ofOpt (gSl M3 d a b) M3 := nr rfl
@[simp] theorem oNone_ap : oNone σ M = .ok none M := nr rfl
@[simp] theorem oSome_ap : oSome m σ M = (m σ M).bind fun d M1 => match d with
  | .int i => .ok (some i) M1
  | _ => .stuck := nr rfl
@[simp] theorem mDisp_ap {pr : DPr} : mDisp pr σ M = (match pr σ M with
  | .ok p M1 => match keysD p.1 with
    | some ks => if ks.Nodup ∧ ks.length ≤ 15 then .ok (.dic ks p.2) M1 else .stuck
    | none => .stuck
  | _ => .stuck) := nr rfl
@[simp] theorem prNil_ap : prNil σ M = .ok ([], []) M := nr rfl
@[simp] theorem prCons_ap {k v : DM} {pr : DPr} : prCons k v pr σ M = (match k σ M with
  | .ok a M1 => match v σ M1 with
    | .ok b M2 => match pr σ M2 with
      | .ok p M3 => .ok (a :: p.1, b :: p.2) M3
      | _ => .stuck
    | _ => .stuck
  | _ => .stuck) := nr rfl
@[simp] theorem mGet2_ap {md mk mv : DM} : mGet2 md mk mv σ M = (md σ M).bind fun d M1 => match asDic M1 d with
  | some _ => (mk σ M1).bind fun k M2 => (mv σ M2).bind fun v M3 => match asDic M3 d, k with
    | some p, .str l => .ok ((lookD (.inr (txt l)) p.1 p.2).getD v) M3
    | _, _ => .stuck
  | none => .stuck := nr rfl
@[simp] theorem iAny_ap : iAny m σ M = (m σ M).bind fun d M1 => match itsOf M1 d with
  | some i => .ok i M1
  | none => .stuck := nr rfl
theorem intsFrom_map : ∀ (n : Nat) (i : Int), MT.intsFrom i n = (List.range n).map fun j => .int (i + j)
  | 0, _ => rfl
  | n + 1, i => by
    rw [MT.intsFrom, intsFrom_map n (i + 1), List.range_succ_eq_map, List.map_cons, List.map_map]
    simp
    intro a _
    omega
theorem ints0 (n : Nat) : MT.intsFrom 0 n = (List.range n).map fun j : Nat => .int j := by rw [intsFrom_map]; simp
def rng1 (ds : List D) (M : Mem) : Res Its := match ds with
  | [.int j] => if -(2 ^ 62) ≤ j ∧ j < 2 ^ 62 then .ok ⟨MT.intsFrom 0 j.toNat, fun _ => True⟩ M else .stuck
  | _ => .stuck
theorem rng1_int {i : Int} (h : 0 ≤ i) (h2 : i ≤ 1000000) : rng1 [.int i] M = .ok ⟨(List.range i.toNat).map fun j : Nat => D.int j, fun _ => True⟩ M := by
  unfold rng1
  have : -(2 ^ 62) ≤ i ∧ i < 2 ^ 62 := ⟨Int.le_trans (by decide) h, Int.lt_of_le_of_lt h2 (by decide)⟩
  dsimp only
  rw [if_pos this, ints0]
@[simp] theorem iRange1_ap : iRange1 r σ M = (r σ M).bind fun ds M1 => rng1 ds M1 := nr rfl
def few {α : Type} (l : List D) (x : Res α) : Res α := if l.length ≤ 1000000 then x else .stuck
theorem few_ok {α : Type} {l : List D} {x : Res α} (h : l.length ≤ 1000000) : few l x = x := if_pos h
@[simp] theorem mCompX_ap {mi : DIt} {gt : DGt} {c : DT} {vs : List Nat} : mCompX mi gt c m vs σ M = (mi σ M).bind fun its M1 => few its.items ((runC gt c m its.ok its.items (wipeD σ vs) M1).bind fun rs M2 => .ok (.lst rs) M2) := nr rfl
@[simp] theorem sFor_ap {mi : DIt} {gt : DGt} {b : DSt} : sFor mi gt b σ M = (mi σ M).out σ fun its M1 => runFor gt b its.ok its.items σ M1 := nr rfl
@[simp] theorem mXfF_ap {fld : Nat → List Str} {f : Str} {okc : Nat → Bool} : mXfF fld f okc m σ M = (m σ M).bind fun d M1 => match d with
  | .exn c fs => if okc c then ofOpt (((fld c).findIdx? (· == f)).bind fun i => fs[i]?) M1 else .stuck
  | _ => .stuck := nr rfl
@[simp] theorem mIsE_ap {sub : Nat → Option Bool} : mIsE sub m σ M = (m σ M).bind fun d M1 => match d with
  | .exn c _ => ofOpt ((sub c).map D.bl) M1
  | _ => .stuck := nr rfl
@[simp] theorem mLam_ap {k : Nat} : mLam k σ M = .ok (.lam k) M := nr rfl
theorem runDef_ap {np nn : Nat} {b : DSt} {ds : List D} : runDef np nn b ds M = fin M.length (b (ds.map some ++ List.replicate (nn - np) none) M) := by
  unfold runDef fin
  cases b (ds.map some ++ List.replicate (nn - np) none) M <;> rfl
@[simp] theorem trim_self {ds : List D} : trim M.length ds M = M := by unfold trim; rw [if_pos (Nat.le_refl _)]
theorem trim_same {n : Nat} {ds : List D} (h : M.length = n) : trim n ds M = M := by unfold trim; rw [if_pos (by omega)]
/-! ### values -/
@[simp] theorem tyOf_non : tyOf M .non = some "NoneType" := nr rfl
@[simp] theorem tyOf_bl {b} : tyOf M (.bl b) = some "bool" := nr rfl
@[simp] theorem tyOf_int {i} : tyOf M (.int i) = some "int" := nr rfl
@[simp] theorem tyOf_str {l} : tyOf M (.str l) = some "str" := nr rfl
@[simp] theorem tyOf_flt {l} : tyOf M (.flt l) = some "float" := nr rfl
@[simp] theorem tyOf_tup {l} : tyOf M (.tup l) = some "tuple" := nr rfl
@[simp] theorem tyOf_lst {l} : tyOf M (.lst l) = some "list" := nr rfl
@[simp] theorem asLst_lst {l} : asLst M (.lst l) = some l := nr rfl
@[simp] theorem asSeq_lst {l} : asSeq M (.lst l) = some l := nr rfl
@[simp] theorem asSeq_tup {l} : asSeq M (.tup l) = some l := nr rfl
@[simp] theorem itsOf_str {l} : itsOf M (.str l) = some ⟨l.map fun c => .str [c], fun _ => True⟩ := nr rfl
@[simp] theorem itsOf_tup {l} : itsOf M (.tup l) = some ⟨l, fun _ => True⟩ := nr rfl
@[simp] theorem itsOf_lst {l} : itsOf M (.lst l) = some ⟨l, fun M2 => asLst M2 (.lst l) = some l⟩ := nr rfl
@[simp] theorem tyM_str {T : String} {l} : tyM T M (.str l) = decide (T = "str") := nr rfl
@[simp] theorem tyM_lst {T : String} {l} : tyM T M (.lst l) = decide (T = "list") := by simp [tyM]
theorem shaped_int {i : Int} : SeqAt.shaped (.int i) = true := by simp [SeqAt.shaped, PyData.canLay0, PyData.depth]
theorem shaped_bool {b : Bool} : SeqAt.shaped (.bool b) = true := by simp [SeqAt.shaped, PyData.canLay0, PyData.depth]
theorem shaped_none : SeqAt.shaped .none = true := by simp [SeqAt.shaped, PyData.canLay0, PyData.depth]
@[simp] theorem gEq_str {neg : Bool} {a b : List Nat} : gEqN neg M (.str a) (.str b) = some (.bl (if neg then !(a == b) else (a == b))) := nr rfl
@[simp] theorem gEq_int {neg : Bool} {a b : Int} : gEqN neg M (.int a) (.int b) = some (.bl (if neg then !(a == b) else (a == b))) := by
  simp only [gEqN, gEqP, toPM, toP, shaped_int, and_self, if_true, PyData.eqv]
@[simp] theorem gEq_bl {neg : Bool} {a b : Bool} : gEqN neg M (.bl a) (.bl b) = some (.bl (if neg then !(a == b) else (a == b))) := by
  simp only [gEqN, gEqP, toPM, toP, shaped_bool, and_self, if_true, PyData.eqv]
@[simp] theorem gCmp_int {ki ks} {i j : Int} : gCmp ki ks M (.int i) (.int j) = some (.bl (ki i j)) := nr rfl
@[simp] theorem gCmp_str {ki ks} {i j : List Nat} : gCmp ki ks M (.str i) (.str j) = some (.bl (ks i j)) := nr rfl
@[simp] theorem gLen_lst {l : List D} : gLen M [.lst l] = some (.int l.length) := nr rfl
@[simp] theorem gLen_tup {l : List D} : gLen M [.tup l] = some (.int l.length) := nr rfl
theorem atI_nat {α : Type} {l : List α} (n : Nat) : atI l (n : Int) = l[n]? := by
  unfold atI ixN
  rw [if_pos (Int.natCast_nonneg n)]
  by_cases h : (n : Int) < l.length
  · rw [if_pos h]; rfl
  · rw [if_neg h, Option.bind_none, List.getElem?_eq_none (by omega)]
@[simp] theorem atI_0 {α : Type} {a : α} {l : List α} : atI (a :: l) 0 = some a := atI_nat (l := a :: l) 0
@[simp] theorem atI_1 {α : Type} {a b : α} {l : List α} : atI (a :: b :: l) 1 = some b := atI_nat (l := a :: b :: l) 1
@[simp] theorem atI_2 {α : Type} {a b c : α} {l : List α} : atI (a :: b :: c :: l) 2 = some c := atI_nat (l := a :: b :: c :: l) 2
@[simp] theorem atI_3 {α : Type} {a b c d : α} {l : List α} : atI (a :: b :: c :: d :: l) 3 = some d := atI_nat (l := a :: b :: c :: d :: l) 3
@[simp] theorem gLen_scr {l : List Int} : gLen M [.scr l] = some (.int l.length) := nr rfl
@[simp] theorem gIx_scr {l : List Int} {i : Int} : gIx M (.scr l) (.int i) = (atI l i).map .int := nr rfl
@[simp] theorem gIx_tup {l : List D} {i : Int} : gIx M (.tup l) (.int i) = atI l i := nr rfl
@[simp] theorem gIx_lst {l : List D} {i : Int} : gIx M (.lst l) (.int i) = atI l i := nr rfl
@[simp] theorem gIx_row {l : List D} {Ms : Mem} {i : Int} : gIx (.lst l :: Ms) (.obj 0) (.int i) = atI l i := nr rfl
theorem gIx_str {l : List Nat} {i : Int} (h : l.length ≤ sizeLine) : gIx M (.str l) (.int i) = (atI l i).map fun c => .str [c] := if_pos h
@[simp] theorem gAdd_int {i j : Int} : gAdd M (.int i) (.int j) = some (.int (i + j)) := nr rfl
@[simp] theorem gSub_int {i j : Int} : MT.gSub M (.int i) (.int j) = some (.int (i - j)) := nr rfl
theorem gMul_int {i j : Int} (h : -(2 ^ 64) < j ∧ j < 2 ^ 64) : gMul M (.int i) (.int j) = some (.int (i * j)) := if_pos (.inr h)
theorem gMod_int {i j : Int} (h : j ≠ 0) : gMod M (.int i) (.int j) = some (.int (i.fmod j)) := if_pos h
theorem gDiv_int {i j : Int} (h : j ≠ 0 ∧ j.natAbs < 1073741824) : gDiv M (.int i) (.int j) = some (.int (i.fdiv j)) := if_pos h
@[simp] theorem gInt_int {i : Int} : gInt M [.int i] = some (.int i) := nr rfl
@[simp] theorem setD_row {l : List D} {Ms : Mem} {i : Int} {v : D} : setD (.lst l :: Ms) (.obj 0) (.int i) v = (ixN l.length i).map fun j => .lst (l.set j v) :: Ms := nr rfl
theorem gLen_str {l : List Nat} (h : l.length ≤ sizeLine) : gLen M [.str l] = some (.int l.length) := if_pos h
theorem asBl_map {α : Type} (l : List α) (p : α → Bool) : asBl (l.map fun x => D.bl (p x)) = some (l.map p) := by
  induction l with
  | nil => rfl
  | cons x l ih => simp only [List.map_cons, asBl, ih]; rfl
theorem gAll_map {α : Type} (l : List α) (p : α → Bool) : gAll M [.lst (l.map fun x => D.bl (p x))] = some (.bl (l.all p)) := by
  simp only [gAll, asLst_lst, Option.bind_some, asBl_map, Option.map_some, List.all_map]
  rfl
theorem asStrs_map {α : Type} (l : List α) (p : α → List Nat) : asStrs (l.map fun x => D.str (p x)) = some (l.map p) := by
  induction l with
  | nil => rfl
  | cons x l ih => simp only [List.map_cons, asStrs, ih]; rfl
theorem kJoin_map {α : Type} (l : List α) (p : α → List Nat) {s : List Nat} (h : ((l.map p).map List.length).sum + l.length * s.length ≤ 16777216) : kJoin M (.str s) [.lst (l.map fun x => D.str (p x))] = some (.str (TL.joinL s (l.map p)), M) := by
  simp only [kJoin, asSeq_lst, Option.bind_some, asStrs_map, List.length_map]
  rw [if_pos h]
theorem joinL_nil : ∀ ls : List (List Nat), TL.joinL [] ls = ls.flatten
  | [] => rfl
  | [p] => by simp [TL.joinL]
  | p :: q :: r => by
    have := joinL_nil (q :: r)
    simp only [TL.joinL, List.nil_append, this, List.flatten_cons]
end
/-! ### comprehensions -/
section
variable {g : DGt} {c : DT} {m : DM} {ok : Mem → Prop} {M : Mem}
theorem runC_pure {f : D → D} {p : D → Bool} {σ : Slots} : ∀ {items : List D}, ok M → (∀ d ∈ items, ∃ σ', g d σ M = some (σ', M) ∧ c σ' M = .ok (p d) M ∧ (p d = true → m σ' M = .ok (f d) M)) → runC g c m ok items σ M = .ok ((items.filter p).map f) M
  | [], h, _ => by simp only [runC, if_pos h, List.filter_nil, List.map_nil]
  | d :: ds, h, hd => by
    obtain ⟨σ', h1, h2, h3⟩ := hd d List.mem_cons_self
    have ih := runC_pure (f := f) (p := p) (σ := σ) h fun e he => hd e (List.mem_cons_of_mem _ he)
    simp only [runC, if_pos h, h1, h2]
    cases hp : p d with
    | true => simp only [h3 hp, bind_ok, ih, List.filter_cons, hp, if_true, List.map_cons]
    | false => simp only [ih, List.filter_cons, hp]; rfl
theorem runC_map {f : D → D} {σ : Slots} {items : List D} (hok : ok M) (h : ∀ d ∈ items, ∃ σ', g d σ M = some (σ', M) ∧ c σ' M = .ok true M ∧ m σ' M = .ok (f d) M) : runC g c m ok items σ M = .ok (items.map f) M := by
  have := runC_pure (g := g) (c := c) (m := m) (ok := ok) (f := f) (p := fun _ => true) (σ := σ) (items := items) hok fun d hd => by
    obtain ⟨σ', h1, h2, h3⟩ := h d hd
    exact ⟨σ', h1, h2, fun _ => h3⟩
  rw [this, List.filter_eq_self.mpr fun _ _ => rfl]
theorem runC_maps {α : Type} {k f : α → D} {σ : Slots} {l : List α} (hok : ok M) (h : ∀ x ∈ l, ∃ σ', g (k x) σ M = some (σ', M) ∧ c σ' M = .ok true M ∧ m σ' M = .ok (f x) M) : runC g c m ok (l.map k) σ M = .ok (l.map f) M := by
  induction l with
  | nil => simp only [List.map_nil, runC, if_pos hok]
  | cons x l ih =>
    obtain ⟨σ', h1, h2, h3⟩ := h x List.mem_cons_self
    simp only [List.map_cons, runC, if_pos hok, h1, h2, h3, bind_ok, ih fun y hy => h y (List.mem_cons_of_mem _ hy)]
theorem runC_filt {α : Type} {k f : α → D} {p : α → Bool} {σ : Slots} {l : List α} (hok : ok M) (h : ∀ x ∈ l, ∃ σ', g (k x) σ M = some (σ', M) ∧ c σ' M = .ok (p x) M ∧ (p x = true → m σ' M = .ok (f x) M)) : runC g c m ok (l.map k) σ M = .ok ((l.filter p).map f) M := by
  induction l with
  | nil => simp only [List.map_nil, runC, if_pos hok, List.filter_nil]
  | cons x l ih =>
    obtain ⟨σ', h1, h2, h3⟩ := h x List.mem_cons_self
    have ih := ih fun y hy => h y (List.mem_cons_of_mem _ hy)
    simp only [List.map_cons, runC, if_pos hok, h1, h2]
    cases hp : p x with
    | true => simp only [h3 hp, bind_ok, ih, List.filter_cons, hp, if_true, List.map_cons]
    | false => simp only [ih, List.filter_cons, hp]; rfl
/-- the first that fails leaves it -/
theorem runC_exc {f : D → Option D} {k : Nat} {fs : List D} {σ : Slots} : ∀ {items : List D}, ok M → (∀ d ∈ items, ∃ σ', g d σ M = some (σ', M) ∧ c σ' M = .ok true M ∧ m σ' M = match f d with
    | some r => .ok r M
    | none => .exc k fs M) → runC g c m ok items σ M = match items.mapM f with
    | some rs => .ok rs M
    | none => .exc k fs M
  | [], h, _ => by simp only [runC, if_pos h, List.mapM_nil]; rfl
  | d :: ds, h, hd => by
    obtain ⟨σ', h1, h2, h3⟩ := hd d List.mem_cons_self
    have ih := runC_exc (f := f) (k := k) (fs := fs) (σ := σ) h fun e he => hd e (List.mem_cons_of_mem _ he)
    simp only [runC, if_pos h, h1, h2, h3, List.mapM_cons]
    cases hf : f d with
    | none => rfl
    | some r =>
      simp only [bind_ok, ih]
      cases hm : ds.mapM f with
      | none => rfl
      | some rs => rfl
/-- what changes keeps its shape -/
theorem runC_inv {Inv : Mem → Prop} {R : D → D → Prop} {σ : Slots} : ∀ {items : List D} {M : Mem}, (∀ M, Inv M → ok M) → (∀ d ∈ items, ∀ M, Inv M → ∃ σ', g d σ M = some (σ', M) ∧ c σ' M = .ok true M ∧ ∃ r M', m σ' M = .ok r M' ∧ Inv M' ∧ R d r) → Inv M →
    ∃ rs M', runC g c m ok items σ M = .ok rs M' ∧ Inv M' ∧ rs.length = items.length ∧ ∀ (i : Nat) d r, items[i]? = some d → rs[i]? = some r → R d r
  | [], M, ho, _, hi => ⟨[], M, by simp only [runC, if_pos (ho M hi)], hi, rfl, fun i d r e => by simp at e⟩
  | d :: ds, M, ho, hd, hi => by
    obtain ⟨σ', h1, h2, r, M1, h3, h4, h5⟩ := hd d List.mem_cons_self M hi
    obtain ⟨rs, M2, e1, e2, e3, e4⟩ := runC_inv (σ := σ) ho (fun e he => hd e (List.mem_cons_of_mem _ he)) h4
    refine ⟨r :: rs, M2, by simp only [runC, if_pos (ho M hi), h1, h2, h3, bind_ok, e1], e2, by simp [e3], fun i d' r' a b => ?_⟩
    cases i with
    | zero => simp at a b; subst a; subst b; exact h5
    | succ i => exact e4 i d' r' (by simpa using a) (by simpa using b)
theorem runFor_inv {b : DSt} {Inv : Slots → Mem → Prop} : ∀ {items : List D} {σ : Slots} {M : Mem}, (∀ σ M, Inv σ M → ok M) → (∀ d ∈ items, ∀ σ M, Inv σ M → ∃ σ1 M1, g d σ M = some (σ1, M1) ∧ ∃ σ2 M2, b σ1 M1 = .nx σ2 M2 ∧ Inv σ2 M2) → Inv σ M →
    ∃ σ' M', runFor g b ok items σ M = .nx σ' M' ∧ Inv σ' M'
  | [], σ, M, ho, _, hi => ⟨σ, M, by simp only [runFor, if_pos (ho σ M hi)], hi⟩
  | d :: ds, σ, M, ho, hd, hi => by
    obtain ⟨σ1, M1, h1, σ2, M2, h2, h3⟩ := hd d List.mem_cons_self σ M hi
    obtain ⟨σ', M', e1, e2⟩ := runFor_inv ho (fun e he => hd e (List.mem_cons_of_mem _ he)) h3
    exact ⟨σ', M', by simp only [runFor, if_pos (ho σ M hi), h1, h2, e1], e2⟩
end
end MT

set_option maxRecDepth 100000
set_option maxHeartbeats 1000000
/-! P33: the law in plain data. -/
namespace K33
open PySem PySem.Spec PyProof.Rows L2 MT
/-! ### small things -/
def okc (c : Nat) : Bool := c == 10 || (decide (32 ≤ c) && decide (c ≤ 126))
def isTextL (l : List Nat) : Bool := decide (l.length ≤ 2000) && l.all okc
@[simp] theorem le_one {a b : Nat} : decide ([b] < [a]) = decide (b < a) := by
  rw [decide_eq_decide]
  simp [List.cons_lt_cons_iff]
@[simp] theorem not_lt_d {a b : Nat} : (!decide (a < b)) = decide (b ≤ a) := by
  rw [← decide_not, decide_eq_decide]
  omega
theorem sz {l : List Nat} (h : l.length ≤ 1000000) : l.length ≤ sizeLine := Nat.le_trans h (by decide)
theorem is_text_str {l : List Nat} {M : Mem} (h : l.length ≤ 1000000) : r_is_text [.str l] M = .ok (.bl (isTextL l)) M := by
  have hc : runC (gtName 1) tTrue (vOr (mOp gEq (mVar 1) (mC (.str [10]))) (mChain gLe gLe (mC (.str [32])) (mVar 1) (mC (.str [126])))) (fun _ => True) (l.map fun c => D.str [c]) [some (.str l), none] M = .ok (l.map fun c => .bl (okc c)) M := by
    refine runC_maps trivial fun c hd => ⟨_, rfl, rfl, ?_⟩
    simp [okc]
    by_cases h1 : c = 10 <;> by_cases h2 : 32 ≤ c <;> simp [h1, h2]
  unfold r_is_text b_is_text
  rw [runDef_ap]
  simp [isTy, gLen_str (sz h), wipeD, few_ok, h, hc, gAll_map, isTextL]
  by_cases h1 : 2000 < (l.length : Int)
  · have : ¬ l.length ≤ 2000 := by omega
    simp [h1, this]
  · have : l.length ≤ 2000 := by omega
    simp [h1, this]
/-- not a text -/
theorem is_text_not {d : D} {M : Mem} {n : String} (h : tyOf M d = some n) (hn : n ≠ "str") : r_is_text [d] M = .ok (.bl false) M := by
  unfold r_is_text b_is_text
  rw [runDef_ap]
  simp [h, isTy, hn]
def smallC (c : Nat) : Bool := decide (97 ≤ c ∧ c ≤ 122)
def isNameL (l : List Nat) : Bool := decide (1 ≤ l.length) && decide (l.length ≤ 8) && l.all smallC
theorem small_mem {c : Nat} : (c ∈ [97, 98, 99, 100, 101, 102, 103, 104, 105, 106, 107, 108, 109, 110, 111, 112, 113, 114, 115, 116, 117, 118, 119, 120, 121, 122]) ↔ (97 ≤ c ∧ c ≤ 122) := by
  simp only [List.mem_cons, List.not_mem_nil, or_false]
  omega
theorem gIn_str {neg : Bool} {M : Mem} {c : Nat} {l : List Nat} : gIn neg M (.str [c]) (.str l) = some (.bl (if neg then !decide (c ∈ l) else decide (c ∈ l))) := rfl
theorem is_name_str {l : List Nat} {M : Mem} (h : l.length ≤ 1000000) : r_is_name [.str l] M = .ok (.bl (isNameL l)) M := by
  have hc : runC (gtName 1) tTrue (mOp (gIn false) (mVar 1) (mC (.str [97, 98, 99, 100, 101, 102, 103, 104, 105, 106, 107, 108, 109, 110, 111, 112, 113, 114, 115, 116, 117, 118, 119, 120, 121, 122]))) (fun _ => True) (l.map fun c => D.str [c]) [some (.str l), none] M = .ok (l.map fun c => .bl (smallC c)) M := by
    refine runC_maps trivial fun c hd => ⟨_, rfl, rfl, ?_⟩
    simp only [mOp_ap, mVar_ap, mC_ap, bind_ok, List.set_cons_succ, List.set_cons_zero, List.getElem?_cons_succ, List.getElem?_cons_zero, gIn_str, ofOpt_some]
    simp only [small_mem]
    rfl
  unfold r_is_name b_is_name
  rw [runDef_ap]
  simp [isTy, gLen_str (sz h), wipeD, few_ok, h, hc, gAll_map, isNameL]
  by_cases h1 : (1 : Int) ≤ (l.length : Int) <;> by_cases h2 : (l.length : Int) ≤ 8
  · have a : 1 ≤ l.length := by omega
    have b : l.length ≤ 8 := by omega
    simp [h1, h2, a, b, h, few_ok, hc, gAll_map]
    try (intro; omega)
  · have b : ¬ l.length ≤ 8 := by omega
    simp [h1, h2, b]
  · have a : ¬ 1 ≤ l.length := by omega
    simp [h1, h2, a]
  · have a : ¬ 1 ≤ l.length := by omega
    simp [h1, h2, a]
/-- a list that is compared with [] -/
theorem toPL_strs : ∀ (ls : List (List Nat)), toPL (ls.map D.str) = some (ls.map fun l => .str (txt l))
  | [] => rfl
  | l :: ls => by simp only [List.map_cons, toPL, toP, toPL_strs ls]; rfl
theorem canLay_strs : ∀ (ls : List (List Nat)), (∀ l ∈ ls, ∀ c ∈ l, c < 1114112) → PyData.canLayAll0 (ls.map fun l => PyData.str (txt l)) = true
  | [], _ => rfl
  | l :: ls, h => by
    simp only [List.map_cons, PyData.canLayAll0, PyData.canLay0, Bool.and_eq_true]
    refine ⟨?_, canLay_strs ls fun l' hl => h l' (List.mem_cons_of_mem _ hl)⟩
    unfold PyData.strOk
    rw [List.all_toArray, List.all_eq_true]
    exact fun c hc => decide_eq_true (h l List.mem_cons_self c hc)
theorem depth_strs : ∀ (ls : List (List Nat)), PyData.depthAll (ls.map fun l => PyData.str (txt l)) = 0
  | [] => rfl
  | l :: ls => by simp only [List.map_cons, PyData.depthAll, PyData.depth, depth_strs ls]; rfl
theorem eq_nil_strs {neg : Bool} {M : Mem} {ls : List (List Nat)} (h : ∀ l ∈ ls, ∀ c ∈ l, c < 1114112) : gEqN neg M (.lst (ls.map D.str)) (.lst []) = some (.bl (if neg then !ls.isEmpty else ls.isEmpty)) := by
  simp only [gEqN, gEqP, toPM, toP, toPL_strs, toPL, Option.map_some]
  have s1 : SeqAt.shaped (.list (ls.map fun l => PyData.str (txt l))) = true := by
    unfold SeqAt.shaped
    simp only [PyData.canLay0, canLay_strs ls h, PyData.depth, depth_strs, Bool.true_and, decide_eq_true_eq]
    decide
  have s2 : SeqAt.shaped (.list []) = true := by decide
  rw [if_pos ⟨s1, s2⟩]
  cases ls with
  | nil => rfl
  | cons l ls => rfl
theorem filt_nil {l : List Nat} {p : Nat → Bool} : (l.filter fun c => !p c).isEmpty = l.all p := by
  induction l with
  | nil => rfl
  | cons c l ih => cases h : p c <;> simp [h, ih]
theorem law_is_name_str {l : List Nat} {M : Mem} (h : l.length ≤ 1000000) (hv : ∀ c ∈ l, c < 1114112) : r__law_is_name [.str l] M = .ok (.bl (isNameL l)) M := by
  have hc : runC (gtName 1) (tV (mOp (gIn true) (mVar 1) (mC (.str [97, 98, 99, 100, 101, 102, 103, 104, 105, 106, 107, 108, 109, 110, 111, 112, 113, 114, 115, 116, 117, 118, 119, 120, 121, 122])))) (mVar 1) (fun _ => True) (l.map fun c => D.str [c]) [some (.str l), none] M = .ok ((l.filter fun c => !smallC c).map fun c => D.str [c]) M := by
    refine runC_filt trivial fun c hd => ⟨_, rfl, ?_, fun _ => rfl⟩
    simp only [tV_ap, mOp_ap, mVar_ap, mC_ap, bind_ok, List.set_cons_succ, List.set_cons_zero, List.getElem?_cons_succ, List.getElem?_cons_zero, gIn_str, ofOpt_some]
    simp only [small_mem]
    rfl
  have he : gEqN false M (.lst ((l.filter fun c => !smallC c).map fun c => D.str [c])) (.lst []) = some (.bl (l.all smallC)) := by
    have := eq_nil_strs (neg := false) (M := M) (ls := (l.filter fun c => !smallC c).map fun c => [c]) (fun x hx c hc => by
      obtain ⟨c', h1, rfl⟩ := List.mem_map.mp hx
      rw [List.mem_singleton.mp hc]
      exact hv _ (List.mem_filter.mp h1).1)
    rw [List.map_map] at this
    rw [show (fun c => D.str [c]) = D.str ∘ fun c => [c] from rfl, this]
    simp only [List.isEmpty_map, filt_nil]
    rfl
  unfold r__law_is_name b__law_is_name
  rw [runDef_ap]
  simp [isTy, gLen_str (sz h), wipeD, few_ok, h, hc, he, isNameL]
  by_cases h1 : (1 : Int) ≤ (l.length : Int) <;> by_cases h2 : (l.length : Int) ≤ 8
  · have a : 1 ≤ l.length := by omega
    have b : l.length ≤ 8 := by omega
    simp [h1, h2, a, b, h, few_ok, hc, he]
  · have b : ¬ l.length ≤ 8 := by omega
    simp [h1, h2, b]
  · have a : ¬ 1 ≤ l.length := by omega
    simp [h1, h2, a]
  · have a : ¬ 1 ≤ l.length := by omega
    simp [h1, h2, a]
end K33

set_option maxRecDepth 100000
set_option maxHeartbeats 1000000
namespace K33
open PySem PySem.Spec PyProof.Rows L2 MT
/-! ### the row -/
def RowM (M : Mem) : Prop := ∃ ns i j k, M = [.lst [.scr ns, .int i, .int j, .int k]] ∧ 0 ≤ i
theorem emod_rng {x a : Int} (h : 0 < a) : 0 ≤ x.fmod a ∧ x.fmod a < a := ⟨Int.fmod_nonneg_of_pos x h, Int.fmod_lt_of_pos x h⟩
theorem atI_in {α : Type} {l : List α} {i : Int} (h : 0 ≤ i) (h2 : i < l.length) : ∃ x, atI l i = some x ∧ x ∈ l := by
  have h3 : i.toNat < l.length := by omega
  refine ⟨l[i.toNat], ?_, List.getElem_mem _⟩
  unfold atI ixN
  rw [if_pos h, if_pos h2, Option.bind_some, List.getElem?_eq_getElem h3]
theorem e1018 {M : Mem} : gPow M (.int 10) (.int 18) = some (.int 1000000000000000000) := by
  show (if (0 : Int) ≤ 18 ∧ (18 : Int) ≤ 1000000 ∧ (10 : Int).natAbs < 2 ^ 64 then some (D.int (10 ^ (18 : Int).toNat)) else none) = _
  rw [if_pos (by decide)]
  rfl
theorem taken_ok {M : Mem} (h : RowM M) {a : Int} (h1 : 1 ≤ a) (h2 : a < 1073741824) : ∃ t M', r__law_taken [.obj 0, .int a] M = .ok (.int t) M' ∧ 0 ≤ t ∧ t < a ∧ RowM M' := by
  obtain ⟨ns, i, j, k, rfl, hi⟩ := h
  have a0 : a ≠ 0 := by omega
  have an : a.natAbs < 1073741824 := by omega
  have rng : ∀ x : Int, 0 ≤ x.fmod a ∧ x.fmod a < a := fun x => emod_rng (by omega)
  by_cases hk : 0 < k
  · refine ⟨k.fmod a, [.lst [.scr ns, .int i, .int j, .int (k.fdiv a)]], ?_, (rng _).1, (rng _).2, ⟨_, _, _, _, rfl, hi⟩⟩
    unfold r__law_taken b__law_taken
    rw [runDef_ap]
    simp [ixN, gMod_int, gDiv_int, a0, an, hk, trim]
  · by_cases hl : (ns.length : Int) < i + 1
    · refine ⟨(((j * 48271 + 11).fmod 2147483647).fdiv 7).fmod a, [.lst [.scr ns, .int (i + 1), .int ((j * 48271 + 11).fmod 2147483647), .int k]], ?_, (rng _).1, (rng _).2, ⟨_, _, _, _, rfl, by omega⟩⟩
      unfold r__law_taken b__law_taken
      rw [runDef_ap]
      simp [ixN, gMod_int, gDiv_int, gMul_int, a0, an, hk, hl, trim]
    · obtain ⟨cell, hc, _⟩ := atI_in (l := ns) hi (by omega)
      by_cases hb : (1000000000000000000 : Int) ≤ cell
      · refine ⟨cell.fmod a, [.lst [.scr ns, .int (i + 1), .int ((j * 48271 + cell + 11).fmod 2147483647), .int (cell.fdiv a)]], ?_, (rng _).1, (rng _).2, ⟨_, _, _, _, rfl, by omega⟩⟩
        unfold r__law_taken b__law_taken
        rw [runDef_ap]
        simp [ixN, hc, e1018, hb, hk, hl, gMod_int, gDiv_int, gMul_int, a0, an, trim]
      · refine ⟨((cell.fmod 1000003) * 31 + ((j * 48271 + cell + 11).fmod 2147483647).fdiv 11).fmod a, [.lst [.scr ns, .int (i + 1), .int ((j * 48271 + cell + 11).fmod 2147483647), .int k]], ?_, (rng _).1, (rng _).2, ⟨_, _, _, _, rfl, by omega⟩⟩
        unfold r__law_taken b__law_taken
        rw [runDef_ap]
        simp [ixN, hc, e1018, hb, hk, hl, gMod_int, gDiv_int, gMul_int, a0, an, trim]
theorem pick_ok {M : Mem} (h : RowM M) {ds : List D} (h0 : ds ≠ []) (hl : ds.length < 1073741824) : ∃ d M', r__law_pick [.obj 0, .lst ds] M = .ok d M' ∧ d ∈ ds ∧ RowM M' := by
  have hp : 0 < ds.length := List.length_pos_iff.mpr h0
  obtain ⟨t, M', e, t0, t1, hr⟩ := taken_ok h (a := ds.length) (by omega) (by omega)
  obtain ⟨d, e2, hd⟩ := atI_in t0 t1
  refine ⟨d, M', ?_, hd, hr⟩
  have hM : M.length = 1 := by obtain ⟨_, _, _, _, rfl, _⟩ := h; rfl
  have hM' : M'.length = 1 := by obtain ⟨_, _, _, _, rfl, _⟩ := hr; rfl
  unfold r__law_pick b__law_pick
  rw [runDef_ap]
  simp [e, e2, trim, hM, hM']
/-- what is like itself -/
def ga : Nat → D → Prop
  | 0, _ => False
  | _ + 1, .str _ => True
  | _ + 1, .int _ => True
  | _ + 1, .bl _ => True
  | _ + 1, .non => True
  | n + 1, .tup ds => ds.length ≤ 1000000 ∧ ∀ x ∈ ds, ga n x
  | n + 1, .lst ds => ds.length ≤ 1000000 ∧ ∀ x ∈ ds, ga n x
  | _ + 1, _ => False
theorem eq_nil {M : Mem} : gEqN false M (.lst []) (.lst []) = some (.bl true) := by
  have s2 : SeqAt.shaped (.list []) = true := by decide
  simp only [gEqN, gEqP, toPM, toP, toPL, Option.map_some]
  rw [if_pos ⟨s2, s2⟩]
  rfl
theorem eq_non {M : Mem} : gEqN false M .non .non = some (.bl true) := by
  simp only [gEqN, gEqP, toPM, toP, shaped_none, and_self, if_true, PyData.eqv]
  rfl
theorem alike_ok {M : Mem} {n : Nat} : ∀ {d : D}, ga n d → r__law_alike n [d, d] M = .ok (.bl true) M := by
  induction n with
  | zero => intro d h; exact h.elim
  | succ n ih =>
    intro d h
    have seq : ∀ (ds : List D) (σ : Slots), ds.length ≤ 1000000 → (∀ x ∈ ds, ga n x) → ∀ d : D, σ = [some d, some d, none] → (∀ i : Int, gIx M d (.int i) = atI ds i) → runC (gtName 2) (mNot (tV (mCall 2 (r__law_alike n) (aCons (mOp gIx (mVar 0) (mVar 2)) (aCons (mOp gIx (mVar 1) (mVar 2)) aNil))))) (mVar 2) (fun _ => True) ((List.range ds.length).map fun j : Nat => D.int j) σ M = .ok [] M := by
      intro ds σ hl hd d hσ hix
      subst hσ
      have := runC_filt (g := gtName 2) (c := mNot (tV (mCall 2 (r__law_alike n) (aCons (mOp gIx (mVar 0) (mVar 2)) (aCons (mOp gIx (mVar 1) (mVar 2)) aNil))))) (m := mVar 2) (ok := fun _ => True) (M := M) (k := fun j : Nat => D.int j) (f := fun j : Nat => D.int j) (p := fun _ => false) (σ := [some d, some d, none]) (l := List.range ds.length) trivial fun j hj => by
        have hj' : j < ds.length := List.mem_range.mp hj
        refine ⟨_, rfl, ?_, fun z => by cases z⟩
        have e1 : atI ds (j : Int) = some ds[j] := by rw [MT.atI_nat, List.getElem?_eq_getElem hj']
        simp [hix, e1, ih (hd _ (List.getElem_mem hj'))]
      rw [this]
      simp
    unfold r__law_alike b__law_alike
    rw [runDef_ap]
    cases d with
    | tup ds =>
      have hs := seq ds _ h.1 h.2 (.tup ds) rfl fun i => rfl
      have hl := h.1
      have hr := rng1_int (M := M) (i := (ds.length : Int)) (by omega) (by omega)
      rw [Int.toNat_natCast] at hr
      simp [isTy, hr, wipeD, few_ok, hs, eq_nil, hl]
    | lst ds =>
      have hs := seq ds _ h.1 h.2 (.lst ds) rfl fun i => rfl
      have hl := h.1
      have hr := rng1_int (M := M) (i := (ds.length : Int)) (by omega) (by omega)
      rw [Int.toNat_natCast] at hr
      simp [isTy, hr, wipeD, few_ok, hs, eq_nil, hl]
    | str l => simp [isTy, gIs, isN]
    | int i => simp [isTy, gIs, isN]
    | bl b => simp [isTy, gIs, isN]
    | non => simp [isTy, gIs, isN, eq_non]
    | _ => exact h.elim
end K33

set_option maxRecDepth 100000
set_option maxHeartbeats 1000000
namespace K33
open PySem PySem.Spec PyProof.Rows L2 MT
/-! ### codes -/
theorem txt_iff {a b : List Nat} : (txt a = txt b) ↔ a = b := by
  constructor
  · intro h
    have := congrArg (fun s : Str => s.cps.toList) h
    simpa using this
  · intro h; rw [h]
def codeC (c : Nat) : List Nat := if c = 10 then [126, 110] else if c = 32 then [126, 115] else if c = 126 then [126, 116] else [c]
def codeL (l : List Nat) : List Nat := if l = [] then [126, 101] else (l.map codeC).flatten
theorem look_code {c : Nat} : (lookD (.inr (txt [c])) [.inr (txt [10]), .inr (txt [32]), .inr (txt [126])] [D.str [126, 110], D.str [126, 115], D.str [126, 116]]).getD (D.str [c]) = D.str (codeC c) := by
  simp only [lookD, Sum.inr.injEq, txt_iff, List.cons.injEq, and_true]
  unfold codeC
  by_cases h1 : c = 10
  · subst h1; rfl
  · by_cases h2 : c = 32
    · subst h2; rfl
    · by_cases h3 : c = 126
      · subst h3; rfl
      · rw [if_neg (Ne.symm h1), if_neg (Ne.symm h2), if_neg (Ne.symm h3), if_neg h1, if_neg h2, if_neg h3]; rfl
theorem codeC_len (c : Nat) : (codeC c).length ≤ 2 := by
  unfold codeC
  split
  · simp
  · split
    · simp
    · split <;> simp
theorem code_sum : ∀ l : List Nat, ((l.map codeC).map List.length).sum ≤ 2 * l.length
  | [] => by simp
  | c :: l => by
    have := code_sum l
    have := codeC_len c
    simp only [List.map_cons, List.sum_cons, List.length_cons]
    omega
theorem code_join {l : List Nat} {M : Mem} (h : l.length ≤ 1000000) : kJoin M (.str []) [.lst (l.map fun c => D.str (codeC c))] = some (.str (l.map codeC).flatten, M) := by
  have := code_sum l
  rw [kJoin_map l codeC (by simp; simp at this; omega), joinL_nil]
theorem code_of_str {l : List Nat} {M : Mem} (h : l.length ≤ 1000000) : r_code_of [.str l] M = if isTextL l then .ok (.str (codeL l)) M else .exc 2 [.str l] M := by
  have hc : runC (gtName 1) tTrue (mGet2 (mC (.dic [.inr (txt [10]), .inr (txt [32]), .inr (txt [126])] [(.str [126, 110]), (.str [126, 115]), (.str [126, 116])])) (mVar 1) (mVar 1)) (fun _ => True) (l.map fun c => D.str [c]) [some (.str l), none] M = .ok (l.map fun c => .str (codeC c)) M := by
    refine runC_maps trivial fun c hd => ⟨_, rfl, rfl, ?_⟩
    simp [asDic, look_code]
  unfold r_code_of b_code_of
  rw [runDef_ap]
  simp [is_text_str h, wipeD, few_ok, h, hc, code_join]
  cases ht : isTextL l
  · simp
  · by_cases hl : l = []
    · subst hl; simp [codeL]
    · simp [hl, codeL]
theorem code_of_not {d : D} {M : Mem} {n : String} (h : tyOf M d = some n) (hn : n ≠ "str") : r_code_of [d] M = .exc 2 [d] M := by
  unfold r_code_of b_code_of
  rw [runDef_ap]
  simp [is_text_not h hn]
theorem law_code_str {l : List Nat} {M : Mem} (h : l.length ≤ 1000000) : r__law_code [.str l] M = .ok (.str (codeL l)) M := by
  have hc : runC (gtName 1) tTrue (mGet2 (mDisp (prCons (mC (.str [10])) (mC (.str [126, 110])) (prCons (mC (.str [32])) (mC (.str [126, 115])) (prCons (mC (.str [126])) (mC (.str [126, 116])) (prNil))))) (mVar 1) (mVar 1)) (fun _ => True) (l.map fun c => D.str [c]) [some (.str l), none] M = .ok (l.map fun c => .str (codeC c)) M := by
    refine runC_maps trivial fun c hd => ⟨_, rfl, rfl, ?_⟩
    simp [asDic, look_code, keysD, keyD, txt_iff]
  unfold r__law_code b__law_code
  rw [runDef_ap]
  simp [wipeD, few_ok, h, hc, code_join]
  by_cases hl : l = []
  · subst hl; simp [codeL]
  · simp [hl, codeL]
end K33

set_option maxRecDepth 100000
set_option maxHeartbeats 1000000
namespace K33
open PySem PySem.Spec PyProof.Rows L2 MT
/-! ### codes read -/
abbrev chr1 (c : Nat) : D := .str [c]
def signC (c : Nat) : Option Nat := if c = 110 then some 10 else if c = 115 then some 32 else if c = 116 then some 126 else none
def rdStep (s : List Nat × Bool) (c : Nat) : Option (List Nat × Bool) :=
  if s.2 then (signC c).map fun x => (s.1 ++ [x], false)
  else if c < 33 ∨ 126 < c then none else if c = 126 then some (s.1, true) else some (s.1 ++ [c], false)
def uncodeL (w : List Nat) : Option (List Nat) :=
  if w = [126, 101] then some [] else if w = [] then none else match w.foldlM rdStep ([], false) with
    | some (f, false) => if f.length ≤ 2000 then some f else none
    | _ => none
theorem gIn_sign {M : Mem} {neg : Bool} {c : Nat} : gIn neg M (.str [c]) (.dic [.inr (txt [110]), .inr (txt [115]), .inr (txt [116])] [chr1 10, chr1 32, chr1 126]) = some (.bl (if neg then !(signC c).isSome else (signC c).isSome)) := by
  have e : (lookD (.inr (txt [c])) [.inr (txt [110]), .inr (txt [115]), .inr (txt [116])] [chr1 10, chr1 32, chr1 126]).isSome = (signC c).isSome := by
    simp only [lookD, Sum.inr.injEq, txt_iff, List.cons.injEq, and_true]
    unfold signC
    by_cases h1 : c = 110
    · subst h1; rfl
    · by_cases h2 : c = 115
      · subst h2; rfl
      · by_cases h3 : c = 116
        · subst h3; rfl
        · rw [if_neg (Ne.symm h1), if_neg (Ne.symm h2), if_neg (Ne.symm h3), if_neg h1, if_neg h2, if_neg h3]
          rfl
  unfold gIn
  simp only [asSeq, asLst, asDic, e]
theorem gIx_sign {M : Mem} {c x : Nat} (h : signC c = some x) : gIx M (.dic [.inr (txt [110]), .inr (txt [115]), .inr (txt [116])] [chr1 10, chr1 32, chr1 126]) (.str [c]) = some (chr1 x) := by
  show lookD (.inr (txt [c])) [.inr (txt [110]), .inr (txt [115]), .inr (txt [116])] [chr1 10, chr1 32, chr1 126] = _
  simp only [lookD, Sum.inr.injEq, txt_iff, List.cons.injEq, and_true]
  unfold signC at h
  by_cases h1 : c = 110
  · subst h1; simp at h; subst h; rfl
  · by_cases h2 : c = 115
    · subst h2; simp at h; subst h; rfl
    · by_cases h3 : c = 116
      · subst h3; simp at h; subst h; rfl
      · simp [h1, h2, h3] at h
theorem kApp {M : Mem} {ds : List D} {e : D} (h : ds.length < 1000000) : kAppend (M ++ [.lst ds]) (.obj M.length) [e] = some (.non, M ++ [.lst (ds ++ [e])]) := by
  simp only [kAppend, List.getElem?_append_right (Nat.le_refl _), Nat.sub_self, List.getElem?_cons_zero]
  rw [if_pos h, List.set_append_right _ _ (Nat.le_refl _), Nat.sub_self]
  rfl
theorem tyM_obj {M : Mem} {ds : List D} : tyM "list" (M ++ [.lst ds]) (.obj M.length) = true := by
  simp [tyM, asLst]
noncomputable def bRead : DSt :=
  (sSeq (sIf (tV (mVar 2))
        (sSeq (sIf (tV (mOp (gIn true) (mVar 3) (mC (.dic [.inr (txt [110]), .inr (txt [115]), .inr (txt [116])] [(.str [10]), (.str [32]), (.str [126])]))))
         (sRaise 2 1 (aCons (mVar 0) (aNil)))
         (sNil))
        (sExpr (mMt "list" kAppend (mVar 1) (aCons (mOp gIx (mC (.dic [.inr (txt [110]), .inr (txt [115]), .inr (txt [116])] [(.str [10]), (.str [32]), (.str [126])])) (mVar 3)) aNil))))
        (sIf (tV (mOp gNe (mVar 3) (mC (.str [126]))))
         (sExpr (mMt "list" kAppend (mVar 1) (aCons (mVar 3) aNil)))
         (sNil)))
       (sSeq (sIf (mAnd (mNot (tV (mVar 2))) (mNot (tV (mChain gLe gLe (mC (.str [33])) (mVar 3) (mC (.str [126]))))))
        (sRaise 2 1 (aCons (mVar 0) (aNil)))
        (sNil))
       (sSet 2 (vAnd (mOp gEq (mVar 3) (mC (.str [126]))) (vNot (mVar 2))))))
theorem read_step_ok {M : Mem} {w f : List Nat} {b : Bool} {c : Nat} (hf : f.length < 1000000) :
    (∀ f' b', rdStep (f, b) c = some (f', b') → bRead [some (.str w), some (.obj M.length), some (.bl b), some (.str [c])] (M ++ [.lst (f.map chr1)]) = .nx [some (.str w), some (.obj M.length), some (.bl b'), some (.str [c])] (M ++ [.lst (f'.map chr1)])) ∧
    (rdStep (f, b) c = none → ∃ f' : List Nat, bRead [some (.str w), some (.obj M.length), some (.bl b), some (.str [c])] (M ++ [.lst (f.map chr1)]) = .exc 2 [.str w] [some (.str w), some (.obj M.length), some (.bl b), some (.str [c])] (M ++ [.lst (f'.map chr1)])) := by
  have hk : ∀ e : D, kAppend (M ++ [.lst (f.map chr1)]) (.obj M.length) [e] = some (.non, M ++ [.lst (f.map chr1 ++ [e])]) := fun e => kApp (by simpa using hf)
  cases b with
  | true =>
    cases hs : signC c with
    | none =>
      refine ⟨fun f' b' h => by simp [rdStep, hs] at h, fun _ => ⟨f, ?_⟩⟩
      unfold bRead
      simp [gIn_sign, hs]
    | some y =>
      refine ⟨fun f' b' h => ?_, fun h => by simp [rdStep, hs] at h⟩
      simp [rdStep, hs] at h
      obtain ⟨rfl, rfl⟩ := h
      unfold bRead
      simp [gIn_sign, hs, gIx_sign hs, hk, tyM_obj]
  | false =>
    by_cases h1 : c = 126
    · subst h1
      refine ⟨fun f' b' h => ?_, fun h => by simp [rdStep] at h⟩
      simp [rdStep] at h
      obtain ⟨rfl, rfl⟩ := h
      unfold bRead
      simp
    · by_cases h2 : c < 33 ∨ 126 < c
      · refine ⟨fun f' b' h => by simp [rdStep, h2] at h, fun _ => ⟨f ++ [c], ?_⟩⟩
        unfold bRead
        have h3 : (c == 126) = false := by simpa using h1
        by_cases h4 : 33 ≤ c
        · have h5 : ¬ c ≤ 126 := by omega
          simp [h1, h3, hk, tyM_obj, h4, h5]
        · simp [h1, h3, hk, tyM_obj, h4]
      · refine ⟨fun f' b' h => ?_, fun h => by simp [rdStep, h1, h2] at h⟩
        simp [rdStep, h1, h2] at h
        obtain ⟨rfl, rfl⟩ := h
        unfold bRead
        have h3 : (c == 126) = false := by simpa using h1
        have h4 : 33 ≤ c := by omega
        have h5 : c ≤ 126 := by omega
        simp [h1, h3, hk, tyM_obj, h4, h5]
theorem read_loop {M : Mem} {w : List Nat} : ∀ (l : List Nat) (f : List Nat) (b : Bool) (x : Option D), f.length + l.length < 1000000 →
    (∀ f' b', l.foldlM rdStep (f, b) = some (f', b') → ∃ x', runFor (gtName 3) bRead (fun _ => True) (l.map chr1) [some (.str w), some (.obj M.length), some (.bl b), x] (M ++ [.lst (f.map chr1)]) = .nx [some (.str w), some (.obj M.length), some (.bl b'), x'] (M ++ [.lst (f'.map chr1)])) ∧
    (l.foldlM rdStep (f, b) = none → ∃ (f' : List Nat) (σ' : Slots), runFor (gtName 3) bRead (fun _ => True) (l.map chr1) [some (.str w), some (.obj M.length), some (.bl b), x] (M ++ [.lst (f.map chr1)]) = .exc 2 [.str w] σ' (M ++ [.lst (f'.map chr1)]))
  | [], f, b, x, _ => by
    refine ⟨fun f' b' h => ?_, fun h => by simp [List.foldlM] at h⟩
    simp [List.foldlM] at h
    obtain ⟨rfl, rfl⟩ := h
    exact ⟨x, by simp [runFor]⟩
  | c :: l, f, b, x, hl => by
    simp only [List.length_cons] at hl
    obtain ⟨h1, h2⟩ := read_step_ok (M := M) (w := w) (f := f) (b := b) (c := c) (by omega)
    cases hs : rdStep (f, b) c with
    | none =>
      refine ⟨fun f' b' h => by simp [List.foldlM, hs] at h, fun _ => ?_⟩
      obtain ⟨f', e⟩ := h2 hs
      exact ⟨f', [some (.str w), some (.obj M.length), some (.bl b), some (.str [c])], by simp [runFor, e]⟩
    | some s =>
      obtain ⟨f1, b1⟩ := s
      have e := h1 f1 b1 hs
      have hlen : f1.length ≤ f.length + 1 := by
        unfold rdStep at hs
        split at hs
        · simp only [Option.map_eq_some_iff, Prod.mk.injEq] at hs
          obtain ⟨_, _, rfl, _⟩ := hs
          simp
        · split at hs
          · cases hs
          · split at hs
            · cases hs; simp
            · cases hs; simp
      obtain ⟨i1, i2⟩ := read_loop (M := M) (w := w) l f1 b1 (some (.str [c])) (by omega)
      refine ⟨fun f' b' h => ?_, fun h => ?_⟩
      · obtain ⟨x', e'⟩ := i1 f' b' (by simpa [List.foldlM, hs] using h)
        exact ⟨x', by simp [runFor, e, e']⟩
      · obtain ⟨f', σ', e'⟩ := i2 (by simpa [List.foldlM, hs] using h)
        exact ⟨f', σ', by simp [runFor, e, e']⟩
theorem foldl_ok : ∀ (l : List Nat) (f : List Nat) (b : Bool) (f' : List Nat) (b' : Bool), (∀ c ∈ f, okc c = true) → l.foldlM rdStep (f, b) = some (f', b') → (∀ c ∈ f', okc c = true) ∧ ∀ c ∈ l, 33 ≤ c ∧ c ≤ 126
  | [], f, b, f', b', h, e => by
    simp [List.foldlM] at e
    obtain ⟨rfl, rfl⟩ := e
    exact ⟨h, fun c hc => nomatch hc⟩
  | c :: l, f, b, f', b', h, e => by
    cases hs : rdStep (f, b) c with
    | none => simp [List.foldlM, hs] at e
    | some s =>
      obtain ⟨f1, b1⟩ := s
      have key : (∀ x ∈ f1, okc x = true) ∧ 33 ≤ c ∧ c ≤ 126 := by
        unfold rdStep signC at hs
        dsimp only at hs
        cases b with
        | true =>
          simp only [if_true] at hs
          split at hs
          · simp at hs; obtain ⟨rfl, rfl⟩ := hs
            refine ⟨fun x hx => ?_, by omega⟩
            rcases List.mem_append.mp hx with z | z
            · exact h x z
            · rw [List.mem_singleton.mp z]; decide
          · split at hs
            · simp at hs; obtain ⟨rfl, rfl⟩ := hs
              refine ⟨fun x hx => ?_, by omega⟩
              rcases List.mem_append.mp hx with z | z
              · exact h x z
              · rw [List.mem_singleton.mp z]; decide
            · split at hs
              · simp at hs; obtain ⟨rfl, rfl⟩ := hs
                refine ⟨fun x hx => ?_, by omega⟩
                rcases List.mem_append.mp hx with z | z
                · exact h x z
                · rw [List.mem_singleton.mp z]; decide
              · cases hs
        | false =>
          simp only [Bool.false_eq_true, if_false] at hs
          split at hs
          · cases hs
          · split at hs
            · cases hs
              exact ⟨h, by omega⟩
            · cases hs
              refine ⟨fun x hx => ?_, by omega⟩
              rcases List.mem_append.mp hx with z | z
              · exact h x z
              · rw [List.mem_singleton.mp z]
                simp [okc]
                omega
      obtain ⟨i1, i2⟩ := foldl_ok l f1 b1 f' b' key.1 (by simpa [List.foldlM, hs] using e)
      exact ⟨i1, fun x hx => (List.mem_cons.mp hx).elim (fun z => z ▸ key.2) (i2 x)⟩
theorem trim_app {M : Mem} {d : List D} {ds : List MO} (hM : M.all (belowO M.length) = true) (hd : belowL M.length d = true) : trim M.length d (M ++ ds) = M := by
  unfold trim
  split
  · rename_i h
    have : ds = [] := by
      rw [List.length_append] at h
      exact List.length_eq_zero_iff.mp (by omega)
    rw [this, List.append_nil]
  · rw [List.take_left, hM, hd]
    rfl
theorem fold_len : ∀ (l f : List Nat) (b : Bool) (f' : List Nat) (b' : Bool), l.foldlM rdStep (f, b) = some (f', b') → f'.length ≤ f.length + l.length
  | [], f, b, f', b', e => by simp [List.foldlM] at e; obtain ⟨rfl, rfl⟩ := e; simp
  | c :: l, f, b, f', b', e => by
    cases hs : rdStep (f, b) c with
    | none => simp [List.foldlM, hs] at e
    | some s =>
      obtain ⟨f1, b1⟩ := s
      have := fold_len l f1 b1 f' b' (by simpa [List.foldlM, hs] using e)
      have hlen : f1.length ≤ f.length + 1 := by
        unfold rdStep at hs
        split at hs
        · simp only [Option.map_eq_some_iff, Prod.mk.injEq] at hs
          obtain ⟨_, _, rfl, _⟩ := hs
          simp
        · split at hs
          · cases hs
          · split at hs
            · cases hs; simp
            · cases hs; simp
      simp only [List.length_cons]
      omega
theorem flat_one : ∀ l : List Nat, (l.map fun c => [c]).flatten = l
  | [] => rfl
  | c :: l => by simp [flat_one l]
theorem sum_one : ∀ l : List Nat, ((l.map fun c => [c]).map List.length).sum = l.length
  | [] => rfl
  | c :: l => by have := sum_one l; simp only [List.map_cons, List.sum_cons, List.length_cons, List.length_nil] at this ⊢; omega
theorem join_one {M : Mem} {l : List Nat} (h : l.length ≤ 1000000) : kJoin (M ++ [.lst (l.map chr1)]) (.str []) [.obj M.length] = some (.str l, M ++ [.lst (l.map chr1)]) := by
  have e : asSeq (M ++ [.lst (l.map chr1)]) (.obj M.length) = some (l.map chr1) := by simp [asSeq, asLst]
  have e2 : asStrs (l.map chr1) = some (l.map fun c => [c]) := asStrs_map l fun c => [c]
  have e3 := sum_one l
  simp only [kJoin, e, Option.bind_some, e2]
  rw [if_pos (by rw [e3]; simp; omega), joinL_nil, flat_one]
theorem read_code_str {w : List Nat} {M : Mem} (hw : w.length ≤ 100000) (hM : M.all (belowO M.length) = true) : r_read_code [.str w] M = match uncodeL w with
    | some f => .ok (.str f) M
    | none => .exc 2 [.str w] M := by
  have hb : belowL M.length [.str w] = true := rfl
  unfold r_read_code b_read_code
  rw [runDef_ap]
  by_cases h1 : w = []
  · subst h1
    simp [isTy, uncodeL]
  · by_cases h2 : w = [126, 101]
    · subst h2
      simp [isTy, uncodeL]
    · obtain ⟨l1, l2⟩ := read_loop (M := M) (w := w) w [] false none (by simp; omega)
      have hu : uncodeL w = match w.foldlM rdStep ([], false) with
          | some (f, false) => if f.length ≤ 2000 then some f else none
          | _ => none := by
        unfold uncodeL
        rw [if_neg h2, if_neg h1]
      rw [hu]
      simp only [List.map_nil] at l1 l2
      cases hf : w.foldlM rdStep ([], false) with
      | none =>
        obtain ⟨f', σ', e⟩ := l2 hf
        have e' := e
        unfold bRead at e'
        simp [isTy, h1, h2, e', trim_app hM hb]
      | some s =>
        obtain ⟨f', b'⟩ := s
        obtain ⟨x', e⟩ := l1 f' b' hf
        have hl := fold_len _ _ _ _ _ hf
        simp at hl
        obtain ⟨ho, _⟩ := foldl_ok _ _ _ _ _ (fun c hc => by cases hc) hf
        have ht : isTextL f' = decide (f'.length ≤ 2000) := by
          unfold isTextL
          rw [List.all_eq_true.mpr ho, Bool.and_true]
        have e' := e
        unfold bRead at e'
        cases b' with
        | true => simp [isTy, h1, h2, e', trim_app hM hb]
        | false =>
          have hb2 : belowL M.length [.str f'] = true := rfl
          by_cases hz : f'.length ≤ 2000
          · simp [isTy, h1, h2, e', trim_app hM hb, trim_app hM hb2, join_one (M := M) (l := f') (by omega), is_text_str (l := f') (by omega), ht, hz]
          · simp [isTy, h1, h2, e', trim_app hM hb, trim_app hM hb2, join_one (M := M) (l := f') (by omega), is_text_str (l := f') (by omega), ht, hz]
end K33

set_option maxRecDepth 100000
set_option maxHeartbeats 1000000
namespace K33
open PySem PySem.Spec PyProof.Rows L2 MT
/-! ### the law's own reading of codes -/
noncomputable def bUnc : DSt :=
  (sSeq (sIf (mAnd (tV (mVar 3)) (tV (mOp (gIn true) (mOp gIx (mVar 0) (mVar 4)) (mC (.str [110, 115, 116])))))
        (sRet (mTup (aNil)))
        (sNil))
       (sSeq (sSet 2 (mOp gAdd (mVar 2) (mIf (tV (mVar 3)) (mOp gIx (mDisp (prCons (mC (.str [110])) (mC (.str [10])) (prCons (mC (.str [115])) (mC (.str [32])) (prCons (mC (.str [116])) (mC (.str [126])) (prNil))))) (mOp gIx (mVar 0) (mVar 4))) (mIf (tV (mOp gNe (mOp gIx (mVar 0) (mVar 4)) (mC (.str [126])))) (mOp gIx (mVar 0) (mVar 4)) (mC (.str []))))))
       (sSet 3 (vAnd (mOp gEq (mOp gIx (mVar 0) (mVar 4)) (mC (.str [126]))) (vNot (mVar 3))))))
theorem sign_mem {c : Nat} : c ∈ [110, 115, 116] ↔ (signC c).isSome = true := by
  unfold signC
  simp only [List.mem_cons, List.not_mem_nil, or_false]
  by_cases h1 : c = 110
  · simp [h1]
  · by_cases h2 : c = 115
    · simp [h2]
    · by_cases h3 : c = 116
      · simp [h3]
      · simp [h1, h2, h3]
theorem gIn_nst {M : Mem} {c : Nat} {neg : Bool} : gIn neg M (.str [c]) (.str [110, 115, 116]) = some (.bl (if neg then !(signC c).isSome else (signC c).isSome)) := by
  rw [gIn_str]
  have : decide (c ∈ [110, 115, 116]) = (signC c).isSome := by
    rw [Bool.eq_iff_iff, decide_eq_true_eq]
    exact sign_mem
  rw [this]
theorem gAdd_str {M : Mem} {a b : List Nat} (h : a.length + b.length ≤ sizeLine) : gAdd M (.str a) (.str b) = some (.str (a ++ b)) := if_pos h
theorem sl {n : Nat} (h : n ≤ 1000000) : n ≤ sizeLine := Nat.le_trans h (by decide)
theorem unc_step {M : Mem} {w f : List Nat} {b : Bool} {c : Nat} {p x5 : Option D} {k : Nat} (hw : w.length ≤ 100000) (hc : w[k]? = some c) (hr : 33 ≤ c ∧ c ≤ 126) (hf : f.length ≤ 100000) :
    bUnc [some (.str w), p, some (.str f), some (.bl b), some (.int k), x5] M = match rdStep (f, b) c with
      | some (f', b') => .nx [some (.str w), p, some (.str f'), some (.bl b'), some (.int k), x5] M
      | none => .rt (.tup []) M := by
  have e1 : gIx M (.str w) (.int k) = some (.str [c]) := by rw [gIx_str (sl (by omega)), MT.atI_nat, hc]; rfl
  have a0 : gAdd M (.str f) (.str []) = some (.str f) := by rw [gAdd_str (sl (by simp; omega)), List.append_nil]
  have a1 : ∀ x, gAdd M (.str f) (.str [x]) = some (.str (f ++ [x])) := fun x => gAdd_str (sl (by simp; omega))
  unfold bUnc rdStep
  cases b with
  | true =>
    cases hs : signC c with
    | none => simp [e1, gIn_nst, hs]
    | some y => simp [e1, gIn_nst, hs, keysD, keyD, txt_iff, gIx_sign hs, a1]
  | false =>
    by_cases h1 : c = 126
    · subst h1
      simp [e1, a0]
    · have h2 : ¬ (c < 33 ∨ 126 < c) := by omega
      simp [e1, h1, h2, a1]
theorem range_cons {k m : Nat} : (List.range' k (m + 1)).map (fun j : Nat => D.int j) = .int k :: (List.range' (k + 1) m).map fun j : Nat => D.int j := by
  rw [List.range'_succ, List.map_cons]
theorem unc_loop {M : Mem} {w : List Nat} {p x5 : Option D} (hw : w.length ≤ 100000) (hr : ∀ c ∈ w, 33 ≤ c ∧ c ≤ 126) : ∀ (l pre f : List Nat) (b : Bool) (x : Option D), w = pre ++ l → f.length ≤ pre.length →
    (∀ f' b', l.foldlM rdStep (f, b) = some (f', b') → ∃ x', runFor (gtName 4) bUnc (fun _ => True) ((List.range' pre.length l.length).map fun j : Nat => D.int j) [some (.str w), p, some (.str f), some (.bl b), x, x5] M = .nx [some (.str w), p, some (.str f'), some (.bl b'), x', x5] M) ∧
    (l.foldlM rdStep (f, b) = none → runFor (gtName 4) bUnc (fun _ => True) ((List.range' pre.length l.length).map fun j : Nat => D.int j) [some (.str w), p, some (.str f), some (.bl b), x, x5] M = .rt (.tup []) M)
  | [], pre, f, b, x, e, _ => by
    refine ⟨fun f' b' h => ?_, fun h => by simp [List.foldlM] at h⟩
    simp [List.foldlM] at h
    obtain ⟨rfl, rfl⟩ := h
    exact ⟨x, by simp [runFor]⟩
  | c :: l, pre, f, b, x, e, hl => by
    have hlen : pre.length < w.length := by rw [e]; simp
    have hc : w[pre.length]? = some c := by rw [e, List.getElem?_append_right (Nat.le_refl _), Nat.sub_self]; rfl
    have st := unc_step (M := M) (w := w) (f := f) (b := b) (c := c) (p := p) (x5 := x5) (k := pre.length) hw hc (hr c (by rw [e]; simp)) (by omega)
    rw [List.length_cons, range_cons]
    cases hs : rdStep (f, b) c with
    | none =>
      rw [hs] at st
      refine ⟨fun f' b' h => by simp [List.foldlM, hs] at h, fun _ => ?_⟩
      simp [runFor, st]
    | some s =>
      obtain ⟨f1, b1⟩ := s
      rw [hs] at st
      have h1 : f1.length ≤ f.length + 1 := by
        have := fold_len [c] f b f1 b1 (by simp [List.foldlM, hs])
        simpa using this
      obtain ⟨i1, i2⟩ := unc_loop (M := M) (p := p) (x5 := x5) hw hr l (pre ++ [c]) f1 b1 (some (.int pre.length)) (by rw [e]; simp) (by simp; omega)
      rw [List.length_append, List.length_singleton] at i1 i2
      refine ⟨fun f' b' h => ?_, fun h => ?_⟩
      · obtain ⟨x', e'⟩ := i1 f' b' (by simpa [List.foldlM, hs] using h)
        exact ⟨x', by simp [runFor, st, e']⟩
      · have e' := i2 (by simpa [List.foldlM, hs] using h)
        simp [runFor, st, e']
def inR (c : Nat) : Bool := decide (33 ≤ c) && decide (c ≤ 126)
theorem uncode_none {w : List Nat} (h : w.all inR = false) : uncodeL w = none := by
  unfold uncodeL
  split
  · rename_i e; subst e; simp [inR] at h
  · split
    · rfl
    · cases hf : w.foldlM rdStep ([], false) with
      | none => rfl
      | some s =>
        obtain ⟨f', b'⟩ := s
        obtain ⟨_, h2⟩ := foldl_ok _ _ _ _ _ (fun c hc => by cases hc) hf
        have : w.all inR = true := List.all_eq_true.mpr fun c hc => by
          have := h2 c hc
          simp [inR, this]
        rw [this] at h
        cases h
theorem spl_len : ∀ (S : List Nat) (k : Nat) (acc l : List Nat), 0 < (TL.spl S k acc l).length
  | S, k, acc, [] => by simp [TL.spl]
  | S, 0, acc, c :: l => by
    rw [TL.spl]
    split
    · simp
    · exact spl_len S 0 (acc ++ [c]) l
  | S, k + 1, acc, c :: l => by rw [TL.spl]; exact spl_len S k acc l
theorem kSplit1 {M : Mem} {l : List Nat} {c : Nat} (hc : c < 256) (hl : l.length ≤ 100000) : kSplit M (.str l) [.str [c]] = some (.lst ((TL.spl [c] 0 [] l).map D.str), M) := by
  have : [c] ≠ [] ∧ [c].all (· < 256) = true ∧ l.length + 2 ≤ sizeLine := ⟨by simp, by simp [hc], sl (by omega)⟩
  simp only [kSplit]
  rw [if_pos this]
theorem law_uncode_str {w : List Nat} {M : Mem} (hw : w.length ≤ 100000) (hv : ∀ c ∈ w, c < 1114112) : r__law_uncode [.str w] M = .ok (match uncodeL w with
    | some f => .tup [.str f]
    | none => .tup []) M := by
  have hc : ∀ p : Option D, runC (gtName 5) (mNot (tV (mChain gLe gLe (mC (.str [33])) (mVar 5) (mC (.str [126]))))) (mVar 5) (fun _ => True) (w.map fun c => D.str [c]) [some (.str w), p, none, none, none, none] M = .ok ((w.filter fun c => !inR c).map fun c => D.str [c]) M := fun p => by
    refine runC_filt trivial fun c hd => ⟨_, rfl, ?_, fun _ => rfl⟩
    simp [inR]
    by_cases h1 : 33 ≤ c <;> simp [h1]
  have he : gEqN true M (.lst ((w.filter fun c => !inR c).map fun c => D.str [c])) (.lst []) = some (.bl (!w.all inR)) := by
    have := eq_nil_strs (neg := true) (M := M) (ls := (w.filter fun c => !inR c).map fun c => [c]) (fun x hx c hc => by
      obtain ⟨c', h1, rfl⟩ := List.mem_map.mp hx
      rw [List.mem_singleton.mp hc]
      exact hv _ (List.mem_filter.mp h1).1)
    rw [List.map_map] at this
    rw [show (fun c => D.str [c]) = D.str ∘ fun c => [c] from rfl, this]
    simp only [List.isEmpty_map, filt_nil]
    rfl
  have hg : gLen M [.str w] = some (.int w.length) := gLen_str (sl (by omega))
  have hr := rng1_int (M := M) (i := (w.length : Int)) (by omega) (by omega)
  rw [Int.toNat_natCast, List.range_eq_range'] at hr
  unfold r__law_uncode b__law_uncode
  rw [runDef_ap]
  by_cases h1 : w = [126, 101]
  · subst h1
    simp [uncodeL]
  · by_cases h2 : w = []
    · subst h2
      simp [uncodeL, kSplit1 (M := M) (l := []) (c := 126) (by decide) (by simp)]
    · cases ha : w.all inR with
      | false =>
        rw [uncode_none ha]
        rw [ha] at he
        simp [h1, h2, kSplit1 (M := M) (l := w) (c := 126) (by decide) (by omega), wipeD, few_ok (show (w.map fun c => D.str [c]).length ≤ 1000000 by simp; omega), hc, he]
      | true =>
        have hin : ∀ c ∈ w, 33 ≤ c ∧ c ≤ 126 := fun c hc => by
          have := List.all_eq_true.mp ha c hc
          simpa [inR] using this
        rw [ha] at he
        have hu : uncodeL w = match w.foldlM rdStep ([], false) with
            | some (f, false) => if f.length ≤ 2000 then some f else none
            | _ => none := by
          unfold uncodeL
          rw [if_neg h1, if_neg h2]
          all_goals rfl
        rw [hu]
        obtain ⟨l1, l2⟩ := unc_loop (M := M) (w := w) (p := some (.lst ((TL.spl [126] 0 [] w).map D.str))) (x5 := none) hw hin w [] [] false none rfl (by simp)
        rw [List.length_nil] at l1 l2
        have sp := spl_len [126] 0 [] w
        have gp : gLen M [.lst ((TL.spl [126] 0 [] w).map D.str)] = some (.int (TL.spl [126] 0 [] w).length) := by rw [gLen_lst, List.length_map]
        cases hf : w.foldlM rdStep ([], false) with
        | none =>
          have e := l2 hf
          unfold bUnc at e
          simp [h1, h2, kSplit1 (M := M) (l := w) (c := 126) (by decide) (by omega), wipeD, few_ok (show (w.map fun c => D.str [c]).length ≤ 1000000 by simp; omega), hc, he, hg, hr, gtTup, gtCons, gtNil, e]
        | some s =>
          obtain ⟨f', b'⟩ := s
          obtain ⟨x', e⟩ := l1 f' b' hf
          have hl := fold_len _ _ _ _ _ hf
          simp at hl
          have gf : gLen M [.str f'] = some (.int f'.length) := gLen_str (sl (by omega))
          unfold bUnc at e
          cases b' with
          | true => simp [h1, h2, kSplit1 (M := M) (l := w) (c := 126) (by decide) (by omega), wipeD, few_ok (show (w.map fun c => D.str [c]).length ≤ 1000000 by simp; omega), hc, he, hg, hr, gtTup, gtCons, gtNil, e]
          | false =>
            have spn : TL.spl [126] 0 [] w ≠ [] := fun z => by rw [z] at sp; simp at sp
            have sp' : (0 : Int) < (TL.spl [126] 0 [] w).length := by omega
            by_cases hz : f'.length ≤ 2000
            · have hz' : (f'.length : Int) ≤ 2000 := by omega
              simp [h1, h2, kSplit1 (M := M) (l := w) (c := 126) (by decide) (by omega), wipeD, few_ok (show (w.map fun c => D.str [c]).length ≤ 1000000 by simp; omega), hc, he, hg, hr, gtTup, gtCons, gtNil, e, gf, gp, sp', spn, hz, hz']
            · have hz' : ¬ (f'.length : Int) ≤ 2000 := by omega
              simp [h1, h2, kSplit1 (M := M) (l := w) (c := 126) (by decide) (by omega), wipeD, few_ok (show (w.map fun c => D.str [c]).length ≤ 1000000 by simp; omega), hc, he, hg, hr, gtTup, gtCons, gtNil, e, gf, gp, sp', spn, hz, hz']
end K33

set_option maxRecDepth 100000
set_option maxHeartbeats 1000000
namespace K33
open PySem PySem.Spec PyProof.Rows L2 MT
open PySem.NumText (digitsVal)
/-! ### paths -/
abbrev splitL (c : Nat) (l : List Nat) : List (List Nat) := TL.spl [c] 0 [] l
theorem spl_has {S : List Nat} : ∀ (l : List Nat) (k : Nat) (acc : List Nat), ∀ p ∈ TL.spl S k acc l, p.length ≤ acc.length + l.length ∧ ∀ c ∈ p, c ∈ acc ∨ c ∈ l
  | [], k, acc, p, hp => by
    rw [TL.spl_nil] at hp
    rw [List.mem_singleton.mp hp]
    exact ⟨by simp, fun c hc => .inl hc⟩
  | c :: l, 0, acc, p, hp => by
    rw [TL.spl] at hp
    split at hp
    · rcases List.mem_cons.mp hp with z | z
      · rw [z]; exact ⟨by simp, fun c hc => .inl hc⟩
      · obtain ⟨h1, h2⟩ := spl_has l _ _ p z
        simp at h1
        refine ⟨by simp; omega, fun c hc => ?_⟩
        rcases h2 c hc with y | y
        · cases y
        · exact .inr (List.mem_cons_of_mem _ y)
    · obtain ⟨h1, h2⟩ := spl_has l _ _ p hp
      simp at h1
      refine ⟨by simp; omega, fun c' hc => ?_⟩
      rcases h2 c' hc with y | y
      · rcases List.mem_append.mp y with y | y
        · exact .inl y
        · rw [List.mem_singleton.mp y]; exact .inr List.mem_cons_self
      · exact .inr (List.mem_cons_of_mem _ y)
  | c :: l, k + 1, acc, p, hp => by
    rw [TL.spl] at hp
    obtain ⟨h1, h2⟩ := spl_has l _ _ p hp
    exact ⟨by simp; omega, fun c' hc => (h2 c' hc).imp id fun y => List.mem_cons_of_mem _ y⟩
theorem spl_few {S : List Nat} : ∀ (l : List Nat) (k : Nat) (acc : List Nat), (TL.spl S k acc l).length ≤ l.length + 1
  | [], k, acc => by rw [TL.spl_nil]; simp
  | c :: l, 0, acc => by
    rw [TL.spl]
    split
    · have := spl_few (S := S) l (S.length - 1) []
      simp; omega
    · have := spl_few (S := S) l 0 (acc ++ [c])
      simp; omega
  | c :: l, k + 1, acc => by
    rw [TL.spl]
    have := spl_few (S := S) l k acc
    simp; omega
theorem split_has {c : Nat} {l p : List Nat} (h : p ∈ splitL c l) : p.length ≤ l.length ∧ ∀ x ∈ p, x ∈ l := by
  obtain ⟨h1, h2⟩ := spl_has l 0 [] p h
  simp at h1
  exact ⟨h1, fun x hx => (h2 x hx).elim (fun z => by cases z) id⟩
theorem split_few {c : Nat} {l : List Nat} : (splitL c l).length ≤ l.length + 1 := spl_few l 0 []
def digC (c : Nat) : Bool := decide (48 ≤ c ∧ c ≤ 57)
def isCountL (l : List Nat) : Bool := decide (1 ≤ l.length) && decide (l.length ≤ 4) && l.all digC && (l.head? != some 48 || l == [48])
theorem dig_mem {c : Nat} : (c ∈ [48, 49, 50, 51, 52, 53, 54, 55, 56, 57]) ↔ (48 ≤ c ∧ c ≤ 57) := by
  simp only [List.mem_cons, List.not_mem_nil, or_false]
  omega
theorem gIn_dig {M : Mem} {c : Nat} {neg : Bool} : gIn neg M (.str [c]) (.str [48, 49, 50, 51, 52, 53, 54, 55, 56, 57]) = some (.bl (if neg then !digC c else digC c)) := by
  rw [gIn_str]
  have : decide (c ∈ [48, 49, 50, 51, 52, 53, 54, 55, 56, 57]) = digC c := by
    unfold digC
    rw [decide_eq_decide]
    exact dig_mem
  rw [this]
theorem is_count_str {l : List Nat} {M : Mem} (h : l.length ≤ 100000) : r_is_count [.str l] M = .ok (.bl (isCountL l)) M := by
  have hc : runC (gtName 1) tTrue (mOp (gIn false) (mVar 1) (mC (.str [48, 49, 50, 51, 52, 53, 54, 55, 56, 57]))) (fun _ => True) (l.map fun c => D.str [c]) [some (.str l), none] M = .ok (l.map fun c => .bl (digC c)) M := by
    refine runC_maps trivial fun c hd => ⟨_, rfl, rfl, ?_⟩
    simp [gIn_dig]
  have hf : ∀ {x : Res D}, few (l.map fun c => D.str [c]) x = x := fun {x} => few_ok (by simp; omega)
  unfold r_is_count b_is_count
  rw [runDef_ap]
  have hg := gLen_str (M := M) (l := l) (sl (by omega))
  by_cases hn : l = []
  · subst hn
    simp [hg, isCountL]
  · obtain ⟨a, r, hl⟩ := List.exists_cons_of_ne_nil hn
    have hh : l.head? = some a := by rw [hl]; rfl
    have e0 : gIx M (.str l) (.int 0) = some (.str [a]) := by rw [gIx_str (sl (by omega)), hl]; simp
    have hp : 1 ≤ l.length := by rw [hl]; simp
    have h1' : (1 : Int) ≤ l.length := by omega
    clear hl
    by_cases h4 : l.length ≤ 4
    · have h4' : (l.length : Int) ≤ 4 := by omega
      cases ha : l.all digC with
      | true => by_cases h48 : a = 48 <;> simp [hg, wipeD, hf, hc, gAll_map, e0, isCountL, h4, h4', h1', hp, hh, ha, h48]
      | false => simp [hg, wipeD, hf, hc, gAll_map, e0, isCountL, h4, h4', h1', hp, hh, ha]
    · have h4' : ¬ (l.length : Int) ≤ 4 := by omega
      simp [hg, isCountL, h4, h4', h1', hp]
theorem law_is_count_str {l : List Nat} {M : Mem} (h : l.length ≤ 100000) (hv : ∀ c ∈ l, c < 1114112) : r__law_is_count [.str l] M = .ok (.bl (isCountL l)) M := by
  have hc : runC (gtName 1) (tV (mOp (gIn true) (mVar 1) (mC (.str [48, 49, 50, 51, 52, 53, 54, 55, 56, 57])))) (mVar 1) (fun _ => True) (l.map fun c => D.str [c]) [some (.str l), none] M = .ok ((l.filter fun c => !digC c).map fun c => .str [c]) M := by
    refine runC_filt trivial fun c hd => ⟨_, rfl, ?_, fun _ => rfl⟩
    simp [gIn_dig]
  have he : gEqN false M (.lst ((l.filter fun c => !digC c).map fun c => D.str [c])) (.lst []) = some (.bl (l.all digC)) := by
    have := eq_nil_strs (neg := false) (M := M) (ls := (l.filter fun c => !digC c).map fun c => [c]) (fun x hx c hc => by
      obtain ⟨c', h1, rfl⟩ := List.mem_map.mp hx
      rw [List.mem_singleton.mp hc]
      exact hv _ (List.mem_filter.mp h1).1)
    rw [List.map_map] at this
    rw [show (fun c => D.str [c]) = D.str ∘ fun c => [c] from rfl, this]
    simp only [List.isEmpty_map, filt_nil]
    rfl
  have hf : ∀ {x : Res D}, few (l.map fun c => D.str [c]) x = x := fun {x} => few_ok (by simp; omega)
  unfold r__law_is_count b__law_is_count
  rw [runDef_ap]
  have hg := gLen_str (M := M) (l := l) (sl (by omega))
  by_cases hn : l = []
  · subst hn
    simp [hg, isCountL]
  · obtain ⟨a, r, hl⟩ := List.exists_cons_of_ne_nil hn
    have hh : l.head? = some a := by rw [hl]; rfl
    have e0 : gIx M (.str l) (.int 0) = some (.str [a]) := by rw [gIx_str (sl (by omega)), hl]; simp
    have hp : 1 ≤ l.length := by rw [hl]; simp
    have h1' : (1 : Int) ≤ l.length := by omega
    clear hl
    by_cases h4 : l.length ≤ 4
    · have h4' : (l.length : Int) ≤ 4 := by omega
      cases ha : l.all digC with
      | true => rw [ha] at he; by_cases h48 : a = 48 <;> simp [hg, wipeD, hf, hc, he, e0, isCountL, h4, h4', h1', hp, hh, ha, h48]
      | false => rw [ha] at he; simp [hg, wipeD, hf, hc, he, e0, isCountL, h4, h4', h1', hp, hh, ha]
    · have h4' : ¬ (l.length : Int) ≤ 4 := by omega
      simp [hg, isCountL, h4, h4', h1', hp]
theorem count_int {l : List Nat} (h : isCountL l = true) {M : Mem} : gInt M [.str l] = some (.int (digitsVal l)) := by
  simp only [isCountL, Bool.and_eq_true, decide_eq_true_eq, List.all_eq_true] at h
  obtain ⟨⟨⟨h1, h4⟩, hd⟩, _⟩ := h
  have e := intText_digits (x := txt l) (fun c hc => by have := hd c hc; simpa [digC] using this) (by intro z; rw [show l = [] from z] at h1; simp at h1) (by show l.toArray.size ≤ 4300; simp; omega)
  show (if l.length ≤ 640 then (PySem.intText? (txt l)).map D.int else none) = _
  rw [if_pos (by omega), e]
  rfl
theorem count_lt {l : List Nat} (h : isCountL l = true) : digitsVal l < 10000 := by
  simp only [isCountL, Bool.and_eq_true, decide_eq_true_eq, List.all_eq_true] at h
  obtain ⟨⟨⟨h1, h4⟩, hd⟩, _⟩ := h
  have hd' : ∀ c ∈ l, c ≤ 57 := fun c hc => by have := hd c hc; simp [digC] at this; omega
  clear hd
  match l, h4, hd' with
  | [], _, _ => decide
  | [a], _, hd => have := hd a (by simp); simp [digitsVal]; omega
  | [a, b], _, hd => have := hd a (by simp); have := hd b (by simp); simp [digitsVal]; omega
  | [a, b, c], _, hd => have := hd a (by simp); have := hd b (by simp); have := hd c (by simp); simp [digitsVal]; omega
  | [a, b, c, d], _, hd => have := hd a (by simp); have := hd b (by simp); have := hd c (by simp); have := hd d (by simp); simp [digitsVal]; omega
  | a :: b :: c :: d :: e :: r, h, _ => simp at h
def pathU (l : List Nat) : Option (List Nat) := if l = [46] then some [] else if (splitL 47 l).all isCountL then some ((splitL 47 l).map digitsVal) else none
abbrev tupN (ns : List Nat) : D := .tup (ns.map fun n : Nat => D.int n)
theorem runC_split {M : Mem} {σ : Slots} {ls : List (List Nat)} {g c m} {f : List Nat → D} (h : ∀ x ∈ ls, ∃ σ', g (D.str x) σ M = some (σ', M) ∧ c σ' M = .ok true M ∧ m σ' M = .ok (f x) M) :
    runC g c m (fun _ => True) (ls.map D.str) σ M = .ok (ls.map f) M := runC_maps trivial h
theorem read_path_str {l : List Nat} {M : Mem} (h : l.length ≤ 10000) : r_read_path [.str l] M = match pathU l with
    | some ns => .ok (tupN ns) M
    | none => .exc 2 [.str l] M := by
  have hk := kSplit1 (M := M) (l := l) (c := 47) (by decide) (by omega)
  have hc : runC (gtName 1) tTrue (mCall 1 r_is_count (aCons (mVar 1) (aNil))) (fun _ => True) ((splitL 47 l).map D.str) [some (.str l), none] M = .ok ((splitL 47 l).map fun p => .bl (isCountL p)) M := by
    refine runC_split fun p hp => ⟨_, rfl, rfl, ?_⟩
    have := (split_has hp).1
    simp [is_count_str (l := p) (M := M) (by omega)]
  have hf : ∀ {x : Res D}, few ((splitL 47 l).map D.str) x = x := fun {x} => few_ok (by have := split_few (c := 47) (l := l); simp; omega)
  unfold r_read_path b_read_path
  rw [runDef_ap]
  by_cases h1 : l = [46]
  · subst h1
    simp [isTy, pathU]
  · cases ha : (splitL 47 l).all isCountL with
    | false => simp [isTy, h1, hk, wipeD, hf, hc, gAll_map, ha, pathU]
    | true =>
      have hc2 : runC (gtName 1) tTrue (mB gInt (aCons (mVar 1) aNil)) (fun _ => True) ((splitL 47 l).map D.str) [some (.str l), none] M = .ok ((splitL 47 l).map fun p => .int (digitsVal p)) M := by
        refine runC_split fun p hp => ⟨_, rfl, rfl, ?_⟩
        simp [count_int (List.all_eq_true.mp ha p hp)]
      simp [isTy, h1, hk, wipeD, hf, hc, hc2, gAll_map, ha, pathU, gTuple]
end K33

set_option maxRecDepth 100000
set_option maxHeartbeats 1000000
namespace K33
open PySem PySem.Spec PyProof.Rows L2 MT
open PySem.NumText (digitsVal)
theorem filt_nil' {α : Type} {l : List α} {p : α → Bool} : (l.filter fun c => !p c).isEmpty = l.all p := by
  induction l with
  | nil => rfl
  | cons c l ih => cases h : p c <;> simp [h, ih]
theorem law_uncode_path_str {l : List Nat} {M : Mem} (h : l.length ≤ 10000) (hv : ∀ c ∈ l, c < 1114112) : r__law_uncode_path [.str l] M = .ok (match pathU l with
    | some ns => .tup [tupN ns]
    | none => .tup []) M := by
  have hk := kSplit1 (M := M) (l := l) (c := 47) (by decide) (by omega)
  have hc : runC (gtName 2) (mNot (tV (mCall 1 r__law_is_count (aCons (mVar 2) (aNil))))) (mVar 2) (fun _ => True) ((splitL 47 l).map D.str) [some (.str l), some (.lst ((splitL 47 l).map D.str)), none] M = .ok (((splitL 47 l).filter fun p => !isCountL p).map D.str) M := by
    refine runC_filt trivial fun p hp => ⟨_, rfl, ?_, fun _ => rfl⟩
    have := split_has hp
    simp [law_is_count_str (l := p) (M := M) (by omega) fun c hc => hv c (this.2 c hc)]
  have he : gEqN false M (.lst (((splitL 47 l).filter fun p => !isCountL p).map D.str)) (.lst []) = some (.bl ((splitL 47 l).all isCountL)) := by
    rw [eq_nil_strs fun p hp c hc => hv c ((split_has (List.mem_filter.mp hp).1).2 c hc), filt_nil']
    rfl
  have hf : ∀ {x : Res D}, few ((splitL 47 l).map D.str) x = x := fun {x} => few_ok (by have := split_few (c := 47) (l := l); simp; omega)
  unfold r__law_uncode_path b__law_uncode_path
  rw [runDef_ap]
  by_cases h1 : l = [46]
  · subst h1
    simp [pathU]
  · cases ha : (splitL 47 l).all isCountL with
    | false => rw [ha] at he; simp [h1, hk, wipeD, hf, hc, he, ha, pathU]
    | true =>
      rw [ha] at he
      have hc2 : runC (gtName 2) tTrue (mB gInt (aCons (mVar 2) aNil)) (fun _ => True) ((splitL 47 l).map D.str) [some (.str l), some (.lst ((splitL 47 l).map D.str)), none] M = .ok ((splitL 47 l).map fun p => .int (digitsVal p)) M := by
        refine runC_split fun p hp => ⟨_, rfl, rfl, ?_⟩
        simp [count_int (List.all_eq_true.mp ha p hp)]
      simp [h1, hk, wipeD, hf, hc, hc2, he, ha, pathU, gTuple]
/-! ### path words -/
def P5 (n : Nat) : Prop := n = 0 ∨ n = 1 ∨ n = 12 ∨ n = 9999 ∨ n = 10
theorem d0 : digits 0 = [48] := by decide +kernel
theorem d1 : digits 1 = [49] := by decide +kernel
theorem d12 : digits 12 = [49, 50] := by decide +kernel
theorem d9999 : digits 9999 = [57, 57, 57, 57] := by decide +kernel
theorem d10 : digits 10 = [49, 48] := by decide +kernel
theorem p5_facts {n : Nat} (h : P5 n) : isCountL (digits n) = true ∧ digitsVal (digits n) = n ∧ 47 ∉ digits n ∧ (digits n).length ≤ 4 ∧ ∀ c ∈ digits n, c < 127 := by
  rcases h with rfl | rfl | rfl | rfl | rfl
  · rw [show ((0 : Nat) : Int) = 0 from rfl, d0]; decide
  · rw [show ((1 : Nat) : Int) = 1 from rfl, d1]; decide
  · rw [show ((12 : Nat) : Int) = 12 from rfl, d12]; decide
  · rw [show ((9999 : Nat) : Int) = 9999 from rfl, d9999]; decide
  · rw [show ((10 : Nat) : Int) = 10 from rfl, d10]; decide
def pathW (ns : List Nat) : List Nat := if ns = [] then [46] else TL.joinL [47] (ns.map fun n : Nat => digits n)
theorem pathU_W {ns : List Nat} (h : ∀ n ∈ ns, P5 n) : pathU (pathW ns) = some ns := by
  unfold pathW
  by_cases hn : ns = []
  · subst hn; simp [pathU]
  · rw [if_neg hn]
    have hs : splitL 47 (TL.joinL [47] (ns.map fun n : Nat => digits n)) = ns.map fun n : Nat => digits n := by
      refine TL.spl_join (by simpa using hn) fun p hp => ?_
      obtain ⟨n, h1, rfl⟩ := List.mem_map.mp hp
      exact (p5_facts (h n h1)).2.2.1
    have h46 : TL.joinL [47] (ns.map fun n : Nat => digits n) ≠ [46] := fun z => by
      rw [z] at hs
      obtain ⟨n, r, rfl⟩ := List.exists_cons_of_ne_nil hn
      have e : splitL 47 [46] = [[46]] := by decide
      rw [e] at hs
      simp only [List.map_cons, List.cons.injEq] at hs
      have := (p5_facts (h n List.mem_cons_self)).1
      rw [← hs.1] at this
      revert this
      decide
    unfold pathU
    rw [if_neg h46, hs]
    have ha : (ns.map fun n : Nat => digits n).all isCountL = true := List.all_eq_true.mpr fun p hp => by
      obtain ⟨n, h1, rfl⟩ := List.mem_map.mp hp
      exact (p5_facts (h n h1)).1
    rw [if_pos ha, List.map_map]
    congr 1
    conv => rhs; rw [← List.map_id ns]
    exact List.map_congr_left fun n hn => (p5_facts (h n hn)).2.1
theorem toPL_ints : ∀ ns : List Nat, toPL (ns.map fun n : Nat => D.int n) = some (ns.map fun n : Nat => PyData.int n)
  | [] => rfl
  | n :: ns => by simp only [List.map_cons, toPL, toP, toPL_ints ns]; rfl
theorem lay_ints : ∀ ns : List Nat, PyData.canLayAll0 (ns.map fun n : Nat => PyData.int n) = true ∧ PyData.depthAll (ns.map fun n : Nat => PyData.int n) = 0
  | [] => ⟨rfl, rfl⟩
  | n :: ns => by
    obtain ⟨h1, h2⟩ := lay_ints ns
    simp only [List.map_cons, PyData.canLayAll0, PyData.canLay0, h1, PyData.depthAll, PyData.depth, h2]
    exact ⟨rfl, rfl⟩
theorem eq_nil_ints {neg : Bool} {M : Mem} {ns : List Nat} : gEqN neg M (tupN ns) (.tup []) = some (.bl (if neg then !ns.isEmpty else ns.isEmpty)) := by
  obtain ⟨h1, h2⟩ := lay_ints ns
  have s1 : SeqAt.shaped (.tuple (ns.map fun n : Nat => PyData.int n)) = true := by
    unfold SeqAt.shaped
    simp only [PyData.canLay0, h1, PyData.depth, h2, Bool.true_and, decide_eq_true_eq]
    decide
  have s2 : SeqAt.shaped (.tuple []) = true := by decide
  simp only [gEqN, gEqP, toPM, toP, toPL_ints, toPL, Option.map_some]
  rw [if_pos ⟨s1, s2⟩]
  cases ns <;> rfl
theorem join_digits {M : Mem} {ns : List Nat} (h : ∀ n ∈ ns, P5 n) (hl : ns.length ≤ 1000) : kJoin M (.str [47]) [.lst (ns.map fun n : Nat => D.str (digits n))] = some (.str (TL.joinL [47] (ns.map fun n : Nat => digits n)), M) := by
  refine kJoin_map ns (fun n : Nat => digits n) ?_
  have : ∀ ns : List Nat, (∀ n ∈ ns, P5 n) → ((ns.map fun n : Nat => digits n).map List.length).sum ≤ 4 * ns.length := by
    intro ns
    induction ns with
    | nil => intro _; simp
    | cons n ns ih =>
      intro h
      have := ih fun x hx => h x (List.mem_cons_of_mem _ hx)
      have := (p5_facts (h n List.mem_cons_self)).2.2.2.1
      simp only [List.map_cons, List.sum_cons, List.length_cons]
      omega
  have := this ns h
  simp only [List.length_singleton]
  omega
theorem gStr_p5 {M : Mem} {n : Nat} (h : P5 n) : gStr M [.int n] = some (.str (digits n)) := by
  have : (n : Int).natAbs.log2 < 1920 := by rcases h with rfl | rfl | rfl | rfl | rfl <;> decide
  exact if_pos this
theorem is_whole_int {M : Mem} {i : Int} : r_is_whole [.int i] M = .ok (.bl true) M := by
  unfold r_is_whole b_is_whole
  rw [runDef_ap]
  simp [isTy]
theorem path_text_ok {M : Mem} {ns : List Nat} (h : ∀ n ∈ ns, P5 n) (hl : ns.length ≤ 1000) : r_path_text [tupN ns] M = .ok (.str (pathW ns)) M := by
  have hc : runC (gtName 1) tTrue (vAnd (mCall 1 r_is_whole (aCons (mVar 1) (aNil))) (mChain gLe gLe (mC (.int 0)) (mVar 1) (mC (.int 9999)))) (fun _ => True) (ns.map fun n : Nat => D.int n) [some (tupN ns), none] M = .ok (ns.map fun n : Nat => .bl true) M := by
    refine runC_maps trivial fun n hn => ⟨_, rfl, rfl, ?_⟩
    have h1 : (0 : Int) ≤ n := by omega
    have h2 : (n : Int) ≤ 9999 := by rcases h n hn with rfl | rfl | rfl | rfl | rfl <;> decide
    simp [is_whole_int, h1, h2]
  have hc2 : runC (gtName 1) tTrue (mB gStr (aCons (mVar 1) aNil)) (fun _ => True) (ns.map fun n : Nat => D.int n) [some (tupN ns), none] M = .ok (ns.map fun n : Nat => .str (digits n)) M := by
    refine runC_maps trivial fun n hn => ⟨_, rfl, rfl, ?_⟩
    simp [gStr_p5 (h n hn)]
  have hf : ∀ {x : Res D}, few (ns.map fun n : Nat => D.int n) x = x := fun {x} => few_ok (by simp; omega)
  have hga := gAll_map (M := M) ns fun _ => true
  have hall : (ns.all fun _ => true) = true := by simp
  unfold r_path_text b_path_text
  rw [runDef_ap]
  simp [isTy, wipeD, hf, hc, hga, hc2, eq_nil_ints, join_digits h hl]
  by_cases hn : ns = []
  · subst hn; simp [pathW]
  · simp [hn, pathW]
theorem law_path_word_ok {M : Mem} {ns : List Nat} (h : ∀ n ∈ ns, P5 n) (hl : ns.length ≤ 1000) : r__law_path_word [tupN ns] M = .ok (.str (pathW ns)) M := by
  have hc2 : runC (gtName 1) tTrue (mB gStr (aCons (mVar 1) aNil)) (fun _ => True) (ns.map fun n : Nat => D.int n) [some (tupN ns), none] M = .ok (ns.map fun n : Nat => .str (digits n)) M := by
    refine runC_maps trivial fun n hn => ⟨_, rfl, rfl, ?_⟩
    simp [gStr_p5 (h n hn)]
  have hf : ∀ {x : Res D}, few (ns.map fun n : Nat => D.int n) x = x := fun {x} => few_ok (by simp; omega)
  unfold r__law_path_word b__law_path_word
  rw [runDef_ap]
  simp [wipeD, hf, hc2, eq_nil_ints, join_digits h hl]
  by_cases hn : ns = []
  · subst hn; simp [pathW]
  · simp [hn, pathW]
end K33

set_option maxRecDepth 100000
set_option maxHeartbeats 1000000
namespace K33
open PySem PySem.Spec PyProof.Rows L2 MT
/-! ### patterns -/
def wordsL : List (List Nat) := [[112, 97, 103, 101], [113, 117, 111, 116, 101], [108, 105, 115, 116], [105, 116, 101, 109], [104, 101, 97, 100], [114, 97, 119], [102, 101, 110, 99, 101], [112, 97, 114, 97], [108, 105, 110, 101], [112, 97, 105, 114], [116, 111, 114, 110], [116, 101, 120, 116]]
def isWord (p : List Nat) : Bool := decide (p ∈ wordsL)
theorem any_strs {p : List Nat} : ∀ ws : List (List Nat), (ws.map D.str).any (fun x => eqF x (.str p)) = decide (p ∈ ws)
  | [] => by simp
  | w :: ws => by
    rw [List.map_cons, List.any_cons, any_strs ws, Bool.eq_iff_iff]
    simp only [eqF, Bool.or_eq_true, beq_iff_eq, decide_eq_true_eq, List.mem_cons]
    constructor
    · rintro (h | h)
      · exact .inl h.symm
      · exact .inr h
    · rintro (h | h)
      · exact .inl h.symm
      · exact .inr h
theorem flat_strs : ∀ ws : List (List Nat), (ws.map D.str).all flatD = true
  | [] => rfl
  | w :: ws => by rw [List.map_cons, List.all_cons, flat_strs ws]; rfl
theorem gIn_tup {M : Mem} {neg : Bool} {p : List Nat} (ws : List (List Nat)) : gIn neg M (.str p) (.tup (ws.map D.str)) = some (.bl (if neg then !decide (p ∈ ws) else decide (p ∈ ws))) := by
  unfold gIn
  simp only [asSeq, flat_strs, any_strs]
  simp [flatD]
theorem gIn_lst {M : Mem} {neg : Bool} {p : List Nat} (ws : List (List Nat)) : gIn neg M (.str p) (.lst (ws.map D.str)) = some (.bl (if neg then !decide (p ∈ ws) else decide (p ∈ ws))) := by
  unfold gIn
  simp only [asSeq, asLst, flat_strs, any_strs]
  simp [flatD]
theorem gIn_W {M : Mem} {neg : Bool} {p : List Nat} : gIn neg M (.str p) (.tup [(.str [112, 97, 103, 101]), (.str [113, 117, 111, 116, 101]), (.str [108, 105, 115, 116]), (.str [105, 116, 101, 109]), (.str [104, 101, 97, 100]), (.str [114, 97, 119]), (.str [102, 101, 110, 99, 101]), (.str [112, 97, 114, 97]), (.str [108, 105, 110, 101]), (.str [112, 97, 105, 114]), (.str [116, 111, 114, 110]), (.str [116, 101, 120, 116])]) = some (.bl (if neg then !isWord p else isWord p)) := gIn_tup wordsL
theorem gIn_W2 {M : Mem} {neg : Bool} {p : List Nat} : gIn neg M (.str p) (.lst [(.str [42]), (.str [112, 97, 103, 101]), (.str [113, 117, 111, 116, 101]), (.str [108, 105, 115, 116]), (.str [105, 116, 101, 109]), (.str [104, 101, 97, 100]), (.str [114, 97, 119]), (.str [102, 101, 110, 99, 101]), (.str [112, 97, 114, 97]), (.str [108, 105, 110, 101]), (.str [112, 97, 105, 114]), (.str [116, 111, 114, 110]), (.str [116, 101, 120, 116])]) = some (.bl (if neg then !(p == [42] || isWord p) else (p == [42] || isWord p))) := by
  have := gIn_lst (M := M) (neg := neg) (p := p) ([42] :: wordsL)
  rw [show decide (p ∈ [42] :: wordsL) = (p == [42] || isWord p) by
    rw [Bool.eq_iff_iff]; simp [isWord]] at this
  exact this
theorem cut_to {l : List Nat} : cut l none (some 1) = l.take 1 := by
  unfold cut HT.sIx
  simp
theorem cut_from {l : List Nat} : cut l (some 1) none = l.drop 1 := by
  unfold cut HT.sIx
  simp
  cases l <;> simp
def tk1 (l : List Nat) : List Nat := l.take 1
def dr1 (l : List Nat) : List Nat := l.drop 1
theorem gSl_to {M : Mem} {l : List Nat} (h : l.length ≤ 1000000) : gSl M (.str l) none (some 1) = some (.str (tk1 l)) := by
  show (if _ then _ else _) = _
  rw [if_pos (sl h), cut_to]
  rfl
theorem gSl_from {M : Mem} {l : List Nat} (h : l.length ≤ 1000000) : gSl M (.str l) (some 1) none = some (.str (dr1 l)) := by
  show (if _ then _ else _) = _
  rw [if_pos (sl h), cut_from]
  rfl
structure Sp3 where
  w : List Nat
  n : List Nat
  b : Bool
def Sp3.d (s : Sp3) : D := .tup [.str s.w, .str s.n, .bl s.b]
def isDp (t : List Nat) : Bool := tk1 t == [43]
def restOf (t : List Nat) : List Nat := if isDp t then dr1 t else t
def okW (p : List Nat) : Bool := p == [42] || isWord p
def okN (q : List Nat) : Bool := q == [42] || isNameL q
def star (p : List Nat) : List Nat := if p = [42] then [] else p
def partsL (dp : Bool) (ps : List (List Nat)) : Option Sp3 := match ps with
  | [p, q] => if okW p && okN q then some ⟨star p, star q, dp⟩ else none
  | _ => none
def readStepL (t : List Nat) : Option Sp3 := partsL (isDp t) (splitL 58 (restOf t))
theorem rest_len {t : List Nat} : (restOf t).length ≤ t.length ∧ ∀ c ∈ restOf t, c ∈ t := by
  unfold restOf dr1
  split
  · exact ⟨by simp, fun c hc => List.mem_of_mem_drop hc⟩
  · exact ⟨Nat.le_refl _, fun c hc => hc⟩
theorem read_step_str {t whole : List Nat} {M : Mem} (h : t.length ≤ 10000) : r_read_step [.str t, .str whole] M = match readStepL t with
    | some s => .ok s.d M
    | none => .exc 2 [.str whole] M := by
  have hr := (rest_len (t := t)).1
  have hk := kSplit1 (M := M) (l := restOf t) (c := 58) (by decide) (by omega)
  have e1 := gSl_to (M := M) (l := t) (by omega)
  have e2 := gSl_from (M := M) (l := t) (by omega)
  have hq : ∀ q ∈ splitL 58 (restOf t), q.length ≤ 1000000 := fun q hq => by
    have := (split_has hq).1
    omega
  have hx : (if isDp t = true then (Res.ok (D.str (dr1 t)) M : Res D) else .ok (.str t) M) = .ok (.str (restOf t)) M := by
    unfold restOf
    split <;> rfl
  have hd : (tk1 t == [43]) = isDp t := rfl
  unfold r_read_step b_read_step
  rw [runDef_ap]
  unfold readStepL splitL
  unfold splitL at hq
  generalize isDp t = dp at *
  generalize TL.spl [58] 0 [] (restOf t) = ps at *
  match ps, hq with
  | [], _ => simp [e1, e2, hd, hx, hk, partsL]
  | [p], _ => simp [e1, e2, hd, hx, hk, partsL]
  | p :: q :: r :: s, _ =>
    have : ¬ ((s.length : Int) + 1 + 1 + 1 = 2) := by omega
    simp [e1, e2, hd, hx, hk, partsL, this]
  | [p, q], hq =>
    have hn := is_name_str (l := q) (M := M) (hq q (by simp))
    by_cases h1 : p = [42] <;> by_cases h2 : q = [42] <;> cases h3 : isWord p <;> cases h4 : isNameL q <;> simp [e1, e2, hd, hx, hk, partsL, hn, gIn_W, h1, h2, h3, h4, okW, okN, star, Sp3.d]
end K33

set_option maxRecDepth 100000
set_option maxHeartbeats 1000000
namespace K33
open PySem PySem.Spec PyProof.Rows L2 MT
def allS : List (List Nat) → Option (List Sp3)
  | [] => some []
  | p :: ps => match readStepL p with
    | some s => (allS ps).map (s :: ·)
    | none => none
theorem allS_len : ∀ {ps : List (List Nat)} {ss : List Sp3}, allS ps = some ss → ss.length = ps.length
  | [], ss, h => by simp [allS] at h; subst h; rfl
  | p :: ps, ss, h => by
    simp only [allS] at h
    split at h
    · simp only [Option.map_eq_some_iff] at h
      obtain ⟨r, h1, rfl⟩ := h
      simp [allS_len h1]
    · cases h
def patU (l : List Nat) : Option (List Sp3) := match allS (splitL 47 l) with
  | some ss => if ss.length ≤ 6 then some ss else none
  | none => none
theorem runC_pats {M : Mem} {σ : Slots} {g : DGt} {m : DM} {k : Nat} {fs : List D} : ∀ {ps : List (List Nat)}, (∀ p ∈ ps, ∃ σ', g (D.str p) σ M = some (σ', M) ∧ m σ' M = match readStepL p with
    | some s => .ok s.d M
    | none => .exc k fs M) → runC g tTrue m (fun _ => True) (ps.map D.str) σ M = match allS ps with
    | some ss => .ok (ss.map Sp3.d) M
    | none => .exc k fs M
  | [], _ => by simp [runC, allS]
  | p :: ps, h => by
    obtain ⟨σ', h1, h2⟩ := h p List.mem_cons_self
    have ih := runC_pats (k := k) (fs := fs) fun q hq => h q (List.mem_cons_of_mem _ hq)
    simp only [List.map_cons, runC, if_true, h1, tTrue_ap, h2, allS]
    cases readStepL p with
    | none => rfl
    | some s =>
      simp only [bind_ok, ih]
      cases allS ps <;> rfl
theorem read_pattern_str {l : List Nat} {M : Mem} (h : l.length ≤ 10000) : r_read_pattern [.str l] M = match patU l with
    | some ss => .ok (.tup (ss.map Sp3.d)) M
    | none => .exc 2 [.str l] M := by
  have hk := kSplit1 (M := M) (l := l) (c := 47) (by decide) (by omega)
  have hc : runC (gtName 2) tTrue (mCall 2 r_read_step (aCons (mVar 2) (aCons (mVar 0) (aNil)))) (fun _ => True) ((splitL 47 l).map D.str) [some (.str l), none, none] M = match allS (splitL 47 l) with
      | some ss => .ok (ss.map Sp3.d) M
      | none => .exc 2 [.str l] M := by
    refine runC_pats fun p hp => ⟨_, rfl, ?_⟩
    have := (split_has hp).1
    simp [read_step_str (t := p) (whole := l) (M := M) (by omega)]
    all_goals rfl
  have hf : ∀ {x : Res D}, few ((splitL 47 l).map D.str) x = x := fun {x} => few_ok (by have := split_few (c := 47) (l := l); simp; omega)
  unfold r_read_pattern b_read_pattern
  rw [runDef_ap]
  unfold patU
  unfold splitL at *
  generalize TL.spl [47] 0 [] l = ps at *
  cases ha : allS ps with
  | none => rw [ha] at hc; simp [isTy, hk, wipeD, hf, hc]
  | some ss =>
    rw [ha] at hc
    by_cases h6 : ss.length ≤ 6
    · have : ¬ 6 < (ss.length : Int) := by omega
      simp [isTy, hk, wipeD, hf, hc, gTuple, h6, this]
    · have : 6 < (ss.length : Int) := by omega
      simp [isTy, hk, wipeD, hf, hc, gTuple, h6, this]
abbrev lrpW : D := .lst [(.str [42]), (.str [112, 97, 103, 101]), (.str [113, 117, 111, 116, 101]), (.str [108, 105, 115, 116]), (.str [105, 116, 101, 109]), (.str [104, 101, 97, 100]), (.str [114, 97, 119]), (.str [102, 101, 110, 99, 101]), (.str [112, 97, 114, 97]), (.str [108, 105, 110, 101]), (.str [112, 97, 105, 114]), (.str [116, 111, 114, 110]), (.str [116, 101, 120, 116])]
noncomputable def bLrp : DSt :=
  (sSeq (sSet 4 (mIf (tV (mOp gEq (mSl (mVar 3) (oNone) (oSome (mC (.int 1)))) (mC (.str [43])))) (mSl (mVar 3) (oSome (mC (.int 1))) (oNone)) (mVar 3)))
       (sSeq (sSet 5 (mMt "str" kSplit (mVar 4) (aCons (mC (.str [58])) aNil)))
       (sSeq (sIf (mOr (tV (mOp gNe (mB gLen (aCons (mVar 5) aNil)) (mC (.int 2)))) (mOr (tV (mOp (gIn true) (mOp gIx (mVar 5) (mC (.int 0))) (mVar 1))) (mAnd (tV (mOp gNe (mOp gIx (mVar 5) (mC (.int 1))) (mC (.str [42])))) (mNot (tV (mCall 1 r__law_is_name (aCons (mOp gIx (mVar 5) (mC (.int 1))) (aNil))))))))
        (sRet (mTup (aNil)))
        (sNil))
       (sSet 2 (mOp gAdd (mVar 2) (mTup (aCons (mTup (aCons (mIf (tV (mOp gNe (mOp gIx (mVar 5) (mC (.int 0))) (mC (.str [42])))) (mOp gIx (mVar 5) (mC (.int 0))) (mC (.str []))) (aCons (mIf (tV (mOp gNe (mOp gIx (mVar 5) (mC (.int 1))) (mC (.str [42])))) (mOp gIx (mVar 5) (mC (.int 1))) (mC (.str []))) (aCons (mOp gEq (mSl (mVar 3) (oNone) (oSome (mC (.int 1)))) (mC (.str [43]))) (aNil))))) (aNil))))))))
theorem gAdd_tup {M : Mem} {a b : List D} (h : a.length + b.length ≤ sizeLine) : gAdd M (.tup a) (.tup b) = some (.tup (a ++ b)) := if_pos h
theorem lrp_step {M : Mem} {t : List Nat} {x0 x4 x5 : Option D} {F : List D} (h : t.length ≤ 10000) (hv : ∀ c ∈ t, c < 1114112) (hF : F.length ≤ 100000) :
    bLrp [x0, some lrpW, some (.tup F), some (.str t), x4, x5] M = match readStepL t with
      | some s => .nx [x0, some lrpW, some (.tup (F ++ [s.d])), some (.str t), some (.str (restOf t)), some (.lst ((splitL 58 (restOf t)).map D.str))] M
      | none => .rt (.tup []) M := by
  have hr := (rest_len (t := t))
  have hk := kSplit1 (M := M) (l := restOf t) (c := 58) (by decide) (by omega)
  have e1 := gSl_to (M := M) (l := t) (by omega)
  have e2 := gSl_from (M := M) (l := t) (by omega)
  have hq : ∀ q ∈ splitL 58 (restOf t), q.length ≤ 1000000 ∧ ∀ c ∈ q, c < 1114112 := fun q hq => by
    have := split_has hq
    exact ⟨by omega, fun c hc => hv c (hr.2 c (this.2 c hc))⟩
  have hx : (if isDp t = true then (Res.ok (D.str (dr1 t)) M : Res D) else .ok (.str t) M) = .ok (.str (restOf t)) M := by
    unfold restOf
    split <;> rfl
  have hd : (tk1 t == [43]) = isDp t := rfl
  have hs : ∀ d : D, gAdd M (.tup F) (.tup [d]) = some (.tup (F ++ [d])) := fun d => gAdd_tup (sl (by simp; omega))
  unfold bLrp
  unfold readStepL splitL
  unfold splitL at hq
  generalize isDp t = dp at *
  generalize TL.spl [58] 0 [] (restOf t) = ps at *
  match ps, hq with
  | [], _ => simp [e1, e2, hd, hx, hk, partsL]
  | [p], _ => simp [e1, e2, hd, hx, hk, partsL]
  | p :: q :: r :: s, _ =>
    have : ¬ ((s.length : Int) + 1 + 1 + 1 = 2) := by omega
    simp [e1, e2, hd, hx, hk, partsL, this]
  | [p, q], hq =>
    have hn := law_is_name_str (l := q) (M := M) (hq q (by simp)).1 (hq q (by simp)).2
    by_cases h1 : p = [42] <;> by_cases h2 : q = [42] <;> cases h3 : isWord p <;> cases h4 : isNameL q <;> simp [e1, e2, hd, hx, hk, partsL, hn, gIn_W2, h1, h2, h3, h4, okW, okN, star, Sp3.d, hs]
theorem lrp_loop {M : Mem} {x0 : Option D} : ∀ (ps : List (List Nat)) (F : List D) (x3 x4 x5 : Option D), (∀ p ∈ ps, p.length ≤ 10000 ∧ ∀ c ∈ p, c < 1114112) → F.length + ps.length ≤ 100000 →
    (∀ ss, allS ps = some ss → ∃ y3 y4 y5, runFor (gtName 3) bLrp (fun _ => True) (ps.map D.str) [x0, some lrpW, some (.tup F), x3, x4, x5] M = .nx [x0, some lrpW, some (.tup (F ++ ss.map Sp3.d)), y3, y4, y5] M) ∧
    (allS ps = none → runFor (gtName 3) bLrp (fun _ => True) (ps.map D.str) [x0, some lrpW, some (.tup F), x3, x4, x5] M = .rt (.tup []) M)
  | [], F, x3, x4, x5, _, _ => by
    refine ⟨fun ss h => ?_, fun h => by simp [allS] at h⟩
    simp [allS] at h
    subst h
    exact ⟨x3, x4, x5, by simp [runFor]⟩
  | p :: ps, F, x3, x4, x5, hp, hl => by
    simp only [List.length_cons] at hl
    have st := lrp_step (M := M) (t := p) (x0 := x0) (x4 := x4) (x5 := x5) (F := F) (hp p List.mem_cons_self).1 (hp p List.mem_cons_self).2 (by omega)
    cases hs : readStepL p with
    | none =>
      rw [hs] at st
      refine ⟨fun ss h => by simp [allS, hs] at h, fun _ => by simp [runFor, st]⟩
    | some s =>
      rw [hs] at st
      obtain ⟨i1, i2⟩ := lrp_loop (M := M) (x0 := x0) ps (F ++ [s.d]) (some (.str p)) (some (.str (restOf p))) (some (.lst ((splitL 58 (restOf p)).map D.str))) (fun q hq => hp q (List.mem_cons_of_mem _ hq)) (by simp; omega)
      refine ⟨fun ss h => ?_, fun h => ?_⟩
      · simp only [allS, hs, Option.map_eq_some_iff] at h
        obtain ⟨r, h1, rfl⟩ := h
        obtain ⟨y3, y4, y5, e⟩ := i1 r h1
        exact ⟨y3, y4, y5, by simp [runFor, st, e]⟩
      · have h' : allS ps = none := by simpa [allS, hs] using h
        simp [runFor, st, i2 h']
theorem law_read_pattern_str {l : List Nat} {M : Mem} (h : l.length ≤ 10000) (hv : ∀ c ∈ l, c < 1114112) : r__law_read_pattern [.str l] M = .ok (match patU l with
    | some ss => .tup [.tup (ss.map Sp3.d)]
    | none => .tup []) M := by
  have hk := kSplit1 (M := M) (l := l) (c := 47) (by decide) (by omega)
  obtain ⟨l1, l2⟩ := lrp_loop (M := M) (x0 := some (.str l)) (splitL 47 l) [] none none none (fun p hp => by
    have := split_has hp
    exact ⟨by omega, fun c hc => hv c (this.2 c hc)⟩) (by have := split_few (c := 47) (l := l); simp; omega)
  unfold r__law_read_pattern b__law_read_pattern
  rw [runDef_ap]
  unfold patU
  unfold splitL at *
  generalize TL.spl [47] 0 [] l = ps at *
  cases ha : allS ps with
  | none =>
    have e := l2 ha
    unfold bLrp lrpW at e
    simp [hk, e]
  | some ss =>
    obtain ⟨y3, y4, y5, e⟩ := l1 ss ha
    unfold bLrp lrpW at e
    by_cases h6 : ss.length ≤ 6
    · have : (ss.length : Int) ≤ 6 := by omega
      simp [hk, e, h6, this]
    · have : ¬ (ss.length : Int) ≤ 6 := by omega
      simp [hk, e, h6, this]
end K33

set_option maxRecDepth 100000
set_option maxHeartbeats 1000000
namespace K33
open PySem PySem.Spec PyProof.Rows L2 MT
/-- the steps that are drawn -/
structure GoodS (s : Sp3) : Prop where
  w : s.w = [] ∨ s.w = [112, 97, 103, 101] ∨ s.w = [116, 101, 120, 116] ∨ s.w = [116, 111, 114, 110]
  n : s.n = [] ∨ s.n = [97, 110, 110] ∨ s.n = [97, 98, 99, 100, 101, 102, 103, 104]
def unst (p : List Nat) : List Nat := if p = [] then [42] else p
def stepW (s : Sp3) : List Nat := (if s.b then [43] else []) ++ unst s.w ++ [58] ++ unst s.n
theorem good_read {s : Sp3} (h : GoodS s) : readStepL (stepW s) = some s ∧ 47 ∉ stepW s ∧ (stepW s).length ≤ 14 ∧ (stepW s) ≠ [] ∧ ∀ c ∈ stepW s, c < 127 := by
  obtain ⟨w, n, b⟩ := s
  obtain ⟨hw, hn⟩ := h
  dsimp only at hw hn
  rcases hw with rfl | rfl | rfl | rfl <;> rcases hn with rfl | rfl | rfl <;> cases b <;> exact ⟨by rfl, by decide, by decide, by decide, by decide⟩
theorem is_row3 {a b c : D} {M : Mem} : r_is_row [.tup [a, b, c], .int 3] M = .ok (.bl true) M := by
  unfold r_is_row b_is_row
  rw [runDef_ap]
  simp [isTy]
theorem good_is {s : Sp3} (h : GoodS s) {M : Mem} : r_is_step [s.d] M = .ok (.bl true) M := by
  obtain ⟨w, n, b⟩ := s
  obtain ⟨hw, hn⟩ := h
  dsimp only at hw hn
  have h2 : w = [] ∨ isWord w = true := by rcases hw with rfl | rfl | rfl | rfl <;> decide
  have h3 : r_is_name [.str n] M = .ok (.bl (isNameL n)) M := is_name_str (by rcases hn with rfl | rfl | rfl <;> decide)
  have h4 : n = [] ∨ isNameL n = true := by rcases hn with rfl | rfl | rfl <;> decide
  unfold r_is_step b_is_step Sp3.d
  rw [runDef_ap]
  rcases h2 with h2 | h2 <;> rcases h4 with h4 | h4 <;> by_cases e1 : w = [] <;> by_cases e2 : n = [] <;> simp_all [is_row3, isTy, gIn_W]
theorem good_text {s : Sp3} (h : GoodS s) {M : Mem} : r_step_text [s.d] M = .ok (.str (stepW s)) M := by
  obtain ⟨w, n, b⟩ := s
  obtain ⟨hw, hn⟩ := h
  dsimp only at hw hn
  have lw : w.length ≤ 10 := by rcases hw with rfl | rfl | rfl | rfl <;> decide
  have ln : n.length ≤ 10 := by rcases hn with rfl | rfl | rfl <;> decide
  have ga : ∀ a b : List Nat, a.length ≤ 100 → b.length ≤ 100 → gAdd M (.str a) (.str b) = some (.str (a ++ b)) := fun a b h1 h2 => gAdd_str (sl (by omega))
  unfold r_step_text b_step_text Sp3.d stepW unst
  rw [runDef_ap]
  by_cases e1 : w = [] <;> by_cases e2 : n = [] <;> cases b <;> simp [e1, e2, ga, lw, ln, show w.length ≤ 100 by omega, show n.length ≤ 100 by omega, show w.length + 1 ≤ 100 by omega, show w.length + 1 + 1 ≤ 100 by omega]
theorem is_pattern_ok {ss : List Sp3} (h : ∀ s ∈ ss, GoodS s) (h1 : 1 ≤ ss.length) (h6 : ss.length ≤ 6) {M : Mem} : r_is_pattern [.tup (ss.map Sp3.d)] M = .ok (.bl true) M := by
  have hc : runC (gtName 1) tTrue (mCall 1 r_is_step (aCons (mVar 1) (aNil))) (fun _ => True) (ss.map Sp3.d) [some (.tup (ss.map Sp3.d)), none] M = .ok (ss.map fun s => .bl true) M := by
    refine runC_maps trivial fun s hs => ⟨_, rfl, rfl, ?_⟩
    simp [good_is (h s hs)]
  have hf : ∀ {x : Res D}, few (ss.map Sp3.d) x = x := fun {x} => few_ok (by simp; omega)
  have hga := gAll_map (M := M) ss fun _ => true
  have hall : (ss.all fun _ => true) = true := by simp
  rw [hall] at hga
  have i1 : (1 : Int) ≤ ss.length := by omega
  have i6 : (ss.length : Int) ≤ 6 := by omega
  unfold r_is_pattern b_is_pattern
  rw [runDef_ap]
  simp [isTy, wipeD, hf, hc, hga, i1, i6]
def patW (ss : List Sp3) : List Nat := TL.joinL [47] (ss.map stepW)
theorem join_steps {ss : List Sp3} (h : ∀ s ∈ ss, GoodS s) (h6 : ss.length ≤ 6) {M : Mem} : kJoin M (.str [47]) [.lst (ss.map fun s => D.str (stepW s))] = some (.str (patW ss), M) := by
  refine kJoin_map ss stepW ?_
  have : ∀ ss : List Sp3, (∀ s ∈ ss, GoodS s) → ((ss.map stepW).map List.length).sum ≤ 14 * ss.length := by
    intro ss
    induction ss with
    | nil => intro _; simp
    | cons s ss ih =>
      intro h
      have := ih fun x hx => h x (List.mem_cons_of_mem _ hx)
      have := (good_read (h s List.mem_cons_self)).2.2.1
      simp only [List.map_cons, List.sum_cons, List.length_cons]
      omega
  have := this ss h
  simp only [List.length_singleton]
  omega
theorem pattern_text_ok {ss : List Sp3} (h : ∀ s ∈ ss, GoodS s) (h1 : 1 ≤ ss.length) (h6 : ss.length ≤ 6) {M : Mem} : r_pattern_text [.tup (ss.map Sp3.d)] M = .ok (.str (patW ss)) M := by
  have hn : r_need_pattern [.tup (ss.map Sp3.d)] M = .ok .non M := by
    unfold r_need_pattern b_need_pattern
    rw [runDef_ap]
    simp [is_pattern_ok h h1 h6]
  have hc : runC (gtName 1) tTrue (mCall 1 r_step_text (aCons (mVar 1) (aNil))) (fun _ => True) (ss.map Sp3.d) [some (.tup (ss.map Sp3.d)), none] M = .ok (ss.map fun s => .str (stepW s)) M := by
    refine runC_maps trivial fun s hs => ⟨_, rfl, rfl, ?_⟩
    simp [good_text (h s hs)]
  have hf : ∀ {x : Res D}, few (ss.map Sp3.d) x = x := fun {x} => few_ok (by simp; omega)
  unfold r_pattern_text b_pattern_text
  rw [runDef_ap]
  simp [hn, wipeD, hf, hc, join_steps h h6]
theorem patU_W {ss : List Sp3} (h : ∀ s ∈ ss, GoodS s) (h1 : 1 ≤ ss.length) (h6 : ss.length ≤ 6) : patU (patW ss) = some ss := by
  have hs : splitL 47 (patW ss) = ss.map stepW := by
    refine TL.spl_join (by intro z; simp at z; subst z; simp at h1) fun p hp => ?_
    obtain ⟨s, hs, rfl⟩ := List.mem_map.mp hp
    exact (good_read (h s hs)).2.1
  have ha : allS (ss.map stepW) = some ss := by
    clear hs h1 h6
    induction ss with
    | nil => rfl
    | cons s ss ih =>
      simp only [List.map_cons, allS, (good_read (h s List.mem_cons_self)).1, ih fun x hx => h x (List.mem_cons_of_mem _ hx)]
      rfl
  unfold patU
  rw [hs, ha]
  simp [h6]
theorem joinL_has {S : List Nat} {c : Nat} : ∀ {ls : List (List Nat)}, c ∈ TL.joinL S ls → c ∈ S ∨ ∃ l ∈ ls, c ∈ l
  | [], h => by simp [TL.joinL] at h
  | [p], h => by simp [TL.joinL] at h; exact .inr ⟨p, by simp, h⟩
  | p :: q :: r, h => by
    simp only [TL.joinL, List.mem_append] at h
    rcases h with h | h | h
    · exact .inr ⟨p, by simp, h⟩
    · exact .inl h
    · rcases joinL_has h with z | ⟨l, hl, hc⟩
      · exact .inl z
      · exact .inr ⟨l, List.mem_cons_of_mem _ hl, hc⟩
theorem joinL_len {S : List Nat} : ∀ {ls : List (List Nat)}, (TL.joinL S ls).length ≤ (ls.map List.length).sum + ls.length * S.length
  | [] => by simp [TL.joinL]
  | [p] => by simp [TL.joinL]
  | p :: q :: r => by
    have := joinL_len (S := S) (ls := q :: r)
    simp only [TL.joinL, List.length_append, List.map_cons, List.sum_cons, List.length_cons] at this ⊢
    have e : (r.length + 1 + 1) * S.length = (r.length + 1) * S.length + S.length := by rw [Nat.add_mul, Nat.one_mul]
    omega
theorem patW_ok {ss : List Sp3} (h : ∀ s ∈ ss, GoodS s) (h6 : ss.length ≤ 6) : (patW ss).length ≤ 100 ∧ ∀ c ∈ patW ss, c < 127 := by
  constructor
  · have h1 := joinL_len (S := [47]) (ls := ss.map stepW)
    have : ∀ ss : List Sp3, (∀ s ∈ ss, GoodS s) → ((ss.map stepW).map List.length).sum ≤ 14 * ss.length := by
      intro ss
      induction ss with
      | nil => intro _; simp
      | cons s ss ih =>
        intro h
        have := ih fun x hx => h x (List.mem_cons_of_mem _ hx)
        have := (good_read (h s List.mem_cons_self)).2.2.1
        simp only [List.map_cons, List.sum_cons, List.length_cons]
        omega
    have := this ss h
    simp only [List.length_map, List.length_singleton] at h1
    unfold patW
    omega
  · intro c hc
    rcases joinL_has hc with z | ⟨l, hl, hc⟩
    · rw [List.mem_singleton.mp z]; decide
    · obtain ⟨s, hs, rfl⟩ := List.mem_map.mp hl
      exact (good_read (h s hs)).2.2.2.2 c hc
theorem pathW_ok {ns : List Nat} (h : ∀ n ∈ ns, P5 n) (h6 : ns.length ≤ 6) : (pathW ns).length ≤ 100 ∧ ∀ c ∈ pathW ns, c < 127 := by
  unfold pathW
  by_cases hn : ns = []
  · rw [if_pos hn]; decide
  · rw [if_neg hn]
    constructor
    · have h1 := joinL_len (S := [47]) (ls := ns.map fun n : Nat => digits n)
      have : ∀ ns : List Nat, (∀ n ∈ ns, P5 n) → ((ns.map fun n : Nat => digits n).map List.length).sum ≤ 4 * ns.length := by
        intro ns
        induction ns with
        | nil => intro _; simp
        | cons n ns ih =>
          intro h
          have := ih fun x hx => h x (List.mem_cons_of_mem _ hx)
          have := (p5_facts (h n List.mem_cons_self)).2.2.2.1
          simp only [List.map_cons, List.sum_cons, List.length_cons]
          omega
      have := this ns h
      simp only [List.length_map, List.length_singleton] at h1
      omega
    · intro c hc
      rcases joinL_has hc with z | ⟨l, hl, hc⟩
      · rw [List.mem_singleton.mp z]; decide
      · obtain ⟨s, hs, rfl⟩ := List.mem_map.mp hl
        exact (p5_facts (h s hs)).2.2.2.2 c hc
theorem pathW_len {ns : List Nat} (h : ∀ n ∈ ns, P5 n) (h6 : ns.length ≤ 6) : (pathW ns).length ≤ 90 := by
  unfold pathW
  by_cases hn : ns = []
  · rw [if_pos hn]; decide
  · rw [if_neg hn]
    have h1 := joinL_len (S := [47]) (ls := ns.map fun n : Nat => digits n)
    have : ∀ ns : List Nat, (∀ n ∈ ns, P5 n) → ((ns.map fun n : Nat => digits n).map List.length).sum ≤ 4 * ns.length := by
      intro ns
      induction ns with
      | nil => intro _; simp
      | cons n ns ih =>
        intro h
        have := ih fun x hx => h x (List.mem_cons_of_mem _ hx)
        have := (p5_facts (h n List.mem_cons_self)).2.2.2.1
        simp only [List.map_cons, List.sum_cons, List.length_cons]
        omega
    have := this ns h
    simp only [List.length_map, List.length_singleton] at h1
    omega
theorem patW_len {ss : List Sp3} (h : ∀ s ∈ ss, GoodS s) (h6 : ss.length ≤ 6) : (patW ss).length ≤ 90 := by
  have h1 := joinL_len (S := [47]) (ls := ss.map stepW)
  have : ∀ ss : List Sp3, (∀ s ∈ ss, GoodS s) → ((ss.map stepW).map List.length).sum ≤ 14 * ss.length := by
    intro ss
    induction ss with
    | nil => intro _; simp
    | cons s ss ih =>
      intro h
      have := ih fun x hx => h x (List.mem_cons_of_mem _ hx)
      have := (good_read (h s List.mem_cons_self)).2.2.1
      simp only [List.map_cons, List.sum_cons, List.length_cons]
      omega
  have := this ss h
  simp only [List.length_map, List.length_singleton] at h1
  unfold patW
  omega
end K33

set_option maxRecDepth 100000
set_option maxHeartbeats 1000000
namespace K33
open PySem PySem.Spec PyProof.Rows L2 MT
/-! ### texts of data -/
mutual
def szD : D → Nat
  | .str l => 10 * l.length + 2
  | .int _ => 20
  | .tup ds => szL ds + 3
  | .lst ds => szL ds + 3
  | _ => 2000
def szL : List D → Nat
  | [] => 0
  | d :: ds => szD d + 2 + szL ds
end
mutual
def dpD : D → Nat
  | .tup ds => dpL ds + 1
  | .lst ds => dpL ds + 1
  | _ => 0
def dpL : List D → Nat
  | [] => 0
  | d :: ds => max (dpD d) (dpL ds)
end
mutual
def okD : D → Prop
  | .non => True
  | .bl _ => True
  | .int i => i.natAbs < 10 ^ 12
  | .str l => ∀ c ∈ l, c < 16 ^ 8
  | .flt b => (Str.ofString (Float64.repr b)).length ≤ 2000
  | .tup ds => okL ds
  | .lst ds => okL ds
  | _ => False
def okL : List D → Prop
  | [] => True
  | d :: ds => okD d ∧ okL ds
end
theorem list_len (ts : List Str) : (listText ts).length ≤ piled ts + 3 := by
  unfold listText
  rw [strLen_append]
  have e : ((("]" : String) : Str)).length = 1 := rfl
  rw [e]
  cases ts with
  | nil => show (("[" : Str)).length + 1 ≤ _; decide
  | cons t r =>
    show (textFrom 1 (("[" : Str) ++ (if 0 > 0 then ", " else "" : String) ++ t) r).length + 1 ≤ _
    rw [textFrom_length_pos _ _ _ (by decide), strLen_append, strLen_append, piled_cons]
    have e1 : ((("[" : String) : Str)).length = 1 := rfl
    have e2 : (((if 0 > 0 then ", " else "" : String) : Str)).length = 0 := rfl
    rw [e1, e2]
    omega
theorem tuple_len (ts : List Str) : (tupleText ts).length ≤ piled ts + 3 := by
  unfold tupleText
  rw [strLen_append, strLen_append]
  have e1 : ((("(" : String) : Str)).length = 1 := rfl
  have e3 : (((if ts.length == 1 then ",)" else ")" : String) : Str)).length ≤ 2 := by split <;> decide
  rw [e1]
  by_cases h : ts = []
  · subst h
    have : (Str.join ", " []).length = 0 := rfl
    omega
  · have := join_length_add ts h
    omega
mutual
theorem sh_ok : ∀ (d : D), okD d → szD d ≤ 16000000 → ∃ t, shD d = some (t, dpD d) ∧ t.length ≤ szD d
  | .non, _, _ => ⟨_, rfl, by decide⟩
  | .bl b, _, _ => ⟨_, rfl, by cases b <;> decide⟩
  | .int i, h, _ => by
    have h1 : i.natAbs < 10 ^ 12 := h
    have h' : i.natAbs.log2 < 1920 := by
      by_cases h0 : i.natAbs = 0
      · rw [h0]; decide
      · exact (Nat.log2_lt h0).mpr (Nat.lt_of_lt_of_le h1 (Nat.le_of_lt (by decide)))
    refine ⟨_, by simp only [shD, if_pos h']; rfl, ?_⟩
    have := PySem.int_text_length_le10 (by decide) h1
    show _ ≤ 20
    rw [PySem.ofString_length]
    omega
  | .str l, h, hz => by
    have h' : ∀ c ∈ l, c < 16 ^ 8 := h
    have hl := PySem.StrLaws.reprText_len (txt l) h'
    have e : (txt l).length = l.length := by show l.toArray.size = _; simp
    rw [e] at hl
    have hz' : 10 * l.length + 2 ≤ 16000000 := hz
    have hs : (reprText (txt l)).length ≤ sizeLine := by rw [sizeLine_eq]; omega
    exact ⟨_, by simp only [shD, if_pos hs]; rfl, hl⟩
  | .flt b, h, _ => by
    have h' : (Str.ofString (Float64.repr b)).length ≤ 2000 := h
    have hs : (Str.ofString (Float64.repr b)).length ≤ sizeLine := by rw [sizeLine_eq]; omega
    exact ⟨_, by simp only [shD, if_pos hs]; rfl, h'⟩
  | .tup ds, h, hz => by
    have hz' : szL ds + 3 ≤ 16000000 := hz
    obtain ⟨ts, e, hl⟩ := shl_ok ds h (by omega)
    refine ⟨tupleText ts, by simp only [shD, e]; rfl, ?_⟩
    have := tuple_len ts
    show _ ≤ szL ds + 3
    omega
  | .lst ds, h, hz => by
    have hz' : szL ds + 3 ≤ 16000000 := hz
    obtain ⟨ts, e, hl⟩ := shl_ok ds h (by omega)
    refine ⟨listText ts, by simp only [shD, e]; rfl, ?_⟩
    have := list_len ts
    show _ ≤ szL ds + 3
    omega
  | .dic _ _, h, _ => h.elim
  | .obj _, h, _ => h.elim
  | .ins _ _, h, _ => h.elim
  | .scr _, h, _ => h.elim
  | .clo _ _, h, _ => h.elim
  | .lam _, h, _ => h.elim
  | .exn _ _, h, _ => h.elim
theorem shl_ok : ∀ (ds : List D), okL ds → szL ds ≤ 16000000 → ∃ ts, shL ds = some (ts, dpL ds) ∧ piled ts ≤ szL ds
  | [], _, _ => ⟨[], rfl, by decide⟩
  | d :: ds, h, hz => by
    have hz' : szD d + 2 + szL ds ≤ 16000000 := hz
    have h' : okD d ∧ okL ds := h
    obtain ⟨t, e1, l1⟩ := sh_ok d h'.1 (by omega)
    obtain ⟨ts, e2, l2⟩ := shl_ok ds h'.2 (by omega)
    refine ⟨t :: ts, by simp only [shL, e1, e2]; rfl, ?_⟩
    rw [piled_cons]
    show _ ≤ szD d + 2 + szL ds
    omega
end
theorem repr_ok {ds : List D} {M : Mem} (hn : ds ≠ []) (h : okL ds) (hz : szL ds ≤ 16000000) (hd : dpL ds ≤ 40) : ∃ s, gRepr M [.lst ds] = some (.str s) := by
  obtain ⟨ts, e, hl⟩ := shl_ok ds h hz
  have hs : (listText ts).length ≤ sizeLine := by have := list_len ts; rw [sizeLine_eq]; omega
  obtain ⟨d, r, rfl⟩ := List.exists_cons_of_ne_nil hn
  refine ⟨(listText ts).cps.toList, ?_⟩
  unfold gRepr
  simp only [e]
  rw [if_pos ⟨hs, hd⟩]
theorem same_ok {ds : List D} {M : Mem} (hn : ds ≠ []) (h : okL ds) (hz : szL ds ≤ 16000000) (hd : dpL ds ≤ 40) : r__law_same [.lst ds, .lst ds] M = .ok (.bl true) M := by
  obtain ⟨s, e⟩ := repr_ok (M := M) hn h hz hd
  unfold r__law_same b__law_same
  rw [runDef_ap]
  simp [e]
/-! ### refusals -/
abbrev badNum : D := .str [66, 97, 100, 78, 117, 109, 98, 101, 114]
theorem refusal_ok {v : D} {M : Mem} (hv : noExn v = true) (hM : M.all (inO noExnL) = true) : r__law_refusal 2 [v] M = .ok (.tup [badNum, v]) M := by
  have key : b__law_refusal ([some (.exn 2 [v])] ++ List.replicate (4 - 1) none) M = .rt (.tup [badNum, v]) M := by
    unfold b__law_refusal
    simp [sub_BadPart, sub_BadNumber, sub_Unknown, sub_BadPlace, sub_BadChange, sub_BadText, sub_BadLine, sub_BadClaim, sub_NothingDone, sub_ValueError, kCount, kIndex, cntF, idxF, eqF, flatD, okR, fldT]
  unfold r__law_refusal runRef
  rw [key]
  have : noExn (.tup [badNum, v]) = true := by simp [noExn, noExnL, hv]
  simp [this, hM]
end K33

set_option maxRecDepth 100000
set_option maxHeartbeats 1000000
namespace K33
open PySem PySem.Spec PyProof.Rows L2 MT
/-! ### data without functions -/
mutual
def pl : D → Bool
  | .non => true
  | .bl _ => true
  | .int _ => true
  | .str _ => true
  | .flt _ => true
  | .obj _ => true
  | .scr _ => true
  | .tup ds => plL ds
  | .lst ds => plL ds
  | _ => false
def plL : List D → Bool
  | [] => true
  | d :: ds => pl d && plL ds
end
mutual
theorem pl_conv (cap : Nat → Option (List D)) : ∀ d : D, pl d = true → convD cap d = some d
  | .non, _ => rfl
  | .bl _, _ => rfl
  | .int _, _ => rfl
  | .str _, _ => rfl
  | .flt _, _ => rfl
  | .obj _, _ => rfl
  | .scr _, _ => rfl
  | .tup ds, h => by simp only [convD, plL_conv cap ds h]; rfl
  | .lst ds, h => by simp only [convD, plL_conv cap ds h]; rfl
  | .dic _ _, h => by cases h
  | .ins _ _, h => by cases h
  | .clo _ _, h => by cases h
  | .lam _, h => by cases h
  | .exn _ _, h => by cases h
theorem plL_conv (cap : Nat → Option (List D)) : ∀ ds : List D, plL ds = true → convL cap ds = some ds
  | [], _ => rfl
  | d :: ds, h => by
    have h' : pl d = true ∧ plL ds = true := Bool.and_eq_true_iff.mp h
    simp only [convL, pl_conv cap d h'.1, plL_conv cap ds h'.2]
    rfl
end
mutual
theorem pl_clo : ∀ d : D, pl d = true → noClo d = true ∧ noLam d = true ∧ noExn d = true
  | .non, _ => ⟨rfl, rfl, rfl⟩
  | .bl _, _ => ⟨rfl, rfl, rfl⟩
  | .int _, _ => ⟨rfl, rfl, rfl⟩
  | .str _, _ => ⟨rfl, rfl, rfl⟩
  | .flt _, _ => ⟨rfl, rfl, rfl⟩
  | .obj _, _ => ⟨rfl, rfl, rfl⟩
  | .scr _, _ => ⟨rfl, rfl, rfl⟩
  | .tup ds, h => plL_clo ds h
  | .lst ds, h => plL_clo ds h
  | .dic _ _, h => by cases h
  | .ins _ _, h => by cases h
  | .clo _ _, h => by cases h
  | .lam _, h => by cases h
  | .exn _ _, h => by cases h
theorem plL_clo : ∀ ds : List D, plL ds = true → noCloL ds = true ∧ noLamL ds = true ∧ noExnL ds = true
  | [], _ => ⟨rfl, rfl, rfl⟩
  | d :: ds, h => by
    have h' : pl d = true ∧ plL ds = true := Bool.and_eq_true_iff.mp h
    obtain ⟨a1, a2, a3⟩ := pl_clo d h'.1
    obtain ⟨b1, b2, b3⟩ := plL_clo ds h'.2
    simp only [noCloL, noLamL, noExnL, a1, a2, a3, b1, b2, b3]
    exact ⟨rfl, rfl, rfl⟩
end
theorem plL_mem {ds : List D} : plL ds = true ↔ ∀ d ∈ ds, pl d = true := by
  induction ds with
  | nil => simp [plL]
  | cons d ds ih => simp [plL, ih]
theorem rowM_all {M : Mem} (h : RowM M) : M.all (inO noCloL) = true ∧ M.all (inO noLamL) = true ∧ M.all (inO noExnL) = true ∧ M.all (belowO M.length) = true ∧ M.length = 1 := by
  obtain ⟨ns, i, j, k, rfl, _⟩ := h
  exact ⟨rfl, rfl, rfl, rfl, rfl⟩
def callL (np : Nat) (r : List D → Mem → Res D) (cap : Nat → Option (List D)) (ds : List D) (M : Mem) : Res D := match convL cap ds with
  | some es => if es.length = np ∧ M.all (inO noLamL) = true then clean noClo (r es M) else .stuck
  | none => .stuck
@[simp] theorem mCallL_ap {np : Nat} {r : List D → Mem → Res D} {ks : List Nat} {js : Nat → List Nat} {a : DA} {σ : Slots} {M : Mem} : mCallL np r ks js a σ M = (a σ M).bind fun ds M1 => callL np r (capF σ ks js) ds M1 := nr rfl
theorem callL_ok {np : Nat} {r : List D → Mem → Res D} {cap : Nat → Option (List D)} {ds : List D} {M M' : Mem} {d : D} (hp : plL ds = true) (hl : ds.length = np) (hM : RowM M) (e : r ds M = .ok d M') (hd : pl d = true) (hM' : RowM M') : callL np r cap ds M = .ok d M' := by
  unfold callL
  rw [plL_conv cap ds hp]
  dsimp only
  rw [if_pos ⟨hl, (rowM_all hM).2.1⟩, e]
  unfold clean
  dsimp only
  rw [if_pos ⟨(pl_clo d hd).1, (rowM_all hM').1⟩]
/-- a call that is handed a lambda -/
theorem callL_lam {r : List D → Mem → Res D} {cap : Nat → Option (List D)} {k : Nat} {caps : List D} {M M' : Mem} {d : D} (hc : cap k = some caps) (hM : RowM M) (e : r [.clo k caps] M = .ok d M') (hd : pl d = true) (hM' : RowM M') : callL 1 r cap [.lam k] M = .ok d M' := by
  unfold callL
  have : convL cap [.lam k] = some [.clo k caps] := by simp [convL, convD, hc]
  rw [this]
  dsimp only
  rw [if_pos ⟨rfl, (rowM_all hM).2.1⟩, e]
  unfold clean
  dsimp only
  rw [if_pos ⟨(pl_clo d hd).1, (rowM_all hM').1⟩]
/-! ### told -/
abbrev sTold' : List Nat := [116, 111, 108, 100]
theorem mClo_ap {S : List Nat} {i k : Nat} {caps : List D} {σ : Slots} {M : Mem} (h : σ[i]? = some (some (.clo k caps))) (hk : k ∈ S) (hc : noCloL caps = true) (hM : M.all (inO noCloL) = true) : mClo S 0 crun i aNil σ M = crun k caps [] M := by
  unfold mClo
  rw [h]
  dsimp only
  rw [if_pos hk]
  simp [noCloL, hc]
  intro x hx hf
  rw [List.all_eq_true.mp hM x hx] at hf
  cases hf
theorem told_ok {k : Nat} {caps : List D} {d : D} {M : Mem} (hk : k ∈ lamS) (hc : noCloL caps = true) (hM : RowM M) (e : crun k caps [] M = .ok d M) : r__law_told [.clo k caps] M = .ok (.tup [.str sTold', d]) M := by
  have e2 : mClo lamS 0 crun 0 aNil [some (.clo k caps), none] M = .ok d M := by rw [mClo_ap rfl hk hc (rowM_all hM).1, e]
  unfold r__law_told b__law_told
  rw [runDef_ap]
  unfold sTold
  simp [e2]
theorem told_exc {k : Nat} {caps : List D} {v : D} {M : Mem} (hk : k ∈ lamS) (hc : noCloL caps = true) (hM : RowM M) (hv : pl v = true) (e : crun k caps [] M = .exc 2 [v] M) : r__law_told [.clo k caps] M = .ok (.tup [badNum, v]) M := by
  have e2 : mClo lamS 0 crun 0 aNil [some (.clo k caps), none] M = .exc 2 [v] M := by rw [mClo_ap rfl hk hc (rowM_all hM).1, e]
  have e3 := refusal_ok (v := v) (M := M) (pl_clo v hv).2.2 (rowM_all hM).2.2.1
  unfold r__law_told b__law_told
  rw [runDef_ap]
  unfold sTold
  simp [e2, cat_MarkError, e3]
/-! ### marks -/
def okm (c : Nat) : Prop := 33 ≤ c ∧ c ≤ 126
def LineOk (d : D) : Prop := ∃ c n w, d = .tup [.str [c], .str n, .str w] ∧ okm c
def PairOk (d : D) : Prop := ∃ c e n w, d = .tup [.str [c], .str [e], .str n, .str w] ∧ okm c ∧ okm e
theorem gAdd_lst {M : Mem} {a b : List D} (h : a.length + b.length ≤ 1000000) : gAdd M (.lst a) (.lst b) = some (.lst (a ++ b)) := by
  show (match asLst M (.lst a), asLst M (.lst b) with | some a, some b => if a.length + b.length ≤ sizeLine then some (D.lst (a ++ b)) else none | _, _ => none) = _
  simp only [asLst]
  rw [if_pos (sl h)]
theorem fm {x : Int} (n : Nat) (h : 0 < n) : ∃ j : Nat, x.fmod n = j ∧ j < n := by
  obtain ⟨h1, h2⟩ := emod_rng (x := x) (a := n) (by omega)
  exact ⟨(x.fmod n).toNat, by omega, by omega⟩
theorem runFor_invN {g : DGt} {ok : Mem → Prop} {b : DSt} {Inv : Nat → Slots → Mem → Prop} : ∀ {items : List D} {k : Nat} {σ : Slots} {M : Mem}, (∀ i σ M, Inv i σ M → ok M) → (∀ i d, items[i]? = some d → ∀ σ M, Inv (k + i) σ M → ∃ σ1 M1, g d σ M = some (σ1, M1) ∧ ∃ σ2 M2, b σ1 M1 = .nx σ2 M2 ∧ Inv (k + i + 1) σ2 M2) → Inv k σ M →
    ∃ σ' M', runFor g b ok items σ M = .nx σ' M' ∧ Inv (k + items.length) σ' M'
  | [], k, σ, M, ho, _, hi => ⟨σ, M, by simp only [runFor, if_pos (ho k σ M hi)], hi⟩
  | d :: ds, k, σ, M, ho, hd, hi => by
    obtain ⟨σ1, M1, h1, σ2, M2, h2, h3⟩ := hd 0 d rfl σ M hi
    obtain ⟨σ', M', e1, e2⟩ := runFor_invN (k := k + 1) (items := ds) ho (fun i e he σ M hh => by
      have := hd (i + 1) e (by simpa using he) σ M (by rw [show k + (i + 1) = k + 1 + i by omega]; exact hh)
      rw [show k + (i + 1) + 1 = k + 1 + i + 1 by omega] at this
      exact this) (by simpa using h3)
    exact ⟨σ', M', by simp only [runFor, if_pos (ho k σ M hi), h1, h2, e1], by rw [List.length_cons, show k + (ds.length + 1) = k + 1 + ds.length by omega]; exact e2⟩
abbrev waysD : List D := [(.str [104, 101, 97, 100]), (.str [114, 97, 119]), (.str [102, 101, 110, 99, 101]), (.str [113, 117, 111, 116, 101]), (.str [108, 105, 115, 116]), (.str [113, 117, 111, 116, 101]), (.str [108, 105, 115, 116]), (.str [104, 101, 97, 100])]
abbrev namesD : List D := [(.str [97, 110, 110]), (.str [98, 101, 110]), (.str [99, 121]), (.str [100, 97, 110]), (.str [101, 118, 101])]
abbrev rowsD : List D := [(.tup [(.str [42]), (.str [42]), (.str [102, 97, 121]), (.str [100, 101, 101, 112])]), (.tup [(.str [91]), (.str [93]), (.str [103, 117, 115]), (.str [100, 101, 101, 112])]), (.tup [(.str [124]), (.str [124]), (.str [104, 97, 108]), (.str [114, 97, 119])]), (.tup [(.str [45]), (.str [62]), (.str [105, 100, 97]), (.str [100, 101, 101, 112])]), (.tup [(.str [40]), (.str [41]), (.str [106, 111]), (.str [114, 97, 119])])]
theorem rows_ok : ∀ d ∈ rowsD, PairOk d := by
  intro d hd
  simp only [rowsD, List.mem_cons, List.not_mem_nil, or_false] at hd
  rcases hd with rfl | rfl | rfl | rfl | rfl <;> exact ⟨_, _, _, _, rfl, by unfold okm; decide, by unfold okm; decide⟩
theorem strs_of {ws : List D} (h : ∀ d ∈ ws, ∃ l, d = .str l) {d : D} (hd : d ∈ ws) : ∃ l, d = .str l := h d hd
theorem ways_str : ∀ d ∈ waysD, ∃ l, d = D.str l := by
  intro d hd
  simp only [waysD, List.mem_cons, List.not_mem_nil, or_false] at hd
  rcases hd with rfl | rfl | rfl | rfl | rfl | rfl | rfl | rfl <;> exact ⟨_, rfl⟩
theorem names_str : ∀ d ∈ namesD, ∃ l, d = D.str l := by
  intro d hd
  simp only [namesD, List.mem_cons, List.not_mem_nil, or_false] at hd
  rcases hd with rfl | rfl | rfl | rfl | rfl <;> exact ⟨_, rfl⟩
theorem marks_ok {M : Mem} (h : RowM M) : ∃ ls ps e M', r__law_marks [.obj 0] M = .ok (.tup [.tup ls, .tup ps, .str e]) M' ∧ RowM M' ∧ ls.length ≤ 4 ∧ ps.length ≤ 4 ∧ (∀ d ∈ ls, LineOk d) ∧ ∀ d ∈ ps, PairOk d := by
  obtain ⟨start, M1, e1, s0, s1, r1⟩ := taken_ok h (a := 6) (by decide) (by decide)
  obtain ⟨n, M2, e2, n0, n1, r2⟩ := taken_ok r1 (a := 4) (by decide) (by decide)
  have g1 := rng1_int (M := M2) n0 (by omega)
  obtain ⟨σ3, M3, e3, r3, L, x6, x7, rfl, hL, hLo⟩ := runFor_invN (g := gtName 6) (ok := fun _ => True) (b := (sSeq (sSet 7 (mCall 2 r__law_pick (aCons (mVar 0) (aCons (mLst (aCons (mC (.str [104, 101, 97, 100])) (aCons (mC (.str [114, 97, 119])) (aCons (mC (.str [102, 101, 110, 99, 101])) (aCons (mC (.str [113, 117, 111, 116, 101])) (aCons (mC (.str [108, 105, 115, 116])) (aCons (mC (.str [113, 117, 111, 116, 101])) (aCons (mC (.str [108, 105, 115, 116])) (aCons (mC (.str [104, 101, 97, 100])) (aNil)))))))))) (aNil)))))
       (sSet 1 (mOp gAdd (mVar 1) (mLst (aCons (mTup (aCons (mOp gIx (mVar 4) (mOp gMod (mOp gAdd (mVar 5) (mVar 6)) (mC (.int 6)))) (aCons (mOp gIx (mVar 3) (mVar 6)) (aCons (mVar 7) (aNil))))) (aNil)))))))
      (Inv := fun i σ M => RowM M ∧ ∃ L x6 x7, σ = [some (.obj 0), some (.lst L), some (.lst []), some (.lst namesD), some (.str [35, 45, 62, 42, 33, 124]), some (.int start), x6, x7, none, none] ∧ L.length = i ∧ ∀ d ∈ L, LineOk d) (items := (List.range n.toNat).map fun j : Nat => D.int j) (k := 0)
      (σ := [some (.obj 0), some (.lst []), some (.lst []), some (.lst namesD), some (.str [35, 45, 62, 42, 33, 124]), some (.int start), none, none, none, none]) (M := M2) (fun _ _ _ _ => trivial) (fun i d hd σ M hI => by
        obtain ⟨hr, L, x6, x7, rfl, hL, hLo⟩ := hI
        have hi : i < n.toNat := by
          have := (List.getElem?_eq_some_iff.mp hd).1
          simpa using this
        have hdi : d = .int i := by
          rw [List.getElem?_map, List.getElem?_range hi] at hd
          exact (Option.some.inj hd).symm
        subst hdi
        obtain ⟨w, M', ew, hw, hr'⟩ := pick_ok hr (ds := waysD) (by decide) (by decide)
        obtain ⟨wl, rfl⟩ := ways_str w hw
        obtain ⟨j, hj, hj6⟩ := fm (x := start + i) 6 (by decide)
        have hj' : (start + i).fmod 6 = (j : Int) := hj
        have es : gIx M' (.str [35, 45, 62, 42, 33, 124]) (.int j) = ([35, 45, 62, 42, 33, 124] : List Nat)[j]?.map fun c => D.str [c] := by rw [gIx_str (by decide), MT.atI_nat]
        have hjl : j < ([35, 45, 62, 42, 33, 124] : List Nat).length := hj6
        rw [List.getElem?_eq_getElem hjl] at es
        have hok : ∀ c ∈ ([35, 45, 62, 42, 33, 124] : List Nat), okm c := by unfold okm; decide
        have hcm := hok _ (List.getElem_mem hjl)
        generalize ([35, 45, 62, 42, 33, 124] : List Nat)[j] = c at es hcm
        have hi5 : i < namesD.length := by show i < 5; omega
        have en : atI namesD (i : Int) = some namesD[i] := by rw [MT.atI_nat, List.getElem?_eq_getElem hi5]
        obtain ⟨nl, hnl⟩ := names_str _ (List.getElem_mem hi5)
        rw [hnl] at en
        have ga := gAdd_lst (M := M') (a := L) (b := [.tup [.str [c], .str nl, .str wl]]) (by simp; omega)
        refine ⟨_, _, rfl, [some (.obj 0), some (.lst (L ++ [.tup [.str [c], .str nl, .str wl]])), some (.lst []), some (.lst namesD), some (.str [35, 45, 62, 42, 33, 124]), some (.int start), some (.int i), some (.str wl), none, none], M', ?_, hr', _, _, _, rfl, by simp [hL], fun d hd => ?_⟩
        · simp [ew, gMod_int, hj', es, en, ga]
        · rcases List.mem_append.mp hd with z | z
          · exact hLo d z
          · rw [List.mem_singleton.mp z]; exact ⟨c, nl, wl, rfl, hcm⟩) ⟨r2, [], none, none, rfl, rfl, fun d hd => by cases hd⟩
  simp only [Nat.zero_add, List.length_map, List.length_range] at hL
  obtain ⟨at_, M4, e4, a0, a1, r4⟩ := taken_ok r3 (a := 5) (by decide) (by decide)
  obtain ⟨m, M5, e5, m0, m1, r5⟩ := taken_ok r4 (a := 3) (by decide) (by decide)
  have g5 := rng1_int (M := M5) m0 (by omega)
  obtain ⟨σ6, M6, e6, r6, Pl, y6, rfl, hP, hPo⟩ := runFor_invN (g := gtName 6) (ok := fun _ => True) (b := (sSet 2 (mOp gAdd (mVar 2) (mLst (aCons (mOp gIx (mVar 8) (mOp gMod (mOp gAdd (mVar 9) (mOp gMul (mC (.int 2)) (mVar 6))) (mC (.int 5)))) (aNil))))))
      (Inv := fun i σ M => RowM M ∧ ∃ P y6, σ = [some (.obj 0), some (.lst L), some (.lst P), some (.lst namesD), some (.str [35, 45, 62, 42, 33, 124]), some (.int start), y6, x7, some (.lst rowsD), some (.int at_)] ∧ P.length = i ∧ ∀ d ∈ P, PairOk d) (items := (List.range m.toNat).map fun j : Nat => D.int j) (k := 0)
      (σ := [some (.obj 0), some (.lst L), some (.lst []), some (.lst namesD), some (.str [35, 45, 62, 42, 33, 124]), some (.int start), x6, x7, some (.lst rowsD), some (.int at_)]) (M := M5) (fun _ _ _ _ => trivial) (fun i d hd σ M hI => by
        obtain ⟨hr, P, y6, rfl, hP, hPo⟩ := hI
        have hi : i < m.toNat := by
          have := (List.getElem?_eq_some_iff.mp hd).1
          simpa using this
        have hdi : d = .int i := by
          rw [List.getElem?_map, List.getElem?_range hi] at hd
          exact (Option.some.inj hd).symm
        subst hdi
        obtain ⟨j, hj, hj5⟩ := fm (x := at_ + 2 * i) 5 (by decide)
        have hj' : (at_ + 2 * i).fmod 5 = (j : Int) := hj
        have hjl : j < rowsD.length := hj5
        have en : atI rowsD (j : Int) = some rowsD[j] := by rw [MT.atI_nat, List.getElem?_eq_getElem hjl]
        have ho := rows_ok _ (List.getElem_mem hjl)
        generalize rowsD[j] = rd at en ho
        have gm : gMul M (.int 2) (.int i) = some (.int (2 * i)) := gMul_int (by omega)
        have ga := gAdd_lst (M := M) (a := P) (b := [rd]) (by simp; omega)
        refine ⟨_, _, rfl, [some (.obj 0), some (.lst L), some (.lst (P ++ [rd])), some (.lst namesD), some (.str [35, 45, 62, 42, 33, 124]), some (.int start), some (.int i), x7, some (.lst rowsD), some (.int at_)], M, ?_, hr, _, _, rfl, by simp [hP], fun d hd => ?_⟩
        · simp [gMod_int, gm, hj', en, ga]
        · rcases List.mem_append.mp hd with z | z
          · exact hPo d z
          · rw [List.mem_singleton.mp z]; exact ho) ⟨r5, [], x6, rfl, rfl, fun d hd => by cases hd⟩
  simp only [Nat.zero_add, List.length_map, List.length_range] at hP
  obtain ⟨ed, M7, e7, hed, r7⟩ := pick_ok r6 (ds := [(.str []), (.str [92]), (.str [92]), (.str [126])]) (by decide) (by decide)
  obtain ⟨e, rfl⟩ : ∃ e, ed = .str e := by
    simp only [List.mem_cons, List.not_mem_nil, or_false] at hed
    rcases hed with rfl | rfl | rfl | rfl <;> exact ⟨_, rfl⟩
  have l0 := (rowM_all h).2.2.2.2
  refine ⟨L, Pl, e, M7, ?_, r7, by omega, by omega, hLo, hPo⟩
  unfold r__law_marks b__law_marks
  rw [runDef_ap]
  simp [e1, e2, g1, e3, e4, e5, g5, e6, e7, gTuple, trim_same (n := M.length) (show M7.length = M.length by rw [(rowM_all r7).2.2.2.2, l0])]
end K33

set_option maxRecDepth 100000
set_option maxHeartbeats 1000000
namespace K33
open PySem PySem.Spec PyProof.Rows L2 MT
/-! ### letters -/
theorem sos_len {xs : List Str} : (sosT xs).length ≤ xs.length := by
  have f : ∀ {a b : List Str}, a.Nodup → (∀ x ∈ a, x ∈ b) → a.length ≤ b.length := by
    intro a
    induction a with
    | nil => intro b _ _; simp
    | cons x r ih =>
      intro b nd hs
      have nd' := List.nodup_cons.mp nd
      have hx := hs x List.mem_cons_self
      have q := ih (b := b.erase x) nd'.2 fun y hy => (List.mem_erase_of_ne (fun z : y = x => nd'.1 (by rw [← z]; exact hy))).mpr (hs y (List.mem_cons_of_mem _ hy))
      rw [List.length_erase_of_mem hx] at q
      have := List.length_pos_of_mem hx
      rw [List.length_cons]
      omega
  unfold sosT
  split
  · rename_i e
    exact f e.choose_spec.1 fun x hx => (e.choose_spec.2.1 x).mp hx
  · simp
theorem strsD_one : ∀ cs : List Nat, strsD (cs.map fun c => D.str [c]) = some (cs.map fun c => txt [c])
  | [] => rfl
  | c :: cs => by simp only [List.map_cons, strsD, strsD_one cs]; rfl
theorem sos_ok {M : Mem} {cs : List Nat} (h : cs.length < 63) : ∃ es : List Nat, gSoS M [.lst (cs.map fun c => D.str [c])] = some (.lst (es.map fun c => D.str [c])) ∧ es.length ≤ cs.length ∧ ∀ c ∈ es, c ∈ cs := by
  have hm : ∀ x ∈ sosT (cs.map fun c => txt [c]), ∃ c ∈ cs, x = txt [c] := fun x hx => by
    obtain ⟨c, h1, h2⟩ := List.mem_map.mp (sosT_mem hx)
    exact ⟨c, h1, h2.symm⟩
  have hl : (sosT (cs.map fun c => txt [c])).length ≤ cs.length := by
    have := sos_len (xs := cs.map fun c => txt [c])
    simpa using this
  have hg : gSoS M [.lst (cs.map fun c => D.str [c])] = some (.lst ((sosT (cs.map fun c => txt [c])).map fun x => D.str x.cps.toList)) := by
    unfold gSoS
    simp only [strsD_one, Option.bind_some, List.length_map]
    rw [if_pos h]
  rw [hg]
  generalize sosT (cs.map fun c => txt [c]) = xs at hm hl
  refine ⟨xs.map fun x => x.cps.toList.headD 0, ?_, by simpa using hl, fun c hc => ?_⟩
  · congr 2
    rw [List.map_map]
    refine List.map_congr_left fun x hx => ?_
    obtain ⟨c, _, rfl⟩ := hm x hx
    rfl
  · obtain ⟨x, hx, rfl⟩ := List.mem_map.mp hc
    obtain ⟨c, h1, rfl⟩ := hm x hx
    exact h1
/-- single signs, in lists -/
theorem line_signs : ∀ {ls : List D}, (∀ d ∈ ls, LineOk d) → ∃ cs : List Nat, cs.length = ls.length ∧ (∀ c ∈ cs, okm c) ∧ ls.map (fun d => match d with | .tup (x :: _) => x | _ => D.non) = cs.map fun c => D.str [c]
  | [], _ => ⟨[], rfl, fun c hc => (by cases hc), rfl⟩
  | d :: ls, h => by
    obtain ⟨c, n, w, rfl, hc⟩ := h d List.mem_cons_self
    obtain ⟨cs, h1, h2, h3⟩ := line_signs fun e he => h e (List.mem_cons_of_mem _ he)
    exact ⟨c :: cs, by simp [h1], fun x hx => (List.mem_cons.mp hx).elim (fun z => z ▸ hc) (h2 x), by simp only [List.map_cons, h3]⟩
theorem pair_signs : ∀ {ls : List D}, (∀ d ∈ ls, PairOk d) → ∃ cs es : List Nat, cs.length = ls.length ∧ es.length = ls.length ∧ (∀ c ∈ cs, okm c) ∧ (∀ c ∈ es, okm c) ∧ ls.map (fun d => match d with | .tup (x :: _) => x | _ => D.non) = (cs.map fun c => D.str [c]) ∧ ls.map (fun d => match d with | .tup (_ :: x :: _) => x | _ => D.non) = es.map fun c => D.str [c]
  | [], _ => ⟨[], [], rfl, rfl, fun c hc => (by cases hc), fun c hc => (by cases hc), rfl, rfl⟩
  | d :: ls, h => by
    obtain ⟨c, e, n, w, rfl, hc, he⟩ := h d List.mem_cons_self
    obtain ⟨cs, es, h1, h2, h3, h4, h5, h6⟩ := pair_signs fun e he => h e (List.mem_cons_of_mem _ he)
    exact ⟨c :: cs, e :: es, by simp [h1], by simp [h2], fun x hx => (List.mem_cons.mp hx).elim (fun z => z ▸ hc) (h3 x), fun x hx => (List.mem_cons.mp hx).elim (fun z => z ▸ he) (h4 x), by simp only [List.map_cons, h5], by simp only [List.map_cons, h6]⟩
theorem letters_ok {M : Mem} {ls ps : List D} (h1 : ls.length ≤ 4) (h2 : ps.length ≤ 4) (hl : ∀ d ∈ ls, LineOk d) (hp : ∀ d ∈ ps, PairOk d) : ∃ es : List Nat, r__law_letters [.tup [.tup ls, .tup ps, .str [126]]] M = .ok (.lst ((10 :: 32 :: 97 :: es).map fun c => D.str [c])) M ∧ es.length ≤ 20 ∧ ∀ c ∈ es, okm c := by
  obtain ⟨c1, n1, o1, m1⟩ := line_signs hl
  obtain ⟨c2, c3, n2, n3, o2, o3, m2, m3⟩ := pair_signs hp
  have ra : ∀ (σ : Slots) (ds : List D), ds.length ≤ 4 → (∀ d ∈ ds, ∃ x r, d = .tup (x :: r)) → (∀ d : D, ∃ a b, σ.set 2 (some d) = [a, b, some d]) → runC (gtName 2) tTrue (mOp gIx (mVar 2) (mC (.int 0))) (fun _ => True) ds σ M = .ok (ds.map fun d => match d with | .tup (x :: _) => x | _ => D.non) M := fun σ ds _ hd hσ => by
    refine runC_map trivial fun d hm => ⟨_, rfl, rfl, ?_⟩
    obtain ⟨x, r, rfl⟩ := hd d hm
    obtain ⟨a, b, e⟩ := hσ (.tup (x :: r))
    rw [e]
    simp
  have rb : ∀ (σ : Slots) (ds : List D), (∀ d ∈ ds, ∃ y x r, d = .tup (y :: x :: r)) → (∀ d : D, ∃ a b, σ.set 2 (some d) = [a, b, some d]) → runC (gtName 2) tTrue (mOp gIx (mVar 2) (mC (.int 1))) (fun _ => True) ds σ M = .ok (ds.map fun d => match d with | .tup (_ :: x :: _) => x | _ => D.non) M := fun σ ds hd hσ => by
    refine runC_map trivial fun d hm => ⟨_, rfl, rfl, ?_⟩
    obtain ⟨y, x, r, rfl⟩ := hd d hm
    obtain ⟨a, b, e⟩ := hσ (.tup (y :: x :: r))
    rw [e]
    simp
  have hl' : ∀ d ∈ ls, ∃ x r, d = D.tup (x :: r) := fun d hd => by obtain ⟨c, n, w, rfl, _⟩ := hl d hd; exact ⟨_, _, rfl⟩
  have hp' : ∀ d ∈ ps, ∃ x r, d = D.tup (x :: r) := fun d hd => by obtain ⟨c, e, n, w, rfl, _⟩ := hp d hd; exact ⟨_, _, rfl⟩
  have hp2 : ∀ d ∈ ps, ∃ y x r, d = D.tup (y :: x :: r) := fun d hd => by obtain ⟨c, e, n, w, rfl, _⟩ := hp d hd; exact ⟨_, _, _, rfl⟩
  have q1 := ra [some (.tup [.tup ls, .tup ps, .str [126]]), none, none] ls h1 hl' fun d => ⟨_, _, rfl⟩
  have q2 := ra [some (.tup [.tup ls, .tup ps, .str [126]]), none, none] ps h2 hp' fun d => ⟨_, _, rfl⟩
  have q3 := rb [some (.tup [.tup ls, .tup ps, .str [126]]), none, none] ps hp2 fun d => ⟨_, _, rfl⟩
  rw [m1] at q1
  rw [m2] at q2
  rw [m3] at q3
  have fl : ∀ {x : Res D}, few ls x = x := fun {x} => few_ok (by omega)
  have fp : ∀ {x : Res D}, few ps x = x := fun {x} => few_ok (by omega)
  obtain ⟨es, e1, e2, e3⟩ := sos_ok (M := M) (cs := c1 ++ c2 ++ c3 ++ [126]) (by simp; omega)
  have a1 := gAdd_lst (M := M) (a := c1.map fun c => D.str [c]) (b := c2.map fun c => D.str [c]) (by simp; omega)
  have a2 := gAdd_lst (M := M) (a := (c1.map fun c => D.str [c]) ++ c2.map fun c => D.str [c]) (b := c3.map fun c => D.str [c]) (by simp; omega)
  have a3 := gAdd_lst (M := M) (a := ((c1.map fun c => D.str [c]) ++ c2.map fun c => D.str [c]) ++ c3.map fun c => D.str [c]) (b := [.str [126]]) (by simp; omega)
  have a4 := gAdd_lst (M := M) (a := [.str [10], .str [32], .str [97]]) (b := es.map fun c => D.str [c]) (by simp at e2 ⊢; omega)
  have ee : (c1.map fun c => D.str [c]) ++ (c2.map fun c => D.str [c]) ++ (c3.map fun c => D.str [c]) ++ [D.str [126]] = (c1 ++ c2 ++ c3 ++ [126]).map fun c => D.str [c] := by simp
  rw [ee] at a3
  refine ⟨es, ?_, by simp at e2; omega, fun c hc => ?_⟩
  · unfold r__law_letters b__law_letters
    rw [runDef_ap]
    have s1 : (sSet 1 (mB gSoS (aCons (mOp gAdd (mOp gAdd (mOp gAdd (mCompX (iAny (mOp gIx (mVar 0) (mC (.int 0)))) (gtName 2) (tTrue) (mOp gIx (mVar 2) (mC (.int 0))) [2]) (mCompX (iAny (mOp gIx (mVar 0) (mC (.int 1)))) (gtName 2) (tTrue) (mOp gIx (mVar 2) (mC (.int 0))) [2])) (mCompX (iAny (mOp gIx (mVar 0) (mC (.int 1)))) (gtName 2) (tTrue) (mOp gIx (mVar 2) (mC (.int 1))) [2])) (mIf (tV (mOp gNe (mOp gIx (mVar 0) (mC (.int 2))) (mC (.str [])))) (mLst (aCons (mOp gIx (mVar 0) (mC (.int 2))) (aNil))) (mLst (aNil)))) aNil))) [some (.tup [.tup ls, .tup ps, .str [126]]), none, none] M = .nx [some (.tup [.tup ls, .tup ps, .str [126]]), some (.lst (es.map fun c => D.str [c])), none] M := by
      simp [wipeD, fl, fp, q1, q2, q3, a1, a2, -List.append_assoc, -List.map_append]
      simp only [a3, ofOpt_some, bind_ok, e1]
      rfl
    have s2 : ([D.tup [.tup ls, .tup ps, .str [126]]].map some ++ List.replicate (3 - 1) none) = [some (.tup [.tup ls, .tup ps, .str [126]]), none, none] := rfl
    rw [s2, sSeq_ap, s1]
    simp [a4]
  · have := e3 c hc
    simp only [List.mem_append, List.mem_singleton] at this
    rcases this with ((z | z) | z) | z
    · exact o1 c z
    · exact o2 c z
    · exact o3 c z
    · rw [z]; unfold okm; decide
end K33

set_option maxRecDepth 100000
set_option maxHeartbeats 1000000
namespace K33
open PySem PySem.Spec PyProof.Rows L2 MT
theorem ok_of_okm {c : Nat} (h : okm c) : okc c = true := by
  obtain ⟨h1, h2⟩ := h
  simp [okc]
  omega
theorem cut3 {α : Type} {l : List α} : cut l (some 3) none = l.drop 3 := by
  unfold cut HT.sIx
  simp
  by_cases h : 3 ≤ l.length
  · rw [Nat.min_eq_left h, List.take_of_length_le (by simp)]
  · rw [Nat.min_eq_right (by omega)]
    simp
    omega
theorem gSl3 {M : Mem} {l : List D} : gSl M (.lst l) (some 3) none = some (.lst (l.drop 3)) := by
  unfold gSl
  simp only [asLst, Option.map_some, cut3]
theorem gMul_lst {M : Mem} {ds : List D} {k : Nat} (h : ds.length * k ≤ 1000000) (hk : k ≤ 1000000) : gMul M (.lst ds) (.int k) = some (.lst (List.replicate k ds).flatten) := by
  show (match asLst M (.lst ds) with | some ds => if -(2 ^ 63) ≤ (k : Int) ∧ (k : Int) < 2 ^ 63 ∧ ds.length * (k : Int).toNat ≤ sizeLine then some (D.lst (List.replicate (k : Int).toNat ds).flatten) else none | none => none) = _
  simp only [asLst, Int.toNat_natCast]
  have h1 : -(2 ^ 63) ≤ (k : Int) := Int.le_trans (by decide) (Int.natCast_nonneg k)
  have h2 : (k : Int) < 2 ^ 63 := Int.lt_of_le_of_lt (Int.ofNat_le.mpr hk) (by decide)
  rw [if_pos ⟨h1, h2, sl h⟩]
theorem fdiv4 (n : Nat) : (n : Int).fdiv 4 = ((n / 4 : Nat) : Int) := (Int.ofNat_fdiv n 4).symm
theorem list_chr : ∀ {rs : List D}, (∀ r ∈ rs, ∃ c, r = .str [c] ∧ okc c = true) → ∃ cs : List Nat, rs = (cs.map fun c => D.str [c]) ∧ ∀ c ∈ cs, okc c = true
  | [], _ => ⟨[], rfl, fun c hc => by cases hc⟩
  | r :: rs, h => by
    obtain ⟨c, rfl, hc⟩ := h r List.mem_cons_self
    obtain ⟨cs, rfl, h2⟩ := list_chr fun x hx => h x (List.mem_cons_of_mem _ hx)
    exact ⟨c :: cs, rfl, fun x hx => (List.mem_cons.mp hx).elim (fun z => z ▸ hc) (h2 x)⟩
theorem rep_chr (k : Nat) : (List.replicate k [D.str [10]]).flatten = (List.replicate k 10).map fun c => D.str [c] := by
  induction k with
  | zero => rfl
  | succ k ih => rw [List.replicate_succ, List.flatten_cons, ih, List.replicate_succ, List.map_cons]; rfl
theorem join_chr {M : Mem} {cs : List Nat} (h : cs.length ≤ 1000000) : kJoin M (.str []) [.lst (cs.map fun c => D.str [c])] = some (.str cs, M) := by
  rw [kJoin_map cs (fun c => [c]) (by rw [sum_one]; simp; omega), joinL_nil, flat_one]
theorem text_ok {M : Mem} {ls ps : List D} (h : RowM M) (h1 : ls.length ≤ 4) (h2 : ps.length ≤ 4) (hl : ∀ d ∈ ls, LineOk d) (hp : ∀ d ∈ ps, PairOk d) : ∃ l M', r__law_text [.obj 0, .tup [.tup ls, .tup ps, .str [126]], .int 9] M = .ok (.str l) M' ∧ RowM M' ∧ l.length ≤ 9 ∧ ∀ c ∈ l, okc c = true := by
  obtain ⟨es, e0, n0, o0⟩ := letters_ok (M := M) h1 h2 hl hp
  obtain ⟨t, M1, e1, t0, t1, r1⟩ := taken_ok h (a := 10) (by decide) (by decide)
  have g1 := rng1_int (M := M1) t0 (by omega)
  have hX : ∀ c ∈ 10 :: 32 :: 97 :: es, okc c = true := fun c hc => by
    simp only [List.mem_cons] at hc
    rcases hc with rfl | rfl | rfl | hc
    · decide
    · decide
    · decide
    · exact ok_of_okm (o0 c hc)
  have hlen : ((10 :: 32 :: 97 :: es).map fun c => D.str [c]).length = es.length + 3 := by simp
  generalize hX0 : (10 :: 32 :: 97 :: es) = X at *
  have gm := gMul_lst (M := M) (ds := [D.str [10]]) (k := X.length / 4) (by simp at hlen ⊢; omega) (by simp at hlen; omega)
  rw [rep_chr] at gm
  have gm' : gMul M (.lst [D.str [10]]) (.int ((X.length : Int) / 4)) = some (.lst ((List.replicate (X.length / 4) 10).map fun c => D.str [c])) := by
    rw [show ((X.length : Int) / 4) = ((X.length / 4 : Nat) : Int) by omega]
    exact gm
  have a1 := gAdd_lst (M := M) (a := X.map fun c => D.str [c]) (b := (List.replicate (X.length / 4) 10).map fun c => D.str [c]) (by simp at hlen ⊢; omega)
  have a2 := gAdd_lst (M := M) (a := (X.map fun c => D.str [c]) ++ (List.replicate (X.length / 4) 10).map fun c => D.str [c]) (b := (X.map fun c => D.str [c]).drop 3) (by simp at hlen ⊢; omega)
  have hY : ∀ d ∈ ((X.map fun c => D.str [c]) ++ (List.replicate (X.length / 4) 10).map fun c => D.str [c]) ++ (X.map fun c => D.str [c]).drop 3, ∃ c, d = .str [c] ∧ okc c = true := fun d hd => by
    rcases List.mem_append.mp hd with z | z
    · rcases List.mem_append.mp z with z | z
      · obtain ⟨c, hc, rfl⟩ := List.mem_map.mp z
        exact ⟨c, rfl, hX c hc⟩
      · obtain ⟨c, hc, rfl⟩ := List.mem_map.mp z
        exact ⟨c, rfl, by rw [(List.mem_replicate.mp hc).2]; decide⟩
    · obtain ⟨c, hc, rfl⟩ := List.mem_map.mp (List.mem_of_mem_drop z)
      exact ⟨c, rfl, hX c hc⟩
  have hYl : (((X.map fun c => D.str [c]) ++ (List.replicate (X.length / 4) 10).map fun c => D.str [c]) ++ (X.map fun c => D.str [c]).drop 3).length ≤ 1000 := by simp at hlen ⊢; omega
  have hYn : ((X.map fun c => D.str [c]) ++ (List.replicate (X.length / 4) 10).map fun c => D.str [c]) ++ (X.map fun c => D.str [c]).drop 3 ≠ [] := by subst hX0; simp
  generalize hY0 : ((X.map fun c => D.str [c]) ++ (List.replicate (X.length / 4) 10).map fun c => D.str [c]) ++ (X.map fun c => D.str [c]).drop 3 = Y at *
  obtain ⟨rs, M2, e2, r2, l2, o2⟩ := runC_inv (g := gtName 4) (c := tTrue) (m := mCall 2 r__law_pick (aCons (mVar 0) (aCons (mVar 3) (aNil)))) (ok := fun _ => True) (Inv := RowM) (R := fun _ r => ∃ c, r = .str [c] ∧ okc c = true) (items := (List.range t.toNat).map fun j : Nat => D.int j)
    (σ := [some (.obj 0), some (.tup [.tup ls, .tup ps, .str [126]]), some (.int 9), some (.lst Y), none]) (M := M1) (fun _ _ => trivial) (fun d hd M hM => by
      obtain ⟨d', M', e, hd', hr⟩ := pick_ok hM hYn (by omega)
      exact ⟨_, rfl, rfl, d', M', by simp [e], hr, hY d' hd'⟩) r1
  have hrs : ∀ r ∈ rs, ∃ c, r = .str [c] ∧ okc c = true := fun r hr => by
    obtain ⟨i, hi⟩ := List.getElem?_of_mem hr
    have hi' := (List.getElem?_eq_some_iff.mp hi).1
    exact o2 i _ r (List.getElem?_eq_getElem (by omega)) hi
  obtain ⟨cs, rfl, hcs⟩ := list_chr hrs
  simp only [List.length_map, List.length_range] at l2
  refine ⟨cs, M2, ?_, r2, by omega, hcs⟩
  have l0 := (rowM_all h).2.2.2.2
  have hf : ∀ {x : Res D}, few ((List.range t.toNat).map fun j : Nat => D.int j) x = x := fun {x} => few_ok (by simp; omega)
  unfold r__law_text b__law_text
  rw [runDef_ap]
  have a1' := a1
  simp [e0, gDiv_int, fdiv4, gm, gm', a1, gSl3, -List.append_assoc, -List.map_append, -List.map_drop, -List.map_replicate]
  simp [a2, e1, g1, hf, wipeD, e2, join_chr (M := M2) (cs := cs) (by omega), trim_same (n := M.length) (show M2.length = M.length by rw [(rowM_all r2).2.2.2.2, l0]), -List.append_assoc, -List.map_append, -List.map_drop, -List.map_replicate]
end K33

set_option maxRecDepth 100000
set_option maxHeartbeats 1000000
namespace K33
open PySem PySem.Spec PyProof.Rows L2 MT
def sokB : D → Bool
  | .str p => decide (p.length ≤ 30) && p.all fun c => decide (c < 127)
  | _ => false
theorem sok_of {d : D} (h : sokB d = true) : ∃ p, d = .str p ∧ p.length ≤ 30 ∧ ∀ c ∈ p, c < 127 := by
  cases d <;> simp only [sokB, Bool.false_eq_true] at h
  rename_i p
  simp only [Bool.and_eq_true, decide_eq_true_eq, List.all_eq_true] at h
  exact ⟨p, rfl, h.1, h.2⟩
theorem pick_str {M : Mem} (h : RowM M) {ds : List D} (h0 : ds ≠ []) (hl : ds.length < 1073741824) (hs : ds.all sokB = true) : ∃ p M', r__law_pick [.obj 0, .lst ds] M = .ok (.str p) M' ∧ p.length ≤ 30 ∧ (∀ c ∈ p, c < 127) ∧ RowM M' := by
  obtain ⟨d, M', e, hd, hr⟩ := pick_ok h h0 hl
  obtain ⟨p, rfl, h1, h2⟩ := sok_of (List.all_eq_true.mp hs d hd)
  exact ⟨p, M', e, h1, h2, hr⟩
theorem cut_sub {α : Type} {l : List α} {lo hi : Option Int} : (cut l lo hi).length ≤ l.length ∧ ∀ c ∈ cut l lo hi, c ∈ l := by
  unfold cut
  refine ⟨by simp; omega, fun c hc => List.mem_of_mem_drop (List.mem_of_mem_take hc)⟩
theorem gSl_str {M : Mem} {l : List Nat} {lo hi : Option Int} (h : l.length ≤ 1000000) : gSl M (.str l) lo hi = some (.str (cut l lo hi)) := by
  unfold gSl
  simp only
  rw [if_pos (sl h)]
theorem gSl_lst {M : Mem} {l : List D} {lo hi : Option Int} : gSl M (.lst l) lo hi = some (.lst (cut l lo hi)) := by
  unfold gSl
  simp only [asLst, Option.map_some]
theorem cut_map {α β : Type} {f : α → β} {l : List α} {lo hi : Option Int} : cut (l.map f) lo hi = (cut l lo hi).map f := by
  unfold cut
  simp
/-- what a spoiled line may be -/
def Sp (l : List Nat) : Prop := l.length ≤ 9000 ∧ ∀ c ∈ l, c < 127
theorem spoiled_ok {M : Mem} (h : RowM M) {l : List Nat} (hl : l.length ≤ 90) (hv : ∀ c ∈ l, c < 127) : ∃ l' M', r__law_spoiled_line [.obj 0, .str l] M = .ok (.str l') M' ∧ RowM M' ∧ Sp l' := by
  have l0 := (rowM_all h).2.2.2.2
  have gl : gLen M [.str l] = some (.int l.length) := gLen_str (sl (by omega))
  obtain ⟨t, M1, e1, t0, t1, r1⟩ := taken_ok h (a := (l.length : Int) + 1) (by omega) (by omega)
  obtain ⟨k, M2, e2, k0, k1, r2⟩ := taken_ok r1 (a := 6) (by decide) (by decide)
  have hk := kSplit1 (M := M) (l := l) (c := 32) (by decide) (by omega)
  have gs : ∀ (M : Mem) lo hi, gSl M (.str l) lo hi = some (.str (cut l lo hi)) := fun M lo hi => gSl_str (by omega)
  have ga : ∀ (M : Mem) (a b : List Nat), a.length + b.length ≤ 1000000 → gAdd M (.str a) (.str b) = some (.str (a ++ b)) := fun M a b hab => gAdd_str (sl hab)
  have cl : ∀ lo hi, (cut l lo hi).length ≤ 90 := fun lo hi => Nat.le_trans cut_sub.1 hl
  have cm : ∀ lo hi, ∀ c ∈ cut l lo hi, c < 127 := fun lo hi c hc => hv c (cut_sub.2 c hc)
  have tr : ∀ {M' : Mem} {d : List D}, RowM M' → trim M.length d M' = M' := fun {M' d} hr => trim_same (by rw [(rowM_all hr).2.2.2.2, l0])
  have mem2 : ∀ {a b : List Nat}, (∀ c ∈ a, c < 127) → (∀ c ∈ b, c < 127) → ∀ c ∈ a ++ b, c < 127 := fun ha hb c hc => (List.mem_append.mp hc).elim (ha c) (hb c)
  unfold r__law_spoiled_line b__law_spoiled_line
  rw [runDef_ap]
  by_cases q0 : k = 0
  · subst q0
    have g1 := ga M2 (cut l none (some t)) (cut l (some (t + 1)) none) (by have := cl none (some t); have := cl (some (t + 1)) none; omega)
    refine ⟨_, M2, ?_, r2, ⟨?_, mem2 (cm none (some t)) (cm (some (t + 1)) none)⟩⟩
    · simp [hk, gl, e1, e2, gs, g1, tr r2]
    · have := cl none (some t); have := cl (some (t + 1)) none; simp; omega
  by_cases q1 : k = 1
  · subst q1
    obtain ⟨p, M3, e3, p1, p2, r3⟩ := pick_str r2 (ds := [(.str [32]), (.str [48]), (.str [49]), (.str [45]), (.str [97]), (.str [47]), (.str [126]), (.str [126, 110]), (.str [42]), (.str [46])]) (by decide) (by decide) (by decide)
    have g1 := ga M3 (cut l none (some t)) p (by have := cl none (some t); omega)
    have g2 := ga M3 (cut l none (some t) ++ p) (cut l (some t) none) (by have := cl none (some t); have := cl (some t) none; simp; omega)
    refine ⟨_, M3, ?_, r3, ⟨?_, mem2 (mem2 (cm none (some t)) p2) (cm (some t) none)⟩⟩
    · simp [hk, gl, e1, e2, gs, e3, g1, g2, tr r3, -List.append_assoc]
    · have := cl none (some t); have := cl (some t) none; simp; omega
  by_cases q2 : k = 2
  · subst q2
    have sp := split_few (c := 32) (l := l)
    have hw : ∀ p ∈ cut (splitL 32 l) none (some (-1)), p.length ≤ 90 ∧ ∀ c ∈ p, c < 127 := fun p hp => by
      have := split_has (cut_sub.2 p hp)
      exact ⟨by omega, fun c hc => hv c (this.2 c hc)⟩
    have hwl : (cut (splitL 32 l) none (some (-1))).length ≤ 91 := Nat.le_trans cut_sub.1 (by omega)
    have gw : gSl M2 (.lst ((TL.spl [32] 0 [] l).map D.str)) none (some (-1)) = some (.lst ((cut (splitL 32 l) none (some (-1))).map fun p => D.str p)) := by rw [gSl_lst, cut_map]
    generalize cut (splitL 32 l) none (some (-1)) = ws at hw hwl gw
    have hsum : ∀ ws : List (List Nat), (∀ p ∈ ws, p.length ≤ 90 ∧ ∀ c ∈ p, c < 127) → (ws.map List.length).sum ≤ 90 * ws.length := by
      intro ws
      induction ws with
      | nil => intro _; simp
      | cons p ws ih =>
        intro h
        have := ih fun x hx => h x (List.mem_cons_of_mem _ hx)
        have := (h p List.mem_cons_self).1
        simp only [List.map_cons, List.sum_cons, List.length_cons]
        omega
    have hs := hsum ws hw
    have hj := kJoin_map (M := M2) ws (fun p => p) (s := [32]) (by simp; omega)
    rw [List.map_id'] at hj
    have hlen := joinL_len (S := [32]) (ls := ws)
    refine ⟨TL.joinL [32] ws, M2, ?_, r2, ⟨?_, fun c hc => ?_⟩⟩
    · simp [hk, gl, e1, e2, gw, hj, tr r2]
    · simp only [List.length_singleton] at hlen; omega
    · rcases joinL_has hc with z | ⟨p, hp, hc⟩
      · rw [List.mem_singleton.mp z]; decide
      · exact (hw p hp).2 c hc
  by_cases q3 : k = 3
  · subst q3
    obtain ⟨p, M3, e3, p1, p2, r3⟩ := pick_str r2 (ds := [(.str [32]), (.str [32, 49]), (.str [48]), (.str [32, 122, 122]), (.str [45])]) (by decide) (by decide) (by decide)
    have g1 := ga M3 l p (by omega)
    refine ⟨_, M3, ?_, r3, ⟨?_, mem2 hv p2⟩⟩
    · simp [hk, gl, e1, e2, gs, e3, g1, tr r3, -List.append_assoc]
    · simp; omega
  by_cases q4 : k = 4
  · subst q4
    obtain ⟨p, M3, e3, p1, p2, r3⟩ := pick_str r2 (ds := [(.str [50]), (.str [97]), (.str [122]), (.str [45]), (.str [48]), (.str [126]), (.str [43]), (.str [63])]) (by decide) (by decide) (by decide)
    have g1 := ga M3 (cut l none (some t)) p (by have := cl none (some t); omega)
    have g2 := ga M3 (cut l none (some t) ++ p) (cut l (some (t + 1)) none) (by have := cl none (some t); have := cl (some (t + 1)) none; simp; omega)
    refine ⟨_, M3, ?_, r3, ⟨?_, mem2 (mem2 (cm none (some t)) p2) (cm (some (t + 1)) none)⟩⟩
    · simp [hk, gl, e1, e2, gs, e3, g1, g2, tr r3, -List.append_assoc]
    · have := cl none (some t); have := cl (some (t + 1)) none; simp; omega
  obtain ⟨p, M3, e3, p1, p2, r3⟩ := pick_str r2 (ds := [(.str []), (.str [32]), (.str [102, 111, 108, 105, 111]), (.str [115, 97, 121]), (.str [100, 114, 111, 112]), (.str [100, 114, 111, 112, 32, 48, 49]), (.str [100, 114, 111, 112, 32, 45, 49]), (.str [115, 101, 116, 32, 48, 32, 48]), (.str [115, 101, 116, 32, 48, 32, 48, 32, 97, 126]), (.str [115, 101, 116, 32, 48, 48, 32, 49, 32, 97]), (.str [115, 104, 105, 101, 108, 100, 32, 35, 35]), (.str [115, 104, 111, 114, 116, 32, 49]), (.str [108, 105, 110, 101, 32, 35, 32, 97, 110, 110, 32, 100, 101, 101, 112])] ++ [(.str [119, 105, 100, 116, 104, 32, 49, 48, 48, 48, 48]), (.str [114, 101, 102, 32, 65, 110, 110]), (.str [115, 111, 117, 110, 100]), (.str [97, 116, 63, 32, 49, 32, 50]), (.str [108, 105, 110, 101, 63, 32, 48, 49]), (.str [102, 105, 110, 100, 63, 32, 112, 97, 103, 101]), (.str [110, 111, 100, 101, 63, 32, 47]), (.str [112, 97, 105, 114, 32, 91, 32, 93, 32, 103, 117, 115, 32, 104, 101, 97, 100])]) (by decide) (by decide) (by decide)
  refine ⟨p, M3, ?_, r3, ⟨by omega, p2⟩⟩
  have gg : ∀ (M : Mem) (a b : List D), a.length + b.length ≤ 1000000 → gAdd M (.lst a) (.lst b) = some (.lst (a ++ b)) := fun M a b => gAdd_lst
  simp only [List.cons_append, List.nil_append] at e3
  simp [hk, gl, e1, e2, q0, q1, q2, q3, q4, gg, e3, tr r3]
/-! ### odd texts -/
abbrev oddD : List D := [.non, .int 3, .tup [.str [97]], .lst [.str [97]], .str [9], .str [97, 127], .str (List.replicate 2001 [97]).flatten, .bl true, .flt 4609434218613702656]
theorem a2001_len : (List.replicate 2001 [97]).flatten.length = 2001 := by simp
theorem a2001 {M : Mem} : gMulS M (.str [97]) (.int 2001) = some (.str (List.replicate 2001 [97]).flatten) := by
  unfold gMulS
  simp only
  rw [if_pos (by decide)]
  rfl
theorem odd_ok {M : Mem} (h : RowM M) : ∃ d M', r__law_odd_text [.obj 0] M = .ok d M' ∧ RowM M' ∧ d ∈ oddD := by
  have l0 := (rowM_all h).2.2.2.2
  obtain ⟨d, M', e, hd, hr⟩ := pick_ok h (ds := oddD) (by simp) (by simp)
  refine ⟨d, M', ?_, hr, hd⟩
  unfold r__law_odd_text b__law_odd_text
  rw [runDef_ap]
  unfold oddD at e
  simp only [mCall_ap, mVar_ap, aCons_ap, aNil_ap, mC_ap, mLst_ap, mTup_ap, mOp_ap, sRet_ap, bind_ok, a2001, ofOpt_some, List.map_cons, List.map_nil, List.cons_append, List.nil_append, List.getElem?_cons_zero, List.length_cons, List.length_nil, Nat.reduceAdd, Nat.reduceLeDiff, if_true, e, out_ok, fin_rt, trim_same (n := M.length) (show M'.length = M.length by rw [(rowM_all hr).2.2.2.2, l0])]
theorem odd_facts {d : D} (h : d ∈ oddD) (M : Mem) : r_code_of [d] M = .exc 2 [d] M ∧ pl d = true ∧ okD d ∧ szD d ≤ 30000 ∧ dpD d ≤ 2 := by
  have str : ∀ l : List Nat, l.length ≤ 1000000 → isTextL l = false → r_code_of [.str l] M = .exc 2 [.str l] M := fun l hl ht => by rw [code_of_str hl, ht]; rfl
  simp only [oddD, List.mem_cons, List.not_mem_nil, or_false] at h
  rcases h with rfl | rfl | rfl | rfl | rfl | rfl | rfl | rfl | rfl
  · exact ⟨code_of_not rfl (by decide), rfl, trivial, by decide, by decide⟩
  · exact ⟨code_of_not rfl (by decide), rfl, by show (3 : Int).natAbs < 10 ^ 12; decide, by decide, by decide⟩
  · exact ⟨code_of_not rfl (by decide), rfl, ⟨by show ∀ c ∈ [97], c < 16 ^ 8; decide, trivial⟩, by decide, by decide⟩
  · exact ⟨code_of_not rfl (by decide), rfl, ⟨by show ∀ c ∈ [97], c < 16 ^ 8; decide, trivial⟩, by decide, by decide⟩
  · exact ⟨str _ (by decide) (by decide), rfl, by show ∀ c ∈ [9], c < 16 ^ 8; decide, by decide, by decide⟩
  · exact ⟨str _ (by decide) (by decide), rfl, by show ∀ c ∈ [97, 127], c < 16 ^ 8; decide, by decide, by decide⟩
  · refine ⟨str _ (by rw [a2001_len]; decide) (by unfold isTextL; rw [a2001_len]; rfl), rfl, ?_, ?_, by decide⟩
    · show ∀ c ∈ (List.replicate 2001 [97]).flatten, c < 16 ^ 8
      intro c hc
      simp at hc
      rw [hc]
      decide
    · show 10 * (List.replicate 2001 [97]).flatten.length + 2 ≤ 30000
      rw [a2001_len]
      decide
  · exact ⟨code_of_not rfl (by decide), rfl, trivial, by decide, by decide⟩
  · exact ⟨code_of_not rfl (by decide), rfl, by show (Str.ofString (Float64.repr 4609434218613702656)).length ≤ 2000; decide +kernel, by decide, by decide⟩
end K33

set_option maxRecDepth 100000
set_option maxHeartbeats 1000000
namespace K33
open PySem PySem.Spec PyProof.Rows L2 MT
/-! ### what the law compares -/
mutual
def vD : D → Prop
  | .non => True
  | .bl _ => True
  | .int _ => True
  | .str l => ∀ c ∈ l, c < 127
  | .tup ds => vL ds
  | _ => False
def vL : List D → Prop
  | [] => True
  | d :: ds => vD d ∧ vL ds
end
mutual
theorem vD_p : ∀ d : D, vD d → ∃ p, toP d = some p ∧ p.canLay0 = true ∧ p.depth ≤ dpD d
  | .non, _ => ⟨_, rfl, rfl, by decide⟩
  | .bl b, _ => ⟨_, rfl, rfl, Nat.le_refl _⟩
  | .int i, _ => ⟨_, rfl, rfl, Nat.le_refl _⟩
  | .str l, h => by
    refine ⟨_, rfl, ?_, Nat.le_refl _⟩
    show PyData.strOk (txt l) = true
    unfold PyData.strOk
    rw [List.all_toArray, List.all_eq_true]
    exact fun c hc => decide_eq_true (Nat.lt_of_lt_of_le ((show ∀ c ∈ l, c < 127 from h) c hc) (by decide))
  | .tup ds, h => by
    obtain ⟨ps, e1, e2, e3⟩ := vL_p ds h
    exact ⟨.tuple ps, by simp only [toP, e1]; rfl, e2, Nat.succ_le_succ e3⟩
  | .lst _, h => h.elim
  | .flt _, h => h.elim
  | .dic _ _, h => h.elim
  | .obj _, h => h.elim
  | .ins _ _, h => h.elim
  | .scr _, h => h.elim
  | .clo _ _, h => h.elim
  | .lam _, h => h.elim
  | .exn _ _, h => h.elim
theorem vL_p : ∀ ds : List D, vL ds → ∃ ps, toPL ds = some ps ∧ PyData.canLayAll0 ps = true ∧ PyData.depthAll ps ≤ dpL ds
  | [], _ => ⟨[], rfl, rfl, Nat.le_refl _⟩
  | d :: ds, h => by
    have h' : vD d ∧ vL ds := h
    obtain ⟨p, a1, a2, a3⟩ := vD_p d h'.1
    obtain ⟨ps, b1, b2, b3⟩ := vL_p ds h'.2
    refine ⟨p :: ps, by simp only [toPL, a1, b1]; rfl, by simp only [PyData.canLayAll0, a2, b2]; rfl, ?_⟩
    show max (PyData.depth p) (PyData.depthAll ps) ≤ max (dpD d) (dpL ds)
    omega
end
theorem ne_nil {M : Mem} {d : D} (h : vD d) (hd : dpD d ≤ 20) : gEqN true M (.tup [d]) (.tup []) = some (.bl true) := by
  obtain ⟨p, a1, a2, a3⟩ := vD_p d h
  have s1 : SeqAt.shaped (.tuple [p]) = true := by
    unfold SeqAt.shaped
    simp only [PyData.canLay0, PyData.canLayAll0, a2, Bool.and_true, Bool.true_and, decide_eq_true_eq]
    show max (PyData.depth p) 0 + 1 ≤ 64
    omega
  have s2 : SeqAt.shaped (.tuple []) = true := by decide
  simp only [gEqN, gEqP, toPM, toP, toPL, a1, Option.bind_some, Option.map_some]
  rw [if_pos ⟨s1, s2⟩]
  rfl
theorem ne_nil0 {M : Mem} : gEqN true M (.tup []) (.tup []) = some (.bl false) := by
  have s2 : SeqAt.shaped (.tuple []) = true := by decide
  simp only [gEqN, gEqP, toPM, toP, toPL, Option.map_some]
  rw [if_pos ⟨s2, s2⟩]
  rfl
def toldOf (o : Option D) (s : D) : D := match o with
  | some d => .tup [.str sTold', d]
  | none => .tup [badNum, s]
def dueOf (o : Option D) : D := match o with
  | some d => .tup [d]
  | none => .tup []
/-- what may be told -/
structure Tell (d : D) : Prop where
  v : vD d
  p : pl d = true
  o : okD d
  z : szD d ≤ 2000000
  k : dpD d ≤ 10
theorem v_pl {d : D} (h : vD d) : pl d = true := by
  have key : ∀ n : Nat, ∀ d : D, sizeOf d ≤ n → vD d → pl d = true := by
    intro n
    induction n with
    | zero => intro d hs; cases d <;> simp at hs
    | succ n ih =>
      intro d hs hv
      cases d with
      | tup ds =>
        have hv' : vL ds := hv
        show plL ds = true
        have hs' : sizeOf ds ≤ n := by simp at hs; omega
        clear hs hv
        induction ds with
        | nil => rfl
        | cons d ds ih2 =>
          have h2 : vD d ∧ vL ds := hv'
          have s2 : sizeOf d + sizeOf ds < n + 1 := by simp at hs'; omega
          show (pl d && plL ds) = true
          rw [ih d (by omega) h2.1, ih2 h2.2 (by omega)]
          rfl
      | non => rfl
      | bl b => rfl
      | int i => rfl
      | str l => rfl
      | _ => exact (show False from hv).elim
  exact key (sizeOf d) d (Nat.le_refl _) h
theorem tell_str {l : List Nat} (h : Sp l) : Tell (.str l) :=
  ⟨h.2, rfl, fun c hc => Nat.lt_of_lt_of_le (h.2 c hc) (by decide), by have := h.1; show 10 * l.length + 2 ≤ 2000000; omega, by show 0 ≤ 10; decide⟩
theorem tell_code {w f : List Nat} (h : uncodeL w = some f) : Tell (.str f) := by
  have hf : f.length ≤ 2000 ∧ ∀ c ∈ f, okc c = true := by
    unfold uncodeL at h
    split at h
    · cases h; exact ⟨by decide, fun c hc => by cases hc⟩
    · split at h
      · cases h
      · split at h
        · rename_i g hg
          split at h
          · rename_i hz
            cases h
            exact ⟨hz, (foldl_ok _ _ _ _ _ (fun c hc => by cases hc) hg).1⟩
          · cases h
        · cases h
  refine tell_str ⟨by omega, fun c hc => ?_⟩
  have := hf.2 c hc
  simp [okc] at this
  omega
theorem tupN_facts (ns : List Nat) (h : ∀ n ∈ ns, n < 10000) : vL (ns.map fun n : Nat => D.int n) ∧ okL (ns.map fun n : Nat => D.int n) ∧ szL (ns.map fun n : Nat => D.int n) = 22 * ns.length ∧ dpL (ns.map fun n : Nat => D.int n) = 0 := by
  induction ns with
  | nil => exact ⟨trivial, trivial, rfl, rfl⟩
  | cons n ns ih =>
    obtain ⟨a, b, c, d⟩ := ih fun x hx => h x (List.mem_cons_of_mem _ hx)
    have hn := h n List.mem_cons_self
    refine ⟨⟨trivial, a⟩, ⟨?_, b⟩, ?_, ?_⟩
    · show (n : Int).natAbs < 10 ^ 12
      rw [Int.natAbs_natCast]
      exact Nat.lt_of_lt_of_le hn (by decide)
    · show 20 + 2 + szL _ = _
      rw [c, List.length_cons]
      omega
    · show max 0 (dpL _) = 0
      rw [d]
      rfl
theorem tell_path {l : List Nat} {ns : List Nat} (hl : l.length ≤ 9000) (h : pathU l = some ns) : Tell (tupN ns) := by
  have hf : ns.length ≤ 9001 ∧ ∀ n ∈ ns, n < 10000 := by
    unfold pathU at h
    split at h
    · cases h; exact ⟨by decide, fun n hn => by cases hn⟩
    · split at h
      · rename_i ha
        cases h
        refine ⟨by have := split_few (c := 47) (l := l); simp; omega, fun n hn => ?_⟩
        obtain ⟨p, hp, rfl⟩ := List.mem_map.mp hn
        exact count_lt (List.all_eq_true.mp ha p hp)
      · cases h
  obtain ⟨a, b, c, d⟩ := tupN_facts ns hf.2
  have hv : vD (tupN ns) := a
  refine ⟨hv, v_pl hv, b, ?_, ?_⟩
  · show szL _ + 3 ≤ _
    rw [c]
    omega
  · show dpL _ + 1 ≤ 10
    rw [d]
    decide
theorem star_small {p : List Nat} {B : Nat} (h : p.length ≤ B ∧ ∀ c ∈ p, c < 127) : (star p).length ≤ B ∧ ∀ c ∈ star p, c < 127 := by
  unfold star
  split
  · exact ⟨by simp, fun c hc => by cases hc⟩
  · exact h
theorem step_small {t : List Nat} {s : Sp3} (h : readStepL t = some s) (hv : ∀ c ∈ t, c < 127) : (s.w.length ≤ t.length ∧ ∀ c ∈ s.w, c < 127) ∧ (s.n.length ≤ t.length ∧ ∀ c ∈ s.n, c < 127) := by
  unfold readStepL partsL at h
  have hq : ∀ q ∈ splitL 58 (restOf t), q.length ≤ t.length ∧ ∀ c ∈ q, c < 127 := fun q hq => by
    have := split_has hq
    have r := rest_len (t := t)
    exact ⟨by omega, fun c hc => hv c (r.2 c (this.2 c hc))⟩
  split at h
  · rename_i p q hs
    split at h
    · cases h
      exact ⟨star_small (hq p (by rw [hs]; simp)), star_small (hq q (by rw [hs]; simp))⟩
    · cases h
  · cases h
theorem allS_mem : ∀ {ps : List (List Nat)} {ss : List Sp3}, allS ps = some ss → ∀ s ∈ ss, ∃ p ∈ ps, readStepL p = some s
  | [], ss, h, s, hs => by simp [allS] at h; subst h; cases hs
  | p :: ps, ss, h, s, hs => by
    simp only [allS] at h
    split at h
    · rename_i s0 e0
      simp only [Option.map_eq_some_iff] at h
      obtain ⟨r, h1, rfl⟩ := h
      rcases List.mem_cons.mp hs with z | z
      · subst z; exact ⟨p, List.mem_cons_self, e0⟩
      · obtain ⟨q, hq, e⟩ := allS_mem h1 s z
        exact ⟨q, List.mem_cons_of_mem _ hq, e⟩
    · cases h
theorem steps_facts {B : Nat} (ss : List Sp3) (h : ∀ s ∈ ss, (s.w.length ≤ B ∧ ∀ c ∈ s.w, c < 127) ∧ (s.n.length ≤ B ∧ ∀ c ∈ s.n, c < 127)) : vL (ss.map Sp3.d) ∧ okL (ss.map Sp3.d) ∧ szL (ss.map Sp3.d) ≤ (20 * B + 3000) * ss.length ∧ dpL (ss.map Sp3.d) ≤ 1 := by
  induction ss with
  | nil => exact ⟨trivial, trivial, by simp [szL], by decide⟩
  | cons s ss ih =>
    obtain ⟨a, b, c, d⟩ := ih fun x hx => h x (List.mem_cons_of_mem _ hx)
    obtain ⟨⟨w1, w2⟩, n1, n2⟩ := h s List.mem_cons_self
    have big : ∀ {l : List Nat}, (∀ c ∈ l, c < 127) → ∀ c ∈ l, c < 16 ^ 8 := fun hl c hc => Nat.lt_of_lt_of_le (hl c hc) (by decide)
    refine ⟨⟨⟨w2, n2, trivial, trivial⟩, a⟩, ⟨⟨big w2, big n2, trivial, trivial⟩, b⟩, ?_, ?_⟩
    · show szD s.d + 2 + szL _ ≤ _
      have : szD s.d = (10 * s.w.length + 2) + 2 + ((10 * s.n.length + 2) + 2 + (2000 + 2 + 0)) + 3 := rfl
      rw [this, List.length_cons, Nat.mul_add, Nat.mul_one]
      omega
    · show max (dpD s.d) (dpL _) ≤ 1
      have : dpD s.d = 1 := rfl
      rw [this]
      omega
theorem tell_pat {l : List Nat} {ss : List Sp3} (hl : Sp l) (h : patU l = some ss) : Tell (.tup (ss.map Sp3.d)) := by
  unfold patU at h
  split at h
  · rename_i ss' ha
    split at h
    · rename_i h6
      cases h
      obtain ⟨a, b, c, d⟩ := steps_facts (B := 9000) ss fun s hs => by
        obtain ⟨p, hp, e⟩ := allS_mem ha s hs
        have h1 := split_has hp
        have h2 := step_small e fun c hc => hl.2 c (h1.2 c hc)
        have := hl.1
        exact ⟨⟨by have := h2.1.1; omega, h2.1.2⟩, by have := h2.2.1; omega, h2.2.2⟩
      have hv : vD (.tup (ss.map Sp3.d)) := a
      refine ⟨hv, v_pl hv, b, ?_, ?_⟩
      · show szL _ + 3 ≤ _
        have : (20 * 9000 + 3000) * ss.length ≤ (20 * 9000 + 3000) * 6 := Nat.mul_le_mul_left _ h6
        omega
      · show dpL _ + 1 ≤ 10
        omega
    · cases h
  · cases h
end K33

set_option maxRecDepth 100000
set_option maxHeartbeats 1000000
namespace K33
open PySem PySem.Spec PyProof.Rows L2 MT
theorem sp1 {l : List Nat} (h : Sp l) : l.length ≤ 10000 ∧ (∀ c ∈ l, c < 1114112) ∧ pl (.str l) = true := ⟨by have := h.1; omega, fun c hc => Nat.lt_of_lt_of_le (h.2 c hc) (by decide), rfl⟩
theorem told_of {k : Nat} {caps : List D} {o : Option D} {v : D} {M : Mem} (hk : k ∈ lamS) (hc : noCloL caps = true) (hM : RowM M) (hv : pl v = true) (e : crun k caps [] M = match o with
    | some d => .ok d M
    | none => .exc 2 [v] M) : r__law_told [.clo k caps] M = .ok (toldOf o v) M := by
  cases o with
  | some d => exact told_ok hk hc hM e
  | none => exact told_exc hk hc hM hv e
abbrev oCode (w : List Nat) : Option D := (uncodeL w).map D.str
abbrev oPath (w : List Nat) : Option D := (pathU w).map tupN
abbrev oPat (w : List Nat) : Option D := (patU w).map fun ss => .tup (ss.map Sp3.d)
theorem cr0 {w : List Nat} {x y : D} {M : Mem} (h : Sp w) (hM : RowM M) (hx : pl x = true) (hy : pl y = true) : r__law_told [.clo 0 [.lst [.str w, x, y]]] M = .ok (toldOf (oCode w) (.str w)) M := by
  have e0 := read_code_str (w := w) (M := M) (by have := h.1; omega) (rowM_all hM).2.2.2.1
  refine told_of (by decide) (plL_clo [.lst [.str w, x, y]] (by simp [plL, pl, hx, hy])).1 hM rfl ?_
  show runLam 1 2 m_lam_0 _ _ _ = _
  unfold runLam m_lam_0
  simp [lamSlots, e0]
  cases hu : uncodeL w <;> simp [oCode, hu]
theorem cr1 {w : List Nat} {x y : D} {M : Mem} (h : Sp w) (hM : RowM M) (hx : pl x = true) (hy : pl y = true) : r__law_told [.clo 1 [.lst [x, .str w, y]]] M = .ok (toldOf (oPath w) (.str w)) M := by
  have e0 := read_path_str (l := w) (M := M) (sp1 h).1
  refine told_of (by decide) (plL_clo [.lst [x, .str w, y]] (by simp [plL, pl, hx, hy])).1 hM rfl ?_
  show runLam 1 2 m_lam_1 _ _ _ = _
  unfold runLam m_lam_1
  simp [lamSlots, e0]
  cases hu : pathU w <;> simp [oPath, hu]
theorem cr2 {w : List Nat} {x y : D} {M : Mem} (h : Sp w) (hM : RowM M) (hx : pl x = true) (hy : pl y = true) : r__law_told [.clo 2 [.lst [x, y, .str w]]] M = .ok (toldOf (oPat w) (.str w)) M := by
  have e0 := read_pattern_str (l := w) (M := M) (sp1 h).1
  refine told_of (by decide) (plL_clo [.lst [x, y, .str w]] (by simp [plL, pl, hx, hy])).1 hM rfl ?_
  show runLam 1 2 m_lam_2 _ _ _ = _
  unfold runLam m_lam_2
  simp [lamSlots, e0]
  cases hu : patU w <;> simp [oPat, hu]
/-! ### odd things -/
theorem read_code_not {d : D} {M : Mem} {n : String} (h : tyOf M d = some n) (hn : n ≠ "str") : r_read_code [d] M = .exc 2 [d] M := by
  unfold r_read_code b_read_code
  rw [runDef_ap]
  simp [h, isTy, hn]
theorem read_path_not {d : D} {M : Mem} {n : String} (h : tyOf M d = some n) (hn : n ≠ "str") : r_read_path [d] M = .exc 2 [d] M := by
  unfold r_read_path b_read_path
  rw [runDef_ap]
  simp [h, isTy, hn]
theorem read_pattern_not {d : D} {M : Mem} {n : String} (h : tyOf M d = some n) (hn : n ≠ "str") : r_read_pattern [d] M = .exc 2 [d] M := by
  unfold r_read_pattern b_read_pattern
  rw [runDef_ap]
  simp [h, isTy, hn]
abbrev odd2D : List D := [.non, .int 3, .lst [.str [97]], .tup [.str [97]], .bl true, .str []]
theorem odd2_facts {d : D} (h : d ∈ odd2D) {M : Mem} (hM : RowM M) : r_read_code [d] M = .exc 2 [d] M ∧ r_read_path [d] M = .exc 2 [d] M ∧ r_read_pattern [d] M = .exc 2 [d] M ∧ pl d = true ∧ okD d ∧ szD d ≤ 30000 ∧ dpD d ≤ 2 := by
  have k97 : ∀ c ∈ [97], c < 16 ^ 8 := by decide
  simp only [odd2D, List.mem_cons, List.not_mem_nil, or_false] at h
  rcases h with rfl | rfl | rfl | rfl | rfl | rfl
  · exact ⟨read_code_not rfl (by decide), read_path_not rfl (by decide), read_pattern_not rfl (by decide), rfl, trivial, by decide, by decide⟩
  · exact ⟨read_code_not rfl (by decide), read_path_not rfl (by decide), read_pattern_not rfl (by decide), rfl, by show (3 : Int).natAbs < 10 ^ 12; decide, by decide, by decide⟩
  · exact ⟨read_code_not rfl (by decide), read_path_not rfl (by decide), read_pattern_not rfl (by decide), rfl, ⟨k97, trivial⟩, by decide, by decide⟩
  · exact ⟨read_code_not rfl (by decide), read_path_not rfl (by decide), read_pattern_not rfl (by decide), rfl, ⟨k97, trivial⟩, by decide, by decide⟩
  · exact ⟨read_code_not rfl (by decide), read_path_not rfl (by decide), read_pattern_not rfl (by decide), rfl, trivial, by decide, by decide⟩
  · refine ⟨?_, ?_, ?_, rfl, fun c hc => (by cases hc), by decide, by decide⟩
    · rw [read_code_str (by decide) (rowM_all hM).2.2.2.1]; rfl
    · rw [read_path_str (by decide)]; rfl
    · rw [read_pattern_str (by decide)]; rfl
theorem cr3 {d : D} (h : d ∈ odd2D) {M : Mem} (hM : RowM M) : r__law_told [.clo 3 [d]] M = .ok (.tup [badNum, d]) M := by
  obtain ⟨e1, e2, e3, hp, _⟩ := odd2_facts h hM
  refine told_exc (by decide) (plL_clo [d] (by simp [plL, hp])).1 hM hp ?_
  show runLam 1 2 m_lam_3 _ _ _ = _
  unfold runLam m_lam_3
  simp [lamSlots, e1]
theorem cr4 {d : D} (h : d ∈ odd2D) {M : Mem} (hM : RowM M) : r__law_told [.clo 4 [d]] M = .ok (.tup [badNum, d]) M := by
  obtain ⟨e1, e2, e3, hp, _⟩ := odd2_facts h hM
  refine told_exc (by decide) (plL_clo [d] (by simp [plL, hp])).1 hM hp ?_
  show runLam 1 2 m_lam_4 _ _ _ = _
  unfold runLam m_lam_4
  simp [lamSlots, e2]
theorem cr5 {d : D} (h : d ∈ odd2D) {M : Mem} (hM : RowM M) : r__law_told [.clo 5 [d]] M = .ok (.tup [badNum, d]) M := by
  obtain ⟨e1, e2, e3, hp, _⟩ := odd2_facts h hM
  refine told_exc (by decide) (plL_clo [d] (by simp [plL, hp])).1 hM hp ?_
  show runLam 1 2 m_lam_5 _ _ _ = _
  unfold runLam m_lam_5
  simp [lamSlots, e3]
abbrev aaa : List Nat := (List.replicate 2001 [97]).flatten
theorem aaa_fold : ∀ (n : Nat) (f : List Nat), (List.replicate n [97]).flatten.foldlM rdStep (f, false) = some (f ++ (List.replicate n [97]).flatten, false)
  | 0, f => by simp [List.foldlM]
  | n + 1, f => by
    have st : rdStep (f, false) 97 = some (f ++ [97], false) := by simp [rdStep]
    have ih := aaa_fold n (f ++ [97])
    rw [List.replicate_succ, List.flatten_cons]
    simp only [List.singleton_append, List.foldlM_cons, st, Option.bind_eq_bind, Option.bind_some, ih, List.append_assoc]
theorem aaa_none : uncodeL aaa = none := by
  have h1 : aaa ≠ [126, 101] := fun z => by have := congrArg List.length z; rw [a2001_len] at this; simp at this
  have h2 : aaa ≠ [] := fun z => by have := congrArg List.length z; rw [a2001_len] at this; simp at this
  unfold uncodeL
  rw [if_neg h1, if_neg h2, aaa_fold 2001 []]
  simp only [List.nil_append]
  rw [if_neg (by rw [a2001_len]; decide)]
theorem cr6 {M : Mem} (hM : RowM M) : r__law_told [.clo 6 []] M = .ok (.tup [badNum, .str aaa]) M := by
  have e := read_code_str (w := aaa) (M := M) (by rw [a2001_len]; decide) (rowM_all hM).2.2.2.1
  rw [aaa_none] at e
  refine told_exc (by decide) rfl hM rfl ?_
  show runLam 1 1 m_lam_6 _ _ _ = _
  unfold runLam m_lam_6
  simp only [lamSlots, mCall_ap, aCons_ap, aNil_ap, mOp_ap, mC_ap, bind_ok, a2001, ofOpt_some, List.length_cons, List.length_nil, Nat.zero_add, if_true, e, trim_self]
abbrev wrongD : List D := [.non, .lst [], .tup [.int (-1)], .tup [.int 10000], .tup [.bl true], .tup [.str [48]], .int 0, .tup [.tup []]]
theorem is_whole_not {d : D} {M : Mem} (h : d = .bl true ∨ d = .str [48] ∨ d = .tup []) : r_is_whole [d] M = .ok (.bl false) M := by
  unfold r_is_whole b_is_whole
  rw [runDef_ap]
  rcases h with rfl | rfl | rfl <;> simp [isTy]
theorem path_not {d : D} {M : Mem} {n : String} (h : tyOf M d = some n) (hn : n ≠ "tuple") : r_path_text [d] M = .exc 2 [d] M := by
  unfold r_path_text b_path_text
  rw [runDef_ap]
  simp [h, isTy, hn]
theorem path_one {x : D} {M : Mem} (h : vAnd (mCall 1 r_is_whole (aCons (mVar 1) (aNil))) (mChain gLe gLe (mC (.int 0)) (mVar 1) (mC (.int 9999))) [some (.tup [x]), some x] M = .ok (.bl false) M) : r_path_text [.tup [x]] M = .exc 2 [.tup [x]] M := by
  unfold r_path_text b_path_text
  rw [runDef_ap]
  have hf : ∀ {y : Res D}, few [x] y = y := fun {y} => few_ok (by simp)
  simp only [vAnd_ap] at h
  simp [isTy, wipeD, hf, runC, gAll, asBl]
  simp at h
  simp [h, asBl]
theorem is_step_not {d : D} {M : Mem} (h : d = .int (-1) ∨ d = .int 10000 ∨ d = .bl true ∨ d = .str [48] ∨ d = .tup []) : r_is_step [d] M = .ok (.bl false) M := by
  have e : r_is_row [d, .int 3] M = .ok (.bl false) M := by
    unfold r_is_row b_is_row
    rw [runDef_ap]
    rcases h with rfl | rfl | rfl | rfl | rfl <;> simp [isTy]
  unfold r_is_step b_is_step
  rw [runDef_ap]
  simp [e]
theorem is_pattern_not {d : D} {M : Mem} (h : d ∈ wrongD ∨ d = .tup []) : r_is_pattern [d] M = .ok (.bl false) M := by
  have one : ∀ x : D, (x = .int (-1) ∨ x = .int 10000 ∨ x = .bl true ∨ x = .str [48] ∨ x = .tup []) → r_is_pattern [.tup [x]] M = .ok (.bl false) M := fun x hx => by
    have e := is_step_not (M := M) hx
    have hf : ∀ {y : Res D}, few [x] y = y := fun {y} => few_ok (by simp)
    unfold r_is_pattern b_is_pattern
    rw [runDef_ap]
    simp [isTy, wipeD, hf, runC, e, gAll, asBl]
  have no : ∀ {n : String}, tyOf M d = some n → n ≠ "tuple" → r_is_pattern [d] M = .ok (.bl false) M := fun {n} h hn => by
    unfold r_is_pattern b_is_pattern
    rw [runDef_ap]
    simp [h, isTy, hn]
  rcases h with h | rfl
  · simp only [wrongD, List.mem_cons, List.not_mem_nil, or_false] at h
    rcases h with rfl | rfl | rfl | rfl | rfl | rfl | rfl | rfl
    · exact no rfl (by decide)
    · exact no rfl (by decide)
    · exact one _ (.inl rfl)
    · exact one _ (.inr (.inl rfl))
    · exact one _ (.inr (.inr (.inl rfl)))
    · exact one _ (.inr (.inr (.inr (.inl rfl))))
    · exact no rfl (by decide)
    · exact one _ (.inr (.inr (.inr (.inr rfl))))
  · unfold r_is_pattern b_is_pattern
    rw [runDef_ap]
    simp [isTy]
theorem pattern_not {d : D} {M : Mem} (h : d ∈ wrongD ∨ d = .tup []) : r_pattern_text [d] M = .exc 2 [d] M := by
  have e : r_need_pattern [d] M = .exc 2 [d] M := by
    unfold r_need_pattern b_need_pattern
    rw [runDef_ap]
    simp [is_pattern_not h]
  unfold r_pattern_text b_pattern_text
  rw [runDef_ap]
  simp [e]
theorem wrong_facts {d : D} (h : d ∈ wrongD) {M : Mem} : r_path_text [d] M = .exc 2 [d] M ∧ pl d = true ∧ okD d ∧ szD d ≤ 30000 ∧ dpD d ≤ 2 := by
  simp only [wrongD, List.mem_cons, List.not_mem_nil, or_false] at h
  rcases h with rfl | rfl | rfl | rfl | rfl | rfl | rfl | rfl
  · exact ⟨path_not rfl (by decide), rfl, trivial, by decide, by decide⟩
  · exact ⟨path_not rfl (by decide), rfl, trivial, by decide, by decide⟩
  · exact ⟨path_one (by simp [is_whole_int]), rfl, ⟨by show (-1 : Int).natAbs < 10 ^ 12; decide, trivial⟩, by decide, by decide⟩
  · exact ⟨path_one (by simp [is_whole_int]), rfl, ⟨by show (10000 : Int).natAbs < 10 ^ 12; decide, trivial⟩, by decide, by decide⟩
  · exact ⟨path_one (by simp [is_whole_not]), rfl, ⟨trivial, trivial⟩, by decide, by decide⟩
  · exact ⟨path_one (by simp [is_whole_not]), rfl, ⟨by show ∀ c ∈ [48], c < 16 ^ 8; decide, trivial⟩, by decide, by decide⟩
  · exact ⟨path_not rfl (by decide), rfl, by show (0 : Int).natAbs < 10 ^ 12; decide, by decide, by decide⟩
  · exact ⟨path_one (by simp [is_whole_not]), rfl, ⟨trivial, trivial⟩, by decide, by decide⟩
theorem cr7 {d : D} (h : d ∈ oddD) {M : Mem} (hM : RowM M) : r__law_told [.clo 7 [d]] M = .ok (.tup [badNum, d]) M := by
  obtain ⟨e1, hp, _⟩ := odd_facts h M
  refine told_exc (by decide) (plL_clo [d] (by simp [plL, hp])).1 hM hp ?_
  show runLam 1 2 m_lam_7 _ _ _ = _
  unfold runLam m_lam_7
  simp [lamSlots, e1]
theorem cr8 {d : D} (h : d ∈ wrongD) {M : Mem} (hM : RowM M) : r__law_told [.clo 8 [d]] M = .ok (.tup [badNum, d]) M := by
  obtain ⟨e1, hp, _⟩ := wrong_facts h (M := M)
  refine told_exc (by decide) (plL_clo [d] (by simp [plL, hp])).1 hM hp ?_
  show runLam 1 2 m_lam_8 _ _ _ = _
  unfold runLam m_lam_8
  simp [lamSlots, e1]
theorem cr9 {d : D} (h : d ∈ wrongD) {M : Mem} (hM : RowM M) : r__law_told [.clo 9 [d]] M = .ok (.tup [badNum, d]) M := by
  obtain ⟨e1, hp, _⟩ := wrong_facts h (M := M)
  have e2 := pattern_not (M := M) (.inl h)
  refine told_exc (by decide) (plL_clo [d] (by simp [plL, hp])).1 hM hp ?_
  show runLam 1 2 m_lam_9 _ _ _ = _
  unfold runLam m_lam_9
  simp [lamSlots, e2]
theorem cr10 {M : Mem} (hM : RowM M) : r__law_told [.clo 10 []] M = .ok (.tup [badNum, .tup []]) M := by
  have e2 := pattern_not (M := M) (d := .tup []) (.inr rfl)
  refine told_exc (k := 10) (caps := []) (v := .tup []) (by decide) rfl hM rfl ?_
  show runLam 1 1 m_lam_10 [] [] M = _
  unfold runLam m_lam_10
  simp [lamSlots, e2]
end K33

set_option maxRecDepth 100000
set_option maxHeartbeats 1000000
namespace K33
open PySem PySem.Spec PyProof.Rows L2 MT
noncomputable def bInner : DSt :=
  (sSeq (sSet 10 (mCompL (iAny (mLst (aCons (mVar 5) (aCons (mCallL 1 r__law_path_word [] js_law (aCons (mVar 6) (aNil))) (aCons (mVar 8) (aNil)))))) (gtName 18) (tTrue) (mCall 2 r__law_spoiled_line (aCons (mVar 1) (aCons (mVar 18) (aNil)))) [18] [] js_law))
        (sSeq (sSet 11 (mLst (aCons (mCallL 1 r__law_uncode [] js_law (aCons (mOp gIx (mVar 10) (mC (.int 0))) (aNil))) (aCons (mCallL 1 r__law_uncode_path [] js_law (aCons (mOp gIx (mVar 10) (mC (.int 1))) (aNil))) (aCons (mCallL 1 r__law_read_pattern [] js_law (aCons (mOp gIx (mVar 10) (mC (.int 2))) (aNil))) (aNil))))))
        (sSeq (sSet 12 (mLst (aCons (mCallL 1 r__law_told [0] js_law (aCons (mLam 0) (aNil))) (aCons (mCallL 1 r__law_told [1] js_law (aCons (mLam 1) (aNil))) (aCons (mCallL 1 r__law_told [2] js_law (aCons (mLam 2) (aNil))) (aNil))))))
        (sIf (mNot (tV (mCallL 2 r__law_same [0, 1, 2] js_law (aCons (mVar 12) (aCons (mCompL (iRange1 (aCons (mC (.int 3)) aNil)) (gtName 19) (tTrue) (mIf (tV (mOp gNe (mOp gIx (mVar 11) (mVar 19)) (mTup (aNil)))) (mTup (aCons (mC (.str [116, 111, 108, 100])) (aCons (mOp gIx (mOp gIx (mVar 11) (mVar 19)) (mC (.int 0))) (aNil)))) (mTup (aCons (mC (.str [66, 97, 100, 78, 117, 109, 98, 101, 114])) (aCons (mOp gIx (mVar 10) (mVar 19)) (aNil))))) [19] [] js_law) (aNil))))))
         (sRet (mC (.bl false)))
         (sNil)))))
noncomputable def bTurn : DSt :=
  (sSeq (sSet 4 (mCallL 3 r__law_text [] js_law (aCons (mVar 1) (aCons (mTup (aCons (mOp gIx (mVar 2) (mC (.int 0))) (aCons (mOp gIx (mVar 2) (mC (.int 1))) (aCons (mC (.str [126])) (aNil))))) (aCons (mC (.int 9)) (aNil))))))
       (sSeq (sSet 5 (mCallL 1 r__law_code [] js_law (aCons (mVar 4) (aNil))))
       (sSeq (sSet 6 (mB gTuple (aCons (mCompL (iRange1 (aCons (mCallL 2 r__law_taken [] js_law (aCons (mVar 1) (aCons (mC (.int 4)) (aNil)))) aNil)) (gtName 9) (tTrue) (mCall 2 r__law_pick (aCons (mVar 1) (aCons (mLst (aCons (mC (.int 0)) (aCons (mC (.int 1)) (aCons (mC (.int 12)) (aCons (mC (.int 9999)) (aCons (mC (.int 10)) (aNil))))))) (aNil)))) [9] [] js_law) aNil)))
       (sSeq (sSet 7 (mB gTuple (aCons (mCompL (iRange1 (aCons (mOp gAdd (mC (.int 1)) (mCallL 2 r__law_taken [] js_law (aCons (mVar 1) (aCons (mC (.int 6)) (aNil))))) aNil)) (gtName 9) (tTrue) (mTup (aCons (mCall 2 r__law_pick (aCons (mVar 1) (aCons (mLst (aCons (mC (.str [])) (aCons (mC (.str [112, 97, 103, 101])) (aCons (mC (.str [116, 101, 120, 116])) (aCons (mC (.str [116, 111, 114, 110])) (aNil)))))) (aNil)))) (aCons (mCall 2 r__law_pick (aCons (mVar 1) (aCons (mLst (aCons (mC (.str [])) (aCons (mC (.str [97, 110, 110])) (aCons (mC (.str [97, 98, 99, 100, 101, 102, 103, 104])) (aNil))))) (aNil)))) (aCons (mOp gEq (mCall 2 r__law_taken (aCons (mVar 1) (aCons (mC (.int 2)) (aNil)))) (mC (.int 0))) (aNil))))) [9] [] js_law) aNil)))
       (sSeq (sSet 8 (mMt "str" kJoin (mC (.str [47])) (aCons (mCompL (iAny (mVar 7)) (gtName 18) (tTrue) (mOp gAdd (mOp gAdd (mOp gAdd (mIf (tV (mOp gIx (mVar 18) (mC (.int 2)))) (mC (.str [43])) (mC (.str []))) (mIf (tV (mOp gNe (mOp gIx (mVar 18) (mC (.int 0))) (mC (.str [])))) (mOp gIx (mVar 18) (mC (.int 0))) (mC (.str [42])))) (mC (.str [58]))) (mIf (tV (mOp gNe (mOp gIx (mVar 18) (mC (.int 1))) (mC (.str [])))) (mOp gIx (mVar 18) (mC (.int 1))) (mC (.str [42])))) [18] [] js_law) aNil)))
       (sSeq (sIf (mNot (tV (mCallL 2 (r__law_alike 6) [] js_law (aCons (mTup (aCons (mCallL 1 r_code_of [] js_law (aCons (mVar 4) (aNil))) (aCons (mCallL 1 r_read_code [] js_law (aCons (mVar 5) (aNil))) (aCons (mCallL 1 r_path_text [] js_law (aCons (mVar 6) (aNil))) (aCons (mCallL 1 r_read_path [] js_law (aCons (mCallL 1 r__law_path_word [] js_law (aCons (mVar 6) (aNil))) (aNil))) (aNil)))))) (aCons (mTup (aCons (mVar 5) (aCons (mVar 4) (aCons (mCallL 1 r__law_path_word [] js_law (aCons (mVar 6) (aNil))) (aCons (mVar 6) (aNil)))))) (aNil))))))
        (sRet (mC (.bl false)))
        (sNil))
       (sSeq (sIf (mNot (tV (mCallL 2 (r__law_alike 6) [] js_law (aCons (mTup (aCons (mCallL 1 r_pattern_text [] js_law (aCons (mVar 7) (aNil))) (aCons (mCallL 1 r_read_pattern [] js_law (aCons (mVar 8) (aNil))) (aCons (mCallL 1 r_is_pattern [] js_law (aCons (mVar 7) (aNil))) (aNil))))) (aCons (mTup (aCons (mVar 8) (aCons (mVar 7) (aCons (mC (.bl true)) (aNil))))) (aNil))))))
        (sRet (mC (.bl false)))
        (sNil))
       (sFor (iRange1 (aCons (mC (.int 3)) aNil)) (gtName 9)
        (sSeq (sSet 10 (mCompL (iAny (mLst (aCons (mVar 5) (aCons (mCallL 1 r__law_path_word [] js_law (aCons (mVar 6) (aNil))) (aCons (mVar 8) (aNil)))))) (gtName 18) (tTrue) (mCall 2 r__law_spoiled_line (aCons (mVar 1) (aCons (mVar 18) (aNil)))) [18] [] js_law))
        (sSeq (sSet 11 (mLst (aCons (mCallL 1 r__law_uncode [] js_law (aCons (mOp gIx (mVar 10) (mC (.int 0))) (aNil))) (aCons (mCallL 1 r__law_uncode_path [] js_law (aCons (mOp gIx (mVar 10) (mC (.int 1))) (aNil))) (aCons (mCallL 1 r__law_read_pattern [] js_law (aCons (mOp gIx (mVar 10) (mC (.int 2))) (aNil))) (aNil))))))
        (sSeq (sSet 12 (mLst (aCons (mCallL 1 r__law_told [0] js_law (aCons (mLam 0) (aNil))) (aCons (mCallL 1 r__law_told [1] js_law (aCons (mLam 1) (aNil))) (aCons (mCallL 1 r__law_told [2] js_law (aCons (mLam 2) (aNil))) (aNil))))))
        (sIf (mNot (tV (mCallL 2 r__law_same [0, 1, 2] js_law (aCons (mVar 12) (aCons (mCompL (iRange1 (aCons (mC (.int 3)) aNil)) (gtName 19) (tTrue) (mIf (tV (mOp gNe (mOp gIx (mVar 11) (mVar 19)) (mTup (aNil)))) (mTup (aCons (mC (.str [116, 111, 108, 100])) (aCons (mOp gIx (mOp gIx (mVar 11) (mVar 19)) (mC (.int 0))) (aNil)))) (mTup (aCons (mC (.str [66, 97, 100, 78, 117, 109, 98, 101, 114])) (aCons (mOp gIx (mVar 10) (mVar 19)) (aNil))))) [19] [] js_law) (aNil))))))
         (sRet (mC (.bl false)))
         (sNil)))))))))))))

noncomputable def compL (g : DGt) (c : DT) (m : DM) (vs : List Nat) (cap : Nat → Option (List D)) (σ : Slots) (its : Its) (M1 : Mem) : Res D := match convL cap its.items with
  | some items => if items.length ≤ 1000000 ∧ items.length = its.items.length ∧ M1.all (inO noLamL) = true then (clean noCloL (runC g c m its.ok items (wipeD (bareS σ) vs) M1)).bind fun rs M2 => .ok (.lst rs) M2 else .stuck
  | none => .stuck
@[simp] theorem mCompL_ap {mi : DIt} {g : DGt} {c : DT} {m : DM} {vs ks : List Nat} {js : Nat → List Nat} {σ : Slots} {M : Mem} : mCompL mi g c m vs ks js σ M = (mi σ M).bind fun its M1 => compL g c m vs (capF σ ks js) σ its M1 := nr rfl
theorem compL_ok {g : DGt} {c : DT} {m : DM} {vs : List Nat} {cap : Nat → Option (List D)} {σ : Slots} {its : Its} {M1 M2 : Mem} {rs : List D} (hp : plL its.items = true) (hl : its.items.length ≤ 1000000) (hM : RowM M1) (e : runC g c m its.ok its.items (wipeD (bareS σ) vs) M1 = .ok rs M2) (hr : plL rs = true) (hM2 : RowM M2) : compL g c m vs cap σ its M1 = .ok (.lst rs) M2 := by
  unfold compL
  rw [plL_conv cap its.items hp]
  dsimp only
  rw [if_pos ⟨hl, rfl, (rowM_all hM).2.1⟩, e]
  unfold clean
  dsimp only
  rw [if_pos ⟨(plL_clo rs hr).1, (rowM_all hM2).1⟩]
  rfl
/-- texts to be spoiled -/
def Sm (l : List Nat) : Prop := l.length ≤ 90 ∧ ∀ c ∈ l, c < 127
theorem spoil_comp {σ : Slots} {M : Mem} (h1 : σ[1]? = some (some (.obj 0))) (hl : σ.length = 20) (hM : RowM M) {a b c : List Nat} (ha : Sm a) (hb : Sm b) (hc : Sm c) :
    ∃ w0 w1 w2 M', runC (gtName 18) tTrue (mCall 2 r__law_spoiled_line (aCons (mVar 1) (aCons (mVar 18) (aNil)))) (fun _ => True) [.str a, .str b, .str c] σ M = .ok [.str w0, .str w1, .str w2] M' ∧ Sp w0 ∧ Sp w1 ∧ Sp w2 ∧ RowM M' := by
  have elt : ∀ (d : D) (M : Mem), (mCall 2 r__law_spoiled_line (aCons (mVar 1) (aCons (mVar 18) (aNil)))) (σ.set 18 (some d)) M = r__law_spoiled_line [.obj 0, d] M := fun d M => by
    have e1 : (σ.set 18 (some d))[1]? = some (some (.obj 0)) := by rw [List.getElem?_set_ne (by decide)]; exact h1
    have e2 : (σ.set 18 (some d))[18]? = some (some d) := List.getElem?_set_self (by omega)
    simp [e1, e2]
  obtain ⟨w0, M1, e0, r1, s0⟩ := spoiled_ok hM ha.1 ha.2
  obtain ⟨w1, M2, e1, r2, s1⟩ := spoiled_ok r1 hb.1 hb.2
  obtain ⟨w2, M3, e2, r3, s2⟩ := spoiled_ok r2 hc.1 hc.2
  refine ⟨w0, w1, w2, M3, ?_, s0, s1, s2, r3⟩
  simp only [runC, if_true, gtName_ap, tTrue_ap, elt, e0, e1, e2, bind_ok]
noncomputable def mDue : DM := (mIf (tV (mOp gNe (mOp gIx (mVar 11) (mVar 19)) (mTup (aNil)))) (mTup (aCons (mC (.str [116, 111, 108, 100])) (aCons (mOp gIx (mOp gIx (mVar 11) (mVar 19)) (mC (.int 0))) (aNil)))) (mTup (aCons (mC (.str [66, 97, 100, 78, 117, 109, 98, 101, 114])) (aCons (mOp gIx (mVar 10) (mVar 19)) (aNil)))))
theorem due_elt {σ : Slots} {M : Mem} {o : Option D} {w : D} {ws ds : List D} (i : Int) (h10 : σ[10]? = some (some (.lst ws))) (h11 : σ[11]? = some (some (.lst ds))) (h19 : σ[19]? = some (some (.int i))) (hw : atI ws i = some w) (hd : atI ds i = some (dueOf o)) (ho : ∀ d, o = some d → vD d ∧ dpD d ≤ 20) :
    mDue σ M = .ok (toldOf o w) M := by
  unfold mDue
  cases o with
  | none =>
    have e : dueOf none = .tup [] := rfl
    rw [e] at hd
    simp [h10, h11, h19, hw, hd, ne_nil0, toldOf]
  | some d =>
    have e : dueOf (some d) = .tup [d] := rfl
    rw [e] at hd
    obtain ⟨v1, v2⟩ := ho d rfl
    simp [h10, h11, h19, hw, hd, ne_nil v1 v2, toldOf]
theorem due_comp {σ : Slots} {M : Mem} {o0 o1 o2 : Option D} {w0 w1 w2 : D} (h10 : σ[10]? = some (some (.lst [w0, w1, w2]))) (h11 : σ[11]? = some (some (.lst [dueOf o0, dueOf o1, dueOf o2]))) (hl : σ.length = 20)
    (p0 : ∀ d, o0 = some d → vD d ∧ dpD d ≤ 20) (p1 : ∀ d, o1 = some d → vD d ∧ dpD d ≤ 20) (p2 : ∀ d, o2 = some d → vD d ∧ dpD d ≤ 20) :
    runC (gtName 19) tTrue mDue (fun _ => True) [.int 0, .int 1, .int 2] σ M = .ok [toldOf o0 w0, toldOf o1 w1, toldOf o2 w2] M := by
  have s10 : ∀ d : D, (σ.set 19 (some d))[10]? = some (some (.lst [w0, w1, w2])) := fun d => by rw [List.getElem?_set_ne (by decide)]; exact h10
  have s11 : ∀ d : D, (σ.set 19 (some d))[11]? = some (some (.lst [dueOf o0, dueOf o1, dueOf o2])) := fun d => by rw [List.getElem?_set_ne (by decide)]; exact h11
  have s19 : ∀ d : D, (σ.set 19 (some d))[19]? = some (some d) := fun d => List.getElem?_set_self (by omega)
  have e0 := due_elt (M := M) (w := w0) 0 (s10 (.int 0)) (s11 (.int 0)) (s19 (.int 0)) (by simp) (by simp) p0
  have e1 := due_elt (M := M) (w := w1) 1 (s10 (.int 1)) (s11 (.int 1)) (s19 (.int 1)) (by simp) (by simp) p1
  have e2 := due_elt (M := M) (w := w2) 2 (s10 (.int 2)) (s11 (.int 2)) (s19 (.int 2)) (by simp) (by simp) p2
  simp only [runC, if_true, gtName_ap, tTrue_ap, e0, e1, e2, bind_ok]
theorem tell_told {o : Option D} {w : D} (ho : ∀ d, o = some d → Tell d) (hw : Tell w) : pl (toldOf o w) = true ∧ okD (toldOf o w) ∧ szD (toldOf o w) ≤ 2000200 ∧ dpD (toldOf o w) ≤ 11 := by
  have kt : ∀ c ∈ sTold', c < 16 ^ 8 := by decide
  have kb : ∀ c ∈ [66, 97, 100, 78, 117, 109, 98, 101, 114], c < 16 ^ 8 := by decide
  cases o with
  | none =>
    refine ⟨?_, ⟨kb, hw.o, trivial⟩, ?_, ?_⟩
    · show (true && (pl w && true)) = true; rw [hw.p]; rfl
    · show (10 * 9 + 2) + 2 + (szD w + 2 + 0) + 3 ≤ _; have := hw.z; omega
    · show max 0 (max (dpD w) 0) + 1 ≤ 11; have := hw.k; omega
  | some d =>
    have hd := ho d rfl
    refine ⟨?_, ⟨kt, hd.o, trivial⟩, ?_, ?_⟩
    · show (true && (pl d && true)) = true; rw [hd.p]; rfl
    · show (10 * 4 + 2) + 2 + (szD d + 2 + 0) + 3 ≤ _; have := hd.z; omega
    · show max 0 (max (dpD d) 0) + 1 ≤ 11; have := hd.k; omega
theorem same3 {a b c : D} {M : Mem} {cap : Nat → Option (List D)} (hM : RowM M) (ha : pl a = true ∧ okD a ∧ szD a ≤ 2000200 ∧ dpD a ≤ 11) (hb : pl b = true ∧ okD b ∧ szD b ≤ 2000200 ∧ dpD b ≤ 11) (hc : pl c = true ∧ okD c ∧ szD c ≤ 2000200 ∧ dpD c ≤ 11) : callL 2 r__law_same cap [.lst [a, b, c], .lst [a, b, c]] M = .ok (.bl true) M := by
  have pp : plL [D.lst [a, b, c], .lst [a, b, c]] = true := by simp [plL, pl, ha.1, hb.1, hc.1]
  refine callL_ok pp rfl hM (same_ok (by simp) ⟨ha.2.1, hb.2.1, hc.2.1, trivial⟩ ?_ ?_) rfl hM
  · show szD a + 2 + (szD b + 2 + (szD c + 2 + 0)) ≤ _
    have := ha.2.2.1; have := hb.2.2.1; have := hc.2.2.1
    omega
  · show max (dpD a) (max (dpD b) (max (dpD c) 0)) ≤ 40
    have := ha.2.2.2; have := hb.2.2.2; have := hc.2.2.2
    omega
theorem pl_due {o : Option D} (ho : ∀ d, o = some d → Tell d) : pl (dueOf o) = true := by
  cases o with
  | none => rfl
  | some d => show (pl d && true) = true; rw [(ho d rfl).p]; rfl
theorem oCode_tell {w : List Nat} : ∀ d, oCode w = some d → Tell d := fun d h => by
  simp only [oCode, Option.map_eq_some_iff] at h
  obtain ⟨f, hf, rfl⟩ := h
  exact tell_code hf
theorem oPath_tell {w : List Nat} (hw : Sp w) : ∀ d, oPath w = some d → Tell d := fun d h => by
  simp only [oPath, Option.map_eq_some_iff] at h
  obtain ⟨f, hf, rfl⟩ := h
  exact tell_path hw.1 hf
theorem oPat_tell {w : List Nat} (hw : Sp w) : ∀ d, oPat w = some d → Tell d := fun d h => by
  simp only [oPat, Option.map_eq_some_iff] at h
  obtain ⟨f, hf, rfl⟩ := h
  exact tell_pat hw hf
theorem inner_ok {M : Mem} (hM : RowM M) {ns : List Int} {told x3 x4 x7 x9 x10 x11 x12 x13 x14 x15 x16 x17 x18 x19 : Option D} {W L : List Nat} {nn : List Nat} (hW : Sm W) (hn : ∀ n ∈ nn, P5 n) (hnl : nn.length ≤ 6) (hL : Sm L) :
    ∃ y10 y11 y12 M', bInner [some (.scr ns), some (.obj 0), told, x3, x4, some (.str W), some (tupN nn), x7, some (.str L), x9, x10, x11, x12, x13, x14, x15, x16, x17, x18, x19] M = .nx [some (.scr ns), some (.obj 0), told, x3, x4, some (.str W), some (tupN nn), x7, some (.str L), x9, y10, y11, y12, x13, x14, x15, x16, x17, x18, x19] M' ∧ RowM M' := by
  have hP : Sm (pathW nn) := by have := pathW_ok hn hnl; have h2 := joinL_len (S := [47]) (ls := nn.map fun n : Nat => digits n); exact ⟨pathW_len hn hnl, this.2⟩
  have hpn : plL [tupN nn] = true := by rw [plL_mem]; intro d hd; rw [List.mem_singleton.mp hd]; exact plL_mem.mpr fun e he => by obtain ⟨n, _, rfl⟩ := List.mem_map.mp he; rfl
  have eP : ∀ (M : Mem) cap, RowM M → callL 1 r__law_path_word cap [tupN nn] M = .ok (.str (pathW nn)) M := fun M cap h => callL_ok hpn rfl h (law_path_word_ok hn (by omega)) rfl h
  obtain ⟨w0, w1, w2, M1, e1, s0, s1, s2, r1⟩ := spoil_comp (σ := wipeD (bareS [some (.scr ns), some (.obj 0), told, x3, x4, some (.str W), some (tupN nn), x7, some (.str L), x9, x10, x11, x12, x13, x14, x15, x16, x17, x18, x19]) [18]) (by simp [wipeD, bareS, noLam]) (by simp [wipeD, bareS]) hM hW hP hL
  have c1 : ∀ cap, compL (gtName 18) tTrue (mCall 2 r__law_spoiled_line (aCons (mVar 1) (aCons (mVar 18) (aNil)))) [18] cap [some (.scr ns), some (.obj 0), told, x3, x4, some (.str W), some (tupN nn), x7, some (.str L), x9, x10, x11, x12, x13, x14, x15, x16, x17, x18, x19] ⟨[.str W, .str (pathW nn), .str L], fun _ => True⟩ M = .ok (.lst [.str w0, .str w1, .str w2]) M1 := fun cap => compL_ok rfl (by simp) hM e1 rfl r1
  have u0 : ∀ cap, callL 1 r__law_uncode cap [.str w0] M1 = .ok (dueOf (oCode w0)) M1 := fun cap => callL_ok rfl rfl r1 (by
    rw [law_uncode_str (by have := s0.1; omega) (sp1 s0).2.1]
    unfold oCode
    cases uncodeL w0 <;> rfl) (pl_due oCode_tell) r1
  have u1 : ∀ cap, callL 1 r__law_uncode_path cap [.str w1] M1 = .ok (dueOf (oPath w1)) M1 := fun cap => callL_ok rfl rfl r1 (by
    rw [law_uncode_path_str (sp1 s1).1 (sp1 s1).2.1]
    unfold oPath
    cases pathU w1 <;> rfl) (pl_due (oPath_tell s1)) r1
  have u2 : ∀ cap, callL 1 r__law_read_pattern cap [.str w2] M1 = .ok (dueOf (oPat w2)) M1 := fun cap => callL_ok rfl rfl r1 (by
    rw [law_read_pattern_str (sp1 s2).1 (sp1 s2).2.1]
    unfold oPat
    cases patU w2 <;> rfl) (pl_due (oPat_tell s2)) r1
  have t0 := tell_told (oCode_tell (w := w0)) (tell_str s0)
  have t1 := tell_told (oPath_tell s1) (tell_str s1)
  have t2 := tell_told (oPat_tell s2) (tell_str s2)
  have k0 : ∀ cap, cap 0 = some [.lst [.str w0, .str w1, .str w2]] → callL 1 r__law_told cap [.lam 0] M1 = .ok (toldOf (oCode w0) (.str w0)) M1 := fun cap h => callL_lam h r1 (cr0 s0 r1 rfl rfl) t0.1 r1
  have k1 : ∀ cap, cap 1 = some [.lst [.str w0, .str w1, .str w2]] → callL 1 r__law_told cap [.lam 1] M1 = .ok (toldOf (oPath w1) (.str w1)) M1 := fun cap h => callL_lam h r1 (cr1 s1 r1 rfl rfl) t1.1 r1
  have k2 : ∀ cap, cap 2 = some [.lst [.str w0, .str w1, .str w2]] → callL 1 r__law_told cap [.lam 2] M1 = .ok (toldOf (oPat w2) (.str w2)) M1 := fun cap h => callL_lam h r1 (cr2 s2 r1 rfl rfl) t2.1 r1
  generalize hT0 : toldOf (oCode w0) (.str w0) = T0 at *
  generalize hT1 : toldOf (oPath w1) (.str w1) = T1 at *
  generalize hT2 : toldOf (oPat w2) (.str w2) = T2 at *
  have dc := due_comp (M := M1) (σ := wipeD (bareS [some (.scr ns), some (.obj 0), told, x3, x4, some (.str W), some (tupN nn), x7, some (.str L), x9, some (.lst [.str w0, .str w1, .str w2]), some (.lst [dueOf (oCode w0), dueOf (oPath w1), dueOf (oPat w2)]), some (.lst [T0, T1, T2]), x13, x14, x15, x16, x17, x18, x19]) [19]) (o0 := oCode w0) (o1 := oPath w1) (o2 := oPat w2) (w0 := .str w0) (w1 := .str w1) (w2 := .str w2)
    (by simp [wipeD, bareS, noLam, noLamL]) (by
      have n0 := (pl_clo _ (pl_due (oCode_tell (w := w0)))).2.1
      have n1 := (pl_clo _ (pl_due (oPath_tell s1))).2.1
      have n2 := (pl_clo _ (pl_due (oPat_tell s2))).2.1
      simp [wipeD, bareS, noLam, noLamL, n0, n1, n2]) (by simp [wipeD, bareS]) (fun d hd => ⟨(oCode_tell d hd).v, by have := (oCode_tell d hd).k; omega⟩) (fun d hd => ⟨(oPath_tell s1 d hd).v, by have := (oPath_tell s1 d hd).k; omega⟩) (fun d hd => ⟨(oPat_tell s2 d hd).v, by have := (oPat_tell s2 d hd).k; omega⟩)
  rw [hT0, hT1, hT2] at dc
  have pT : plL [T0, T1, T2] = true := by simp [plL, t0.1, t1.1, t2.1]
  have c2 : ∀ cap, compL (gtName 19) tTrue mDue [19] cap [some (.scr ns), some (.obj 0), told, x3, x4, some (.str W), some (tupN nn), x7, some (.str L), x9, some (.lst [.str w0, .str w1, .str w2]), some (.lst [dueOf (oCode w0), dueOf (oPath w1), dueOf (oPat w2)]), some (.lst [T0, T1, T2]), x13, x14, x15, x16, x17, x18, x19] ⟨[.int 0, .int 1, .int 2], fun _ => True⟩ M1 = .ok (.lst [T0, T1, T2]) M1 := fun cap => compL_ok rfl (by simp) r1 dc pT r1
  have sm : ∀ cap, callL 2 r__law_same cap [.lst [T0, T1, T2], .lst [T0, T1, T2]] M1 = .ok (.bl true) M1 := fun cap => same3 r1 t0 t1 t2
  have rg : rng1 [.int 3] M1 = .ok ⟨[.int 0, .int 1, .int 2], fun _ => True⟩ M1 := by rw [rng1_int (by decide) (by decide)]; rfl
  refine ⟨some (.lst [.str w0, .str w1, .str w2]), some (.lst [dueOf (oCode w0), dueOf (oPath w1), dueOf (oPat w2)]), some (.lst [T0, T1, T2]), M1, ?_, r1⟩
  unfold bInner
  unfold mDue at c2
  have A1 : (sSet 10 (mCompL (iAny (mLst (aCons (mVar 5) (aCons (mCallL 1 r__law_path_word [] js_law (aCons (mVar 6) (aNil))) (aCons (mVar 8) (aNil)))))) (gtName 18) (tTrue) (mCall 2 r__law_spoiled_line (aCons (mVar 1) (aCons (mVar 18) (aNil)))) [18] [] js_law)) [some (.scr ns), some (.obj 0), told, x3, x4, some (.str W), some (tupN nn), x7, some (.str L), x9, x10, x11, x12, x13, x14, x15, x16, x17, x18, x19] M = .nx [some (.scr ns), some (.obj 0), told, x3, x4, some (.str W), some (tupN nn), x7, some (.str L), x9, some (.lst [.str w0, .str w1, .str w2]), x11, x12, x13, x14, x15, x16, x17, x18, x19] M1 := by
    simp [eP _ _ hM, c1]
  rw [sSeq_ap, A1, at_nx]
  simp [u0, u1, u2, k0, k1, k2, capF, js_law, capsOf, noLam, noLamL, rg, c2, sm]
end K33

set_option maxRecDepth 100000
set_option maxHeartbeats 1000000
namespace K33
open PySem PySem.Spec PyProof.Rows L2 MT
/-! ### a code is read back -/
theorem code_fold : ∀ (l f : List Nat), (∀ c ∈ l, okc c = true) → ((l.map codeC).flatten).foldlM rdStep (f, false) = some (f ++ l, false)
  | [], f, _ => by simp [List.foldlM]
  | c :: l, f, h => by
    have hc := h c List.mem_cons_self
    have ih := code_fold l (f ++ [c]) fun x hx => h x (List.mem_cons_of_mem _ hx)
    have st : (codeC c).foldlM rdStep (f, false) = some (f ++ [c], false) := by
      unfold codeC
      by_cases h1 : c = 10
      · subst h1; simp [List.foldlM, rdStep, signC]
      · by_cases h2 : c = 32
        · subst h2; simp [List.foldlM, rdStep, signC]
        · by_cases h3 : c = 126
          · subst h3; simp [List.foldlM, rdStep, signC]
          · simp [okc, h1] at hc
            have h4 : ¬ (c < 33 ∨ 126 < c) := by omega
            simp [List.foldlM, rdStep, h1, h2, h3, h4]
    rw [List.map_cons, List.flatten_cons, List.foldlM_append, st]
    simp only [Option.bind_eq_bind, Option.bind_some, ih, List.append_assoc, List.singleton_append]
theorem uncode_code {l : List Nat} (h : ∀ c ∈ l, okc c = true) (hl : l.length ≤ 2000) : uncodeL (codeL l) = some l := by
  unfold codeL
  by_cases hn : l = []
  · subst hn; simp [uncodeL]
  · rw [if_neg hn]
    have hf := code_fold l [] h
    rw [List.nil_append] at hf
    have h1 : (l.map codeC).flatten ≠ [126, 101] := fun z => by
      rw [z] at hf
      simp [List.foldlM, rdStep, signC] at hf
    have h2 : (l.map codeC).flatten ≠ [] := fun z => by
      rw [z] at hf
      simp [List.foldlM] at hf
      exact hn hf
    unfold uncodeL
    rw [if_neg h1, if_neg h2, hf]
    simp only
    rw [if_pos hl]
theorem codeC_lt {c : Nat} (h : okc c = true) : ∀ x ∈ codeC c, x < 127 := by
  unfold codeC
  simp [okc] at h
  split
  · decide
  · split
    · decide
    · split
      · decide
      · intro x hx
        rw [List.mem_singleton.mp hx]
        omega
theorem code_sm {l : List Nat} (h : ∀ c ∈ l, okc c = true) (hl : l.length ≤ 9) : Sm (codeL l) := by
  unfold codeL
  by_cases hn : l = []
  · rw [if_pos hn]; exact ⟨by decide, by decide⟩
  · rw [if_neg hn]
    refine ⟨?_, fun c hc => ?_⟩
    · have := code_sum l
      rw [List.length_flatten]
      omega
    · obtain ⟨p, hp, hc⟩ := List.mem_flatten.mp hc
      obtain ⟨d, hd, rfl⟩ := List.mem_map.mp hp
      exact codeC_lt (h d hd) c hc
/-! ### drawn paths and patterns -/
theorem path_comp {σ : Slots} {M : Mem} (h1 : σ[1]? = some (some (.obj 0))) (hl : σ.length = 20) (hM : RowM M) (n : Nat) : ∃ (nn : List Nat) (M' : Mem), runC (gtName 9) tTrue (mCall 2 r__law_pick (aCons (mVar 1) (aCons (mLst (aCons (mC (.int 0)) (aCons (mC (.int 1)) (aCons (mC (.int 12)) (aCons (mC (.int 9999)) (aCons (mC (.int 10)) (aNil))))))) (aNil)))) (fun _ => True) ((List.range n).map fun j : Nat => D.int j) σ M = .ok (nn.map fun n : Nat => D.int n) M' ∧ nn.length = n ∧ (∀ x ∈ nn, P5 x) ∧ RowM M' := by
  obtain ⟨rs, M', e, r, l, o⟩ := runC_inv (g := gtName 9) (c := tTrue) (m := mCall 2 r__law_pick (aCons (mVar 1) (aCons (mLst (aCons (mC (.int 0)) (aCons (mC (.int 1)) (aCons (mC (.int 12)) (aCons (mC (.int 9999)) (aCons (mC (.int 10)) (aNil))))))) (aNil)))) (ok := fun _ => True) (Inv := RowM) (R := fun _ r => ∃ x : Nat, r = .int x ∧ P5 x) (items := (List.range n).map fun j : Nat => D.int j) (σ := σ) (M := M) (fun _ _ => trivial) (fun d hd M hM => by
    obtain ⟨p, M', e, hp, hr⟩ := pick_ok hM (ds := [.int 0, .int 1, .int 12, .int 9999, .int 10]) (by decide) (by decide)
    have s1 : (σ.set 9 (some d))[1]? = some (some (.obj 0)) := by rw [List.getElem?_set_ne (by decide)]; exact h1
    refine ⟨_, rfl, rfl, p, M', by simp [s1, e], hr, ?_⟩
    simp only [List.mem_cons, List.not_mem_nil, or_false] at hp
    rcases hp with rfl | rfl | rfl | rfl | rfl
    · exact ⟨0, rfl, .inl rfl⟩
    · exact ⟨1, rfl, .inr (.inl rfl)⟩
    · exact ⟨12, rfl, .inr (.inr (.inl rfl))⟩
    · exact ⟨9999, rfl, .inr (.inr (.inr (.inl rfl)))⟩
    · exact ⟨10, rfl, .inr (.inr (.inr (.inr rfl)))⟩) hM
  have hrs : ∀ r ∈ rs, ∃ x : Nat, r = .int x ∧ P5 x := fun r hr => by
    obtain ⟨i, hi⟩ := List.getElem?_of_mem hr
    have hi' := (List.getElem?_eq_some_iff.mp hi).1
    exact o i _ r (List.getElem?_eq_getElem (by omega)) hi
  have key : ∀ rs : List D, (∀ r ∈ rs, ∃ x : Nat, r = .int x ∧ P5 x) → ∃ nn : List Nat, rs = (nn.map fun n : Nat => D.int n) ∧ ∀ x ∈ nn, P5 x := by
    intro rs
    induction rs with
    | nil => intro _; exact ⟨[], rfl, fun x hx => by cases hx⟩
    | cons r rs ih =>
      intro h
      obtain ⟨x, rfl, hx⟩ := h r List.mem_cons_self
      obtain ⟨nn, rfl, hn⟩ := ih fun y hy => h y (List.mem_cons_of_mem _ hy)
      exact ⟨x :: nn, rfl, fun y hy => (List.mem_cons.mp hy).elim (fun z => z ▸ hx) (hn y)⟩
  obtain ⟨nn, rfl, hn⟩ := key rs hrs
  exact ⟨nn, M', e, by simpa using l, hn, r⟩
noncomputable def mStep : DM := (mTup (aCons (mCall 2 r__law_pick (aCons (mVar 1) (aCons (mLst (aCons (mC (.str [])) (aCons (mC (.str [112, 97, 103, 101])) (aCons (mC (.str [116, 101, 120, 116])) (aCons (mC (.str [116, 111, 114, 110])) (aNil)))))) (aNil)))) (aCons (mCall 2 r__law_pick (aCons (mVar 1) (aCons (mLst (aCons (mC (.str [])) (aCons (mC (.str [97, 110, 110])) (aCons (mC (.str [97, 98, 99, 100, 101, 102, 103, 104])) (aNil))))) (aNil)))) (aCons (mOp gEq (mCall 2 r__law_taken (aCons (mVar 1) (aCons (mC (.int 2)) (aNil)))) (mC (.int 0))) (aNil)))))
theorem pat_comp {σ : Slots} {M : Mem} (h1 : σ[1]? = some (some (.obj 0))) (hl : σ.length = 20) (hM : RowM M) (n : Nat) : ∃ (ss : List Sp3) (M' : Mem), runC (gtName 9) tTrue mStep (fun _ => True) ((List.range n).map fun j : Nat => D.int j) σ M = .ok (ss.map Sp3.d) M' ∧ ss.length = n ∧ (∀ x ∈ ss, GoodS x) ∧ RowM M' := by
  obtain ⟨rs, M', e, r, l, o⟩ := runC_inv (g := gtName 9) (c := tTrue) (m := mStep) (ok := fun _ => True) (Inv := RowM) (R := fun _ r => ∃ x : Sp3, r = x.d ∧ GoodS x) (items := (List.range n).map fun j : Nat => D.int j) (σ := σ) (M := M) (fun _ _ => trivial) (fun d hd M hM => by
    obtain ⟨p, M1, e1, hp, r1⟩ := pick_ok hM (ds := [.str [], .str [112, 97, 103, 101], .str [116, 101, 120, 116], .str [116, 111, 114, 110]]) (by decide) (by decide)
    obtain ⟨q, M2, e2, hq, r2⟩ := pick_ok r1 (ds := [.str [], .str [97, 110, 110], .str [97, 98, 99, 100, 101, 102, 103, 104]]) (by decide) (by decide)
    obtain ⟨t, M3, e3, t0, t1, r3⟩ := taken_ok r2 (a := 2) (by decide) (by decide)
    have s1 : (σ.set 9 (some d))[1]? = some (some (.obj 0)) := by rw [List.getElem?_set_ne (by decide)]; exact h1
    refine ⟨_, rfl, rfl, .tup [p, q, .bl (t == 0)], M3, by unfold mStep; simp [s1, e1, e2, e3], r3, ?_⟩
    simp only [List.mem_cons, List.not_mem_nil, or_false] at hp hq
    have hw : ∃ w, p = .str w ∧ (w = [] ∨ w = [112, 97, 103, 101] ∨ w = [116, 101, 120, 116] ∨ w = [116, 111, 114, 110]) := by
      rcases hp with rfl | rfl | rfl | rfl
      · exact ⟨_, rfl, .inl rfl⟩
      · exact ⟨_, rfl, .inr (.inl rfl)⟩
      · exact ⟨_, rfl, .inr (.inr (.inl rfl))⟩
      · exact ⟨_, rfl, .inr (.inr (.inr rfl))⟩
    have hn : ∃ w, q = .str w ∧ (w = [] ∨ w = [97, 110, 110] ∨ w = [97, 98, 99, 100, 101, 102, 103, 104]) := by
      rcases hq with rfl | rfl | rfl
      · exact ⟨_, rfl, .inl rfl⟩
      · exact ⟨_, rfl, .inr (.inl rfl)⟩
      · exact ⟨_, rfl, .inr (.inr rfl)⟩
    obtain ⟨w, rfl, hw⟩ := hw
    obtain ⟨v, rfl, hv⟩ := hn
    exact ⟨⟨w, v, t == 0⟩, rfl, ⟨hw, hv⟩⟩) hM
  have hrs : ∀ r ∈ rs, ∃ x : Sp3, r = x.d ∧ GoodS x := fun r hr => by
    obtain ⟨i, hi⟩ := List.getElem?_of_mem hr
    have hi' := (List.getElem?_eq_some_iff.mp hi).1
    exact o i _ r (List.getElem?_eq_getElem (by omega)) hi
  have key : ∀ rs : List D, (∀ r ∈ rs, ∃ x : Sp3, r = x.d ∧ GoodS x) → ∃ nn : List Sp3, rs = nn.map Sp3.d ∧ ∀ x ∈ nn, GoodS x := by
    intro rs
    induction rs with
    | nil => intro _; exact ⟨[], rfl, fun x hx => by cases hx⟩
    | cons r rs ih =>
      intro h
      obtain ⟨x, rfl, hx⟩ := h r List.mem_cons_self
      obtain ⟨nn, rfl, hn⟩ := ih fun y hy => h y (List.mem_cons_of_mem _ hy)
      exact ⟨x :: nn, rfl, fun y hy => (List.mem_cons.mp hy).elim (fun z => z ▸ hx) (hn y)⟩
  obtain ⟨nn, rfl, hn⟩ := key rs hrs
  exact ⟨nn, M', e, by simpa using l, hn, r⟩
noncomputable def mLine : DM := (mOp gAdd (mOp gAdd (mOp gAdd (mIf (tV (mOp gIx (mVar 18) (mC (.int 2)))) (mC (.str [43])) (mC (.str []))) (mIf (tV (mOp gNe (mOp gIx (mVar 18) (mC (.int 0))) (mC (.str [])))) (mOp gIx (mVar 18) (mC (.int 0))) (mC (.str [42])))) (mC (.str [58]))) (mIf (tV (mOp gNe (mOp gIx (mVar 18) (mC (.int 1))) (mC (.str [])))) (mOp gIx (mVar 18) (mC (.int 1))) (mC (.str [42]))))
theorem line_elt {σ : Slots} {M : Mem} {s : Sp3} (h : GoodS s) (hs : σ[18]? = some (some s.d)) : mLine σ M = .ok (.str (stepW s)) M := by
  obtain ⟨w, n, b⟩ := s
  obtain ⟨hw, hn⟩ := h
  dsimp only at hw hn
  have lw : w.length ≤ 10 := by rcases hw with rfl | rfl | rfl | rfl <;> decide
  have ln : n.length ≤ 10 := by rcases hn with rfl | rfl | rfl <;> decide
  have ga : ∀ a b : List Nat, a.length ≤ 100 → b.length ≤ 100 → gAdd M (.str a) (.str b) = some (.str (a ++ b)) := fun a b h1 h2 => gAdd_str (sl (by omega))
  unfold mLine stepW unst
  unfold Sp3.d at hs
  by_cases e1 : w = [] <;> by_cases e2 : n = [] <;> cases b <;> simp_all [ga, show w.length ≤ 100 by omega, show n.length ≤ 100 by omega, show w.length + 1 ≤ 100 by omega, show w.length + 1 + 1 ≤ 100 by omega]
theorem line_comp {σ : Slots} {M : Mem} {ss : List Sp3} (h : ∀ s ∈ ss, GoodS s) (hl : σ.length = 20) : runC (gtName 18) tTrue mLine (fun _ => True) (ss.map Sp3.d) σ M = .ok (ss.map fun s => .str (stepW s)) M :=
  runC_maps trivial fun s hs => ⟨_, rfl, rfl, line_elt (h s hs) (List.getElem?_set_self (by omega))⟩
end K33

set_option maxRecDepth 100000
set_option maxHeartbeats 2000000
namespace K33
open PySem PySem.Spec PyProof.Rows L2 MT
theorem pl_ints {nn : List Nat} : plL (nn.map fun n : Nat => D.int n) = true := plL_mem.mpr fun d hd => by obtain ⟨n, _, rfl⟩ := List.mem_map.mp hd; rfl
theorem pl_steps {ss : List Sp3} : plL (ss.map Sp3.d) = true := plL_mem.mpr fun d hd => by obtain ⟨s, _, rfl⟩ := List.mem_map.mp hd; rfl
theorem pl_range {n : Nat} : plL ((List.range n).map fun j : Nat => D.int j) = true := pl_ints
theorem alikeL {d : D} {M : Mem} {cap : Nat → Option (List D)} (hM : RowM M) (hp : pl d = true) (h : ga 6 d) : callL 2 (r__law_alike 6) cap [d, d] M = .ok (.bl true) M :=
  callL_ok (by simp [plL, hp]) rfl hM (alike_ok h) rfl hM
theorem join_pats {M : Mem} {ss : List Sp3} (h : ∀ s ∈ ss, GoodS s) (h6 : ss.length ≤ 6) : kJoin M (.str [47]) [.lst (ss.map fun s => D.str (stepW s))] = some (.str (patW ss), M) := join_steps h h6
theorem turn_ok {M : Mem} (hM : RowM M) {ns : List Int} {ls ps : List D} {e : List Nat} (hls : ls.length ≤ 4) (hps : ps.length ≤ 4) (hl : ∀ d ∈ ls, LineOk d) (hp : ∀ d ∈ ps, PairOk d) {x3 x4 x5 x6 x7 x8 x9 x10 x11 x12 x13 x14 x15 x16 x17 x18 x19 : Option D} :
    ∃ y3 y4 y5 y6 y7 y8 y9 y10 y11 y12 y13 y14 y15 y16 y17 y18 y19 M', bTurn [some (.scr ns), some (.obj 0), some (.tup [.tup ls, .tup ps, .str e]), x3, x4, x5, x6, x7, x8, x9, x10, x11, x12, x13, x14, x15, x16, x17, x18, x19] M = .nx [some (.scr ns), some (.obj 0), some (.tup [.tup ls, .tup ps, .str e]), y3, y4, y5, y6, y7, y8, y9, y10, y11, y12, y13, y14, y15, y16, y17, y18, y19] M' ∧ RowM M' := by
  have pls : plL ls = true := plL_mem.mpr fun d hd => by obtain ⟨c, n, w, rfl, _⟩ := hl d hd; rfl
  have pps : plL ps = true := plL_mem.mpr fun d hd => by obtain ⟨c, e, n, w, rfl, _⟩ := hp d hd; rfl
  obtain ⟨T, M1, e1, r1, lT, oT⟩ := text_ok hM hls hps hl hp
  have c1 : ∀ cap, callL 3 r__law_text cap [.obj 0, .tup [.tup ls, .tup ps, .str [126]], .int 9] M = .ok (.str T) M1 := fun cap => callL_ok (by simp [plL, pl, pls, pps]) rfl hM e1 rfl r1
  have smW := code_sm oT lT
  have lT2 : T.length ≤ 1000000 := by omega
  have tT : isTextL T = true := by unfold isTextL; rw [List.all_eq_true.mpr oT]; simp; omega
  have c2 : ∀ cap, callL 1 r__law_code cap [.str T] M1 = .ok (.str (codeL T)) M1 := fun cap => callL_ok rfl rfl r1 (law_code_str lT2) rfl r1
  obtain ⟨t, M2, e2, t0, t1, r2⟩ := taken_ok r1 (a := 4) (by decide) (by decide)
  have c3 : ∀ cap, callL 2 r__law_taken cap [.obj 0, .int 4] M1 = .ok (.int t) M2 := fun cap => callL_ok rfl rfl r1 e2 rfl r2
  have g2 := rng1_int (M := M2) t0 (by omega)
  generalize hW : codeL T = W at *
  obtain ⟨nn, M3, e3, l3, o3, r3⟩ := path_comp (σ := wipeD (bareS [some (.scr ns), some (.obj 0), some (.tup [.tup ls, .tup ps, .str e]), x3, some (.str T), some (.str W), x6, x7, x8, x9, x10, x11, x12, x13, x14, x15, x16, x17, x18, x19]) [9]) (by simp [wipeD, bareS, noLam]) (by simp [wipeD, bareS]) r2 t.toNat
  have c4 := fun cap => compL_ok (cap := cap) (its := ⟨(List.range t.toNat).map fun j : Nat => D.int j, fun _ => True⟩) pl_range (by simp; omega) r2 e3 pl_ints r3
  obtain ⟨u, M4, e4, u0, u1, r4⟩ := taken_ok r3 (a := 6) (by decide) (by decide)
  have c5 : ∀ cap, callL 2 r__law_taken cap [.obj 0, .int 6] M3 = .ok (.int u) M4 := fun cap => callL_ok rfl rfl r3 e4 rfl r4
  have g4 := rng1_int (M := M4) (i := 1 + u) (by omega) (by omega)
  obtain ⟨ss, M5, e5, l5, o5, r5⟩ := pat_comp (σ := wipeD (bareS [some (.scr ns), some (.obj 0), some (.tup [.tup ls, .tup ps, .str e]), x3, some (.str T), some (.str W), some (tupN nn), x7, x8, x9, x10, x11, x12, x13, x14, x15, x16, x17, x18, x19]) [9]) (by simp [wipeD, bareS, noLam]) (by simp [wipeD, bareS]) r4 (1 + u).toNat
  have c6 := fun cap => compL_ok (cap := cap) (its := ⟨(List.range (1 + u).toNat).map fun j : Nat => D.int j, fun _ => True⟩) pl_range (by simp; omega) r4 e5 pl_steps r5
  have ss1 : 1 ≤ ss.length := by omega
  have ss6 : ss.length ≤ 6 := by omega
  have nn6 : nn.length ≤ 6 := by omega
  have e6 := line_comp (σ := wipeD (bareS [some (.scr ns), some (.obj 0), some (.tup [.tup ls, .tup ps, .str e]), x3, some (.str T), some (.str W), some (tupN nn), some (.tup (ss.map Sp3.d)), x8, x9, x10, x11, x12, x13, x14, x15, x16, x17, x18, x19]) [18]) (M := M5) o5 (by simp [wipeD, bareS])
  have c7 := fun cap => compL_ok (cap := cap) (its := ⟨ss.map Sp3.d, fun _ => True⟩) pl_steps (by simp; omega) r5 e6 (plL_mem.mpr fun d hd => by obtain ⟨s, _, rfl⟩ := List.mem_map.mp hd; rfl) r5
  have j7 := join_pats (M := M5) o5 ss6
  generalize hL : patW ss = L at *
  have smL : Sm L := by rw [← hL]; exact ⟨patW_len o5 ss6, (patW_ok o5 ss6).2⟩
  -- the calls that are compared
  have q1 : ∀ cap, callL 1 r_code_of cap [.str T] M5 = .ok (.str W) M5 := fun cap => callL_ok rfl rfl r5 (by rw [code_of_str lT2, tT, hW]; rfl) rfl r5
  have q2 : ∀ cap, callL 1 r_read_code cap [.str W] M5 = .ok (.str T) M5 := fun cap => callL_ok rfl rfl r5 (by
    rw [read_code_str (by have := smW.1; omega) (rowM_all r5).2.2.2.1, ← hW, uncode_code oT (by omega)]) rfl r5
  have pnn : plL [tupN nn] = true := by rw [plL_mem]; intro d hd; rw [List.mem_singleton.mp hd]; exact pl_ints
  have pnn1 : pl (tupN nn) = true := pl_ints
  have q3 : ∀ cap, callL 1 r_path_text cap [tupN nn] M5 = .ok (.str (pathW nn)) M5 := fun cap => callL_ok pnn rfl r5 (path_text_ok o3 (by omega)) rfl r5
  have q4 : ∀ cap, callL 1 r__law_path_word cap [tupN nn] M5 = .ok (.str (pathW nn)) M5 := fun cap => callL_ok pnn rfl r5 (law_path_word_ok o3 (by omega)) rfl r5
  have pW := pathW_ok o3 nn6
  have q5 : ∀ cap, callL 1 r_read_path cap [.str (pathW nn)] M5 = .ok (tupN nn) M5 := fun cap => callL_ok rfl rfl r5 (by rw [read_path_str (by omega), pathU_W o3]) pnn1 r5
  have gaP : ga 6 (.tup [.str W, .str T, .str (pathW nn), tupN nn]) := by
    refine ⟨by simp, fun x hx => ?_⟩
    simp only [List.mem_cons, List.not_mem_nil, or_false] at hx
    rcases hx with rfl | rfl | rfl | rfl
    · trivial
    · trivial
    · trivial
    · refine ⟨by simp; omega, fun y hy => ?_⟩
      obtain ⟨n, _, rfl⟩ := List.mem_map.mp hy
      trivial
  have a1 : ∀ cap, callL 2 (r__law_alike 6) cap [.tup [.str W, .str T, .str (pathW nn), tupN nn], .tup [.str W, .str T, .str (pathW nn), tupN nn]] M5 = .ok (.bl true) M5 := fun cap => alikeL r5 (by simp [pl, plL, pl_ints]) gaP
  have pss : pl (.tup (ss.map Sp3.d)) = true := pl_steps
  have pss1 : plL [D.tup (ss.map Sp3.d)] = true := by simp [plL, pss]
  have q6 : ∀ cap, callL 1 r_pattern_text cap [.tup (ss.map Sp3.d)] M5 = .ok (.str L) M5 := fun cap => callL_ok pss1 rfl r5 (by rw [pattern_text_ok o5 ss1 ss6, hL]) rfl r5
  have q7 : ∀ cap, callL 1 r_read_pattern cap [.str L] M5 = .ok (.tup (ss.map Sp3.d)) M5 := fun cap => callL_ok rfl rfl r5 (by rw [read_pattern_str (by have := smL.1; omega), ← hL, patU_W o5 ss1 ss6]) pss r5
  have q8 : ∀ cap, callL 1 r_is_pattern cap [.tup (ss.map Sp3.d)] M5 = .ok (.bl true) M5 := fun cap => callL_ok pss1 rfl r5 (is_pattern_ok o5 ss1 ss6) rfl r5
  have gaQ : ga 6 (.tup [.str L, .tup (ss.map Sp3.d), .bl true]) := by
    refine ⟨by simp, fun x hx => ?_⟩
    simp only [List.mem_cons, List.not_mem_nil, or_false] at hx
    rcases hx with rfl | rfl | rfl
    · trivial
    · refine ⟨by simp; omega, fun y hy => ?_⟩
      obtain ⟨s, _, rfl⟩ := List.mem_map.mp hy
      refine ⟨by simp, fun z hz => ?_⟩
      simp only [List.mem_cons, List.not_mem_nil, or_false] at hz
      rcases hz with rfl | rfl | rfl <;> trivial
    · trivial
  have a2 : ∀ cap, callL 2 (r__law_alike 6) cap [.tup [.str L, .tup (ss.map Sp3.d), .bl true], .tup [.str L, .tup (ss.map Sp3.d), .bl true]] M5 = .ok (.bl true) M5 := fun cap => alikeL r5 (by simp [pl, plL, pl_steps]) gaQ
  -- the inner loop
  obtain ⟨σ9, M9, e9, r9, y9, y10, y11, y12, rfl⟩ := runFor_inv (g := gtName 9) (ok := fun _ => True) (b := bInner) (Inv := fun σ M => RowM M ∧ ∃ y9 y10 y11 y12, σ = [some (.scr ns), some (.obj 0), some (.tup [.tup ls, .tup ps, .str e]), x3, some (.str T), some (.str W), some (tupN nn), some (.tup (ss.map Sp3.d)), some (.str L), y9, y10, y11, y12, x13, x14, x15, x16, x17, x18, x19]) (items := [.int 0, .int 1, .int 2])
    (σ := [some (.scr ns), some (.obj 0), some (.tup [.tup ls, .tup ps, .str e]), x3, some (.str T), some (.str W), some (tupN nn), some (.tup (ss.map Sp3.d)), some (.str L), x9, x10, x11, x12, x13, x14, x15, x16, x17, x18, x19]) (M := M5) (fun _ _ _ => trivial) (fun d hd σ M hI => by
      obtain ⟨hr, y9, y10, y11, y12, rfl⟩ := hI
      obtain ⟨z10, z11, z12, M', ez, rz⟩ := inner_ok hr (ns := ns) (told := some (.tup [.tup ls, .tup ps, .str e])) (x3 := x3) (x4 := some (.str T)) (x7 := some (.tup (ss.map Sp3.d))) (x9 := some d) (x10 := y10) (x11 := y11) (x12 := y12) (x13 := x13) (x14 := x14) (x15 := x15) (x16 := x16) (x17 := x17) (x18 := x18) (x19 := x19) smW o3 nn6 smL
      exact ⟨_, _, rfl, _, M', ez, rz, _, _, _, _, rfl⟩) ⟨r5, _, _, _, _, rfl⟩
  have g9 : rng1 [.int 3] M5 = .ok ⟨[.int 0, .int 1, .int 2], fun _ => True⟩ M5 := by rw [rng1_int (by decide) (by decide)]; rfl
  refine ⟨x3, some (.str T), some (.str W), some (tupN nn), some (.tup (ss.map Sp3.d)), some (.str L), y9, y10, y11, y12, x13, x14, x15, x16, x17, x18, x19, M9, ?_, r9⟩
  unfold bInner at e9
  unfold mStep at c6
  unfold mLine at c7
  unfold bTurn
  rw [sSeq_ap, show (sSet 4 (mCallL 3 r__law_text [] js_law (aCons (mVar 1) (aCons (mTup (aCons (mOp gIx (mVar 2) (mC (.int 0))) (aCons (mOp gIx (mVar 2) (mC (.int 1))) (aCons (mC (.str [126])) (aNil))))) (aCons (mC (.int 9)) (aNil)))))) _ M = .nx [some (.scr ns), some (.obj 0), some (.tup [.tup ls, .tup ps, .str e]), x3, some (.str T), x5, x6, x7, x8, x9, x10, x11, x12, x13, x14, x15, x16, x17, x18, x19] M1 by simp [c1], at_nx]
  rw [sSeq_ap, show (sSet 5 (mCallL 1 r__law_code [] js_law (aCons (mVar 4) (aNil)))) _ M1 = .nx [some (.scr ns), some (.obj 0), some (.tup [.tup ls, .tup ps, .str e]), x3, some (.str T), some (.str W), x6, x7, x8, x9, x10, x11, x12, x13, x14, x15, x16, x17, x18, x19] M1 by simp [c2], at_nx]
  simp [c3, g2, c4, gTuple, c5, g4, c6, c7, j7, q1, q2, q3, q4, q5, a1, q6, q7, q8, a2, g9, e9]
end K33

set_option maxRecDepth 100000
set_option maxHeartbeats 2000000
namespace K33
open PySem PySem.Spec PyProof.Rows L2 MT
theorem compL_lam {g : DGt} {c : DT} {m : DM} {vs : List Nat} {cap : Nat → Option (List D)} {σ : Slots} {its : Its} {M : Mem} {cs rs : List D} (hc : convL cap its.items = some cs) (hl : cs.length ≤ 1000000) (hl2 : cs.length = its.items.length) (hM : RowM M) (e : runC g c m its.ok cs (wipeD (bareS σ) vs) M = .ok rs M) (hr : plL rs = true) : compL g c m vs cap σ its M = .ok (.lst rs) M := by
  unfold compL
  rw [hc]
  dsimp only
  rw [if_pos ⟨hl, hl2, (rowM_all hM).2.1⟩, e]
  unfold clean
  dsimp only
  rw [if_pos ⟨(plL_clo rs hr).1, (rowM_all hM).1⟩]
  rfl
theorem told4 {σ : Slots} {M : Mem} {a b c d a' b' c' d' : D} (hl : σ.length = 20) (e1 : r__law_told [a] M = .ok a' M) (e2 : r__law_told [b] M = .ok b' M) (e3 : r__law_told [c] M = .ok c' M) (e4 : r__law_told [d] M = .ok d' M) :
    runC (gtName 17) tTrue (mCall 1 r__law_told (aCons (mVar 17) (aNil))) (fun _ => True) [a, b, c, d] σ M = .ok [a', b', c', d'] M := by
  have elt : ∀ x : D, (mCall 1 r__law_told (aCons (mVar 17) (aNil))) (σ.set 17 (some x)) M = r__law_told [x] M := fun x => by
    have s : (σ.set 17 (some x))[17]? = some (some x) := List.getElem?_set_self (by omega)
    simp [s]
  simp only [runC, if_true, gtName_ap, tTrue_ap, elt, e1, e2, e3, e4, bind_ok]
def Bad (d : D) : Prop := pl d = true ∧ okD d ∧ szD d ≤ 30000 ∧ dpD d ≤ 2
theorem bad_ok {d : D} (h : Bad d) : pl (.tup [badNum, d]) = true ∧ okD (.tup [badNum, d]) ∧ szD (.tup [badNum, d]) ≤ 2000200 ∧ dpD (.tup [badNum, d]) ≤ 11 := by
  have kb : ∀ c ∈ [66, 97, 100, 78, 117, 109, 98, 101, 114], c < 16 ^ 8 := by decide
  obtain ⟨h1, h2, h3, h4⟩ := h
  refine ⟨?_, ⟨kb, h2, trivial⟩, ?_, ?_⟩
  · show (true && (pl d && true)) = true; rw [h1]; rfl
  · show (10 * 9 + 2) + 2 + (szD d + 2 + 0) + 3 ≤ _; omega
  · show max 0 (max (dpD d) 0) + 1 ≤ 11; omega
theorem same4 {a b c d : D} {M : Mem} {cap : Nat → Option (List D)} (hM : RowM M) (ha : Bad a) (hb : Bad b) (hc : Bad c) (hd : Bad d) : callL 2 r__law_same cap [.lst [.tup [badNum, a], .tup [badNum, b], .tup [badNum, c], .tup [badNum, d]], .lst [.tup [badNum, a], .tup [badNum, b], .tup [badNum, c], .tup [badNum, d]]] M = .ok (.bl true) M := by
  have ha := bad_ok ha
  have hb := bad_ok hb
  have hc := bad_ok hc
  have hd := bad_ok hd
  generalize D.tup [badNum, a] = a at *
  generalize D.tup [badNum, b] = b at *
  generalize D.tup [badNum, c] = c at *
  generalize D.tup [badNum, d] = d at *
  have pp : plL [D.lst [a, b, c, d], .lst [a, b, c, d]] = true := by simp [plL, pl, ha.1, hb.1, hc.1, hd.1]
  refine callL_ok pp rfl hM (same_ok (by simp) ⟨ha.2.1, hb.2.1, hc.2.1, hd.2.1, trivial⟩ ?_ ?_) rfl hM
  · show szD a + 2 + (szD b + 2 + (szD c + 2 + (szD d + 2 + 0))) ≤ _
    have := ha.2.2.1; have := hb.2.2.1; have := hc.2.2.1; have := hd.2.2.1
    omega
  · show max (dpD a) (max (dpD b) (max (dpD c) (max (dpD d) 0))) ≤ 40
    have := ha.2.2.2; have := hb.2.2.2; have := hc.2.2.2; have := hd.2.2.2
    omega
theorem aaa_bad : Bad (.str aaa) := by
  refine ⟨rfl, fun c hc => ?_, ?_, by decide⟩
  · simp at hc
    rw [hc]
    decide
  · show 10 * aaa.length + 2 ≤ 30000
    rw [a2001_len]
    decide
theorem rep3 {M : Mem} {x : D} : gMul M (.lst [x]) (.int 3) = some (.lst [x, x, x]) := by
  have := gMul_lst (M := M) (ds := [x]) (k := 3) (by simp) (by decide)
  simpa using this
theorem law_ok (ns : List Int) : ∃ M, r_law [.scr ns] [] = .ok (.bl true) M := by
  have r0 : RowM [.lst [.scr ns, .int 0, .int 20333, .int 0]] := ⟨ns, 0, 20333, 0, rfl, Int.le_refl _⟩
  obtain ⟨ls, ps, e, M1, e1, r1, hls, hps, hl, hp⟩ := marks_ok r0
  have pls : plL ls = true := plL_mem.mpr fun d hd => by obtain ⟨c, n, w, rfl, _⟩ := hl d hd; rfl
  have pps : plL ps = true := plL_mem.mpr fun d hd => by obtain ⟨c, e, n, w, rfl, _⟩ := hp d hd; rfl
  have c1 : ∀ cap, callL 1 r__law_marks cap [.obj 0] [.lst [.scr ns, .int 0, .int 20333, .int 0]] = .ok (.tup [.tup ls, .tup ps, .str e]) M1 := fun cap => callL_ok rfl rfl r0 e1 (by simp [pl, plL, pls, pps]) r1
  -- the turns
  obtain ⟨σ2, M2, e2, r2, y3, y4, y5, y6, y7, y8, y9, y10, y11, y12, y13, y14, y15, y16, y17, y18, y19, rfl⟩ := runFor_inv (g := gtName 3) (ok := fun _ => True) (b := bTurn) (Inv := fun σ M => RowM M ∧ ∃ y3 y4 y5 y6 y7 y8 y9 y10 y11 y12 y13 y14 y15 y16 y17 y18 y19, σ = [some (.scr ns), some (.obj 0), some (.tup [.tup ls, .tup ps, .str e]), y3, y4, y5, y6, y7, y8, y9, y10, y11, y12, y13, y14, y15, y16, y17, y18, y19]) (items := [.int 0, .int 1, .int 2, .int 3, .int 4, .int 5])
    (σ := [some (.scr ns), some (.obj 0), some (.tup [.tup ls, .tup ps, .str e]), none, none, none, none, none, none, none, none, none, none, none, none, none, none, none, none, none]) (M := M1) (fun _ _ _ => trivial) (fun d hd σ M hI => by
      obtain ⟨hr, y3, y4, y5, y6, y7, y8, y9, y10, y11, y12, y13, y14, y15, y16, y17, y18, y19, rfl⟩ := hI
      obtain ⟨z3, z4, z5, z6, z7, z8, z9, z10, z11, z12, z13, z14, z15, z16, z17, z18, z19, M', ez, rz⟩ := turn_ok hr (ns := ns) (e := e) hls hps hl hp (x3 := some d) (x4 := y4) (x5 := y5) (x6 := y6) (x7 := y7) (x8 := y8) (x9 := y9) (x10 := y10) (x11 := y11) (x12 := y12) (x13 := y13) (x14 := y14) (x15 := y15) (x16 := y16) (x17 := y17) (x18 := y18) (x19 := y19)
      exact ⟨_, _, rfl, _, M', ez, rz, _, _, _, _, _, _, _, _, _, _, _, _, _, _, _, _, _, rfl⟩) ⟨r1, _, _, _, _, _, _, _, _, _, _, _, _, _, _, _, _, _, rfl⟩
  have g1 : rng1 [.int 6] M1 = .ok ⟨[.int 0, .int 1, .int 2, .int 3, .int 4, .int 5], fun _ => True⟩ M1 := by rw [rng1_int (by decide) (by decide)]; rfl
  -- odd things
  obtain ⟨od, M3, e3, ho, r3⟩ := pick_ok r2 (ds := odd2D) (by decide) (by decide)
  obtain ⟨_, _, _, po, oo, zo, ko⟩ := odd2_facts ho r3
  have bo : Bad od := ⟨po, oo, zo, ko⟩
  have no : noLam od = true := (pl_clo od po).2.1
  have c3 : ∀ cap, callL 2 r__law_pick cap [.obj 0, .lst odd2D] M2 = .ok od M3 := fun cap => callL_ok (by decide) rfl r2 e3 po r3
  have t3 := told4 (M := M3) (σ := wipeD (bareS [some (.scr ns), some (.obj 0), some (.tup [.tup ls, .tup ps, .str e]), y3, y4, y5, y6, y7, y8, y9, y10, y11, y12, some od, some (.lst [.lam 3, .lam 4, .lam 5, .lam 6]), y15, y16, y17, y18, y19]) [17]) (by simp [wipeD, bareS]) (cr3 ho r3) (cr4 ho r3) (cr5 ho r3) (cr6 r3)
  have p3 : plL [D.tup [badNum, od], .tup [badNum, od], .tup [badNum, od], .tup [badNum, .str aaa]] = true := by
    have := (bad_ok bo).1
    simp only [plL, this]
    rfl
  have d3 := compL_lam (cap := capF [some (.scr ns), some (.obj 0), some (.tup [.tup ls, .tup ps, .str e]), y3, y4, y5, y6, y7, y8, y9, y10, y11, y12, some od, some (.lst [.lam 3, .lam 4, .lam 5, .lam 6]), y15, y16, y17, y18, y19] [3, 4, 5, 6] js_law) (its := ⟨[.lam 3, .lam 4, .lam 5, .lam 6], fun _ => True⟩) (cs := [.clo 3 [od], .clo 4 [od], .clo 5 [od], .clo 6 []]) (by simp [convL, convD, capF, js_law, capsOf, no]) (by simp) rfl r3 t3 p3
  have s3 : ∀ cap, callL 2 r__law_same cap [.lst [.tup [badNum, od], .tup [badNum, od], .tup [badNum, od], .tup [badNum, .str aaa]], .lst [.tup [badNum, od], .tup [badNum, od], .tup [badNum, od], .tup [badNum, .str aaa]]] M3 = .ok (.bl true) M3 := fun cap => same4 r3 bo bo bo aaa_bad
  have g3 : gAdd M3 (.lst [.tup [badNum, od], .tup [badNum, od], .tup [badNum, od]]) (.lst [.tup [badNum, .str aaa]]) = some (.lst [.tup [badNum, od], .tup [badNum, od], .tup [badNum, od], .tup [badNum, .str aaa]]) := by rw [gAdd_lst (by simp)]; rfl
  -- bad, wrong
  obtain ⟨bd, M4, e4, r4, hb⟩ := odd_ok r3
  obtain ⟨_, pb, ob, zb, kb⟩ := odd_facts hb M4
  have bb : Bad bd := ⟨pb, ob, zb, kb⟩
  have nb : noLam bd = true := (pl_clo bd pb).2.1
  have c4 : ∀ cap, callL 1 r__law_odd_text cap [.obj 0] M3 = .ok bd M4 := fun cap => callL_ok rfl rfl r3 e4 pb r4
  obtain ⟨wr, M5, e5, hw, r5⟩ := pick_ok r4 (ds := wrongD) (by decide) (by decide)
  obtain ⟨_, pw, ow, zw, kw⟩ := wrong_facts hw (M := M5)
  have bw : Bad wr := ⟨pw, ow, zw, kw⟩
  have nw : noLam wr = true := (pl_clo wr pw).2.1
  have c5 : ∀ cap, callL 2 r__law_pick cap [.obj 0, .lst wrongD] M4 = .ok wr M5 := fun cap => callL_ok (by decide) rfl r4 e5 pw r5
  have be : Bad (.tup []) := ⟨rfl, trivial, by decide, by decide⟩
  have t5 := told4 (M := M5) (σ := wipeD (bareS [some (.scr ns), some (.obj 0), some (.tup [.tup ls, .tup ps, .str e]), y3, y4, y5, y6, y7, y8, y9, y10, y11, y12, some od, some (.lst [.lam 7, .lam 8, .lam 9, .lam 10]), some bd, some wr, y17, y18, y19]) [17]) (by simp [wipeD, bareS]) (cr7 hb r5) (cr8 hw r5) (cr9 hw r5) (cr10 r5)
  have p5 : plL [D.tup [badNum, bd], .tup [badNum, wr], .tup [badNum, wr], .tup [badNum, .tup []]] = true := by
    have := (bad_ok bb).1
    have := (bad_ok bw).1
    simp only [plL, *]
    rfl
  have d5 := compL_lam (cap := capF [some (.scr ns), some (.obj 0), some (.tup [.tup ls, .tup ps, .str e]), y3, y4, y5, y6, y7, y8, y9, y10, y11, y12, some od, some (.lst [.lam 7, .lam 8, .lam 9, .lam 10]), some bd, some wr, y17, y18, y19] [7, 8, 9, 10] js_law) (its := ⟨[.lam 7, .lam 8, .lam 9, .lam 10], fun _ => True⟩) (cs := [.clo 7 [bd], .clo 8 [wr], .clo 9 [wr], .clo 10 []]) (by simp [convL, convD, capF, js_law, capsOf, nb, nw]) (by simp) rfl r5 t5 p5
  have s5 : ∀ cap, callL 2 r__law_same cap [.lst [.tup [badNum, bd], .tup [badNum, wr], .tup [badNum, wr], .tup [badNum, .tup []]], .lst [.tup [badNum, bd], .tup [badNum, wr], .tup [badNum, wr], .tup [badNum, .tup []]]] M5 = .ok (.bl true) M5 := fun cap => same4 r5 bb bw bw be
  have m3 : ∀ M : Mem, gMulS M (.str [97]) (.int 2001) = some (.str aaa) := fun M => a2001
  clear p3 t3
  generalize aaa = A at m3 d3 s3 g3
  unfold bTurn at e2
  unfold odd2D at c3
  unfold wrongD at c5
  have key : b_law ([D.scr ns].map some ++ List.replicate (20 - 1) none) [] = .rt (.bl true) M5 := by
    unfold b_law
    simp [c1, g1, e2, c3]
    simp [d3, rep3, m3, g3, s3, c4, c5, gtTup, gtCons, gtNil]
    simp [d5, s5]
  refine ⟨trim 0 [.bl true] M5, ?_⟩
  unfold r_law runDefL
  rw [key]
  have := (rowM_all r5).2.1
  simp [noLam, this]
end K33

set_option maxRecDepth 100000
open PySem PySem.W PySem.Calls PyProof.Rows L2 LamX NdefX MT in
set_option maxHeartbeats 0 in
theorem PySem.Challenge.cw_marktrees_k33_whole_words_of_texts_holds : PySem.Challenge.rw_marktrees_k33_whole_words_of_texts.Holds := by
  w_on; o_law; k_head
  (case hw => w_witness2)
  case hc =>
    k_fill
    refine MT.walk_G (l := PySem.Challenge.rw_marktrees_k33_whole_words_of_texts) (n := 63) (x := "script") (CX := fun w => L2N.CX (PySem.Challenge.rw_marktrees_k33_whole_words_of_texts).prog w) rfl (by decide) (by kernel_rfl) (fun w h Y => PySem.W.km_in_of Y) ?F (fun w H s e s' ⟨_, _, _, _, _, _, _, _, _, _, _, _, hE⟩ => hE)
    intro w mg fa h Y KX G hmg0
    have hmg : mg ("law" : PySem.Str) = some (.ref fa) := by first | exact hmg0 | (have e := hmg0; exact e)
    refine' K33.top (P0 := 423) (l := PySem.Challenge.rw_marktrees_k33_whole_words_of_texts) KX G ?a_ValueError ?a_all ?a_bool ?a_int ?a_isinstance ?a_len ?a_list ?a_range ?a_repr ?a_set ?a_sorted ?a_str ?a_super ?a_tuple ?a_BREAK ?s_BREAK ?a_CODES ?l_CODES ?s_CODES ?k_CODES ?z_CODES ?a_LONGEST ?s_LONGEST ?a_MOST_STEPS ?s_MOST_STEPS ?a_MOST_TEXT ?s_MOST_TEXT ?a_NOTHING ?s_NOTHING ?a_SIGNS ?l_SIGNS ?s_SIGNS ?k_SIGNS ?z_SIGNS ?a_SMALL ?s_SMALL ?a_WORDS ?l_WORDS ?s_WORDS ?z_WORDS ?a_MarkError ?a_BadPart ?a_BadNumber ?a_Unknown ?a_BadPlace ?a_BadChange ?a_BadText ?a_BadLine ?a_BadClaim ?a_NothingDone ?egetattribute_BadNumber ?egetattr_BadNumber ?eclass_BadNumber ?esetattr_BadNumber ?einit_BadNumber ?ef_line_BadNumber ?ef_name_BadNumber ?ef_part_BadNumber ?ef_place_BadNumber ?ef_value_BadNumber ?eb_BadNumber ?ev_BadNumber ?ed_BadNumber ?en_BadNumber ?et_BadNumber ?em_BadNumber ?eo_BadNumber ?ety_BadNumber ?ek_BadNumber ?eti_BadNumber ?es_BadNumber ?el_BadNumber ?ec_BadNumber ?ecode_BadNumber ?ecell_BadNumber ?ecls_BadNumber ?eob_BadNumber ?eops_BadNumber ?etop_BadNumber ?ei_BadChange_BadNumber ?ei_BadClaim_BadNumber ?ei_BadLine_BadNumber ?ei_BadNumber_BadNumber ?ei_BadPart_BadNumber ?ei_BadPlace_BadNumber ?ei_BadText_BadNumber ?ei_NothingDone_BadNumber ?ei_Unknown_BadNumber ?ei_ValueError_BadNumber ?ex_MarkError_BadNumber ?a_is_whole ?l_is_whole ?i_is_whole ?j_is_whole ?a_is_name ?l_is_name ?i_is_name ?j_is_name ?a_is_text ?l_is_text ?i_is_text ?j_is_text ?a_is_row ?l_is_row ?i_is_row ?j_is_row ?a_is_count ?l_is_count ?i_is_count ?j_is_count ?a_is_step ?l_is_step ?i_is_step ?j_is_step ?a_is_pattern ?l_is_pattern ?i_is_pattern ?j_is_pattern ?a_need_pattern ?l_need_pattern ?i_need_pattern ?j_need_pattern ?a_code_of ?l_code_of ?i_code_of ?j_code_of ?a_read_code ?l_read_code ?i_read_code ?j_read_code ?a_path_text ?l_path_text ?i_path_text ?j_path_text ?a_read_path ?l_read_path ?i_read_path ?j_read_path ?a_step_text ?l_step_text ?i_step_text ?j_step_text ?a_pattern_text ?l_pattern_text ?i_pattern_text ?j_pattern_text ?a_read_step ?l_read_step ?i_read_step ?j_read_step ?a_read_pattern ?l_read_pattern ?i_read_pattern ?j_read_pattern ?a__law_taken ?l__law_taken ?i__law_taken ?j__law_taken ?a__law_pick ?l__law_pick ?i__law_pick ?j__law_pick ?a__law_alike ?l__law_alike ?i__law_alike ?j__law_alike ?a__law_same ?l__law_same ?i__law_same ?j__law_same ?a__law_refusal ?l__law_refusal ?i__law_refusal ?j__law_refusal ?a__law_is_name ?l__law_is_name ?i__law_is_name ?j__law_is_name ?a__law_marks ?l__law_marks ?i__law_marks ?j__law_marks ?a__law_letters ?l__law_letters ?i__law_letters ?j__law_letters ?a__law_text ?l__law_text ?i__law_text ?j__law_text ?a__law_odd_text ?l__law_odd_text ?i__law_odd_text ?j__law_odd_text ?a__law_code ?l__law_code ?i__law_code ?j__law_code ?a__law_uncode ?l__law_uncode ?i__law_uncode ?j__law_uncode ?a__law_is_count ?l__law_is_count ?i__law_is_count ?j__law_is_count ?a__law_uncode_path ?l__law_uncode_path ?i__law_uncode_path ?j__law_uncode_path ?a__law_path_word ?l__law_path_word ?i__law_path_word ?j__law_path_word ?a__law_spoiled_line ?l__law_spoiled_line ?i__law_spoiled_line ?j__law_spoiled_line ?a__law_read_pattern ?l__law_read_pattern ?i__law_read_pattern ?j__law_read_pattern ?a__law_told ?l__law_told ?i__law_told ?j__law_told ?a_law ?l_law ?i_law ?j_law ?hcd (PySem.W.km_tabs_of Y _ (by k_mem)) ?nT ?cT hmg rfl (fun ns _ _ => K33.law_ok ns)
    (case' a_ValueError => k_is)
    (case' a_all => k_is)
    (case' a_bool => k_is)
    (case' a_int => k_is)
    (case' a_isinstance => k_is)
    (case' a_len => k_is)
    (case' a_list => k_is)
    (case' a_range => k_is)
    (case' a_repr => k_is)
    (case' a_set => k_is)
    (case' a_sorted => k_is)
    (case' a_str => k_is)
    (case' a_super => k_is)
    (case' a_tuple => k_is)
    (case' a_BREAK => k_is)
    (case' s_BREAK => rfl)
    (case' a_CODES => k_is)
    (case' l_CODES => k_is)
    (case' s_CODES => rfl)
    (case' k_CODES => exact ⟨⟨_, _, rfl, rfl⟩, ⟨_, _, rfl, rfl⟩, ⟨_, _, rfl, rfl⟩, trivial⟩)
    (case' z_CODES => exact by decide)
    (case' a_LONGEST => k_is)
    (case' s_LONGEST => rfl)
    (case' a_MOST_STEPS => k_is)
    (case' s_MOST_STEPS => rfl)
    (case' a_MOST_TEXT => k_is)
    (case' s_MOST_TEXT => rfl)
    (case' a_NOTHING => k_is)
    (case' s_NOTHING => rfl)
    (case' a_SIGNS => k_is)
    (case' l_SIGNS => k_is)
    (case' s_SIGNS => rfl)
    (case' k_SIGNS => exact ⟨⟨_, _, rfl, rfl⟩, ⟨_, _, rfl, rfl⟩, ⟨_, _, rfl, rfl⟩, trivial⟩)
    (case' z_SIGNS => exact by decide)
    (case' a_SMALL => k_is)
    (case' s_SMALL => rfl)
    (case' a_WORDS => k_is)
    (case' l_WORDS => k_is)
    (case' s_WORDS => rfl)
    (case' z_WORDS => exact by decide)
    (case' a_MarkError => k_is)
    (case' a_BadPart => k_is)
    (case' a_BadNumber => k_is)
    (case' a_Unknown => k_is)
    (case' a_BadPlace => k_is)
    (case' a_BadChange => k_is)
    (case' a_BadText => k_is)
    (case' a_BadLine => k_is)
    (case' a_BadClaim => k_is)
    (case' a_NothingDone => k_is)
    (case' egetattribute_BadNumber => k_is)
    (case' egetattr_BadNumber => k_is)
    (case' eclass_BadNumber => k_is)
    (case' esetattr_BadNumber => k_is)
    (case' einit_BadNumber => k_is)
    (case' ef_line_BadNumber => k_is)
    (case' ef_name_BadNumber => k_is)
    (case' ef_part_BadNumber => k_is)
    (case' ef_place_BadNumber => k_is)
    (case' ef_value_BadNumber => k_is)
    (case' eb_BadNumber => k_is)
    (case' ev_BadNumber => k_is)
    (case' ed_BadNumber => k_is)
    (case' en_BadNumber => k_is)
    (case' et_BadNumber => k_is)
    (case' em_BadNumber => k_is)
    (case' eo_BadNumber => k_is)
    (case' ety_BadNumber => k_is)
    (case' ek_BadNumber => k_is)
    (case' eti_BadNumber => k_is)
    (case' es_BadNumber => kernel_rfl)
    (case' el_BadNumber => k_is)
    (case' ec_BadNumber => k_is)
    (case' ecode_BadNumber => exact ⟨_, _, _, _, _, _, (by k_is), rfl, (by kernel_rfl)⟩)
    (case' ecell_BadNumber => exact ⟨_, _, _, (by k_is)⟩)
    (case' ecls_BadNumber => exact ⟨_, (by k_is)⟩)
    (case' eob_BadNumber => exact ⟨_, _, _, _, _, _, _, _, _, _, _, _, _, _, _, (by k_is), (by kernel_rfl)⟩)
    (case' eops_BadNumber => k_is)
    (case' etop_BadNumber => kernel_rfl)
    (case' ei_BadChange_BadNumber => kernel_rfl)
    (case' ei_BadClaim_BadNumber => kernel_rfl)
    (case' ei_BadLine_BadNumber => kernel_rfl)
    (case' ei_BadNumber_BadNumber => kernel_rfl)
    (case' ei_BadPart_BadNumber => kernel_rfl)
    (case' ei_BadPlace_BadNumber => kernel_rfl)
    (case' ei_BadText_BadNumber => kernel_rfl)
    (case' ei_NothingDone_BadNumber => kernel_rfl)
    (case' ei_Unknown_BadNumber => kernel_rfl)
    (case' ei_ValueError_BadNumber => kernel_rfl)
    (case' ex_MarkError_BadNumber => kernel_rfl)
    (case' a_is_whole => k_is)
    (case' l_is_whole => k_is)
    (case' i_is_whole => k_is)
    (case' j_is_whole => k_is)
    (case' a_is_name => k_is)
    (case' l_is_name => k_is)
    (case' i_is_name => k_is)
    (case' j_is_name => k_is)
    (case' a_is_text => k_is)
    (case' l_is_text => k_is)
    (case' i_is_text => k_is)
    (case' j_is_text => k_is)
    (case' a_is_row => k_is)
    (case' l_is_row => k_is)
    (case' i_is_row => k_is)
    (case' j_is_row => k_is)
    (case' a_is_count => k_is)
    (case' l_is_count => k_is)
    (case' i_is_count => k_is)
    (case' j_is_count => k_is)
    (case' a_is_step => k_is)
    (case' l_is_step => k_is)
    (case' i_is_step => k_is)
    (case' j_is_step => k_is)
    (case' a_is_pattern => k_is)
    (case' l_is_pattern => k_is)
    (case' i_is_pattern => k_is)
    (case' j_is_pattern => k_is)
    (case' a_need_pattern => k_is)
    (case' l_need_pattern => k_is)
    (case' i_need_pattern => k_is)
    (case' j_need_pattern => k_is)
    (case' a_code_of => k_is)
    (case' l_code_of => k_is)
    (case' i_code_of => k_is)
    (case' j_code_of => k_is)
    (case' a_read_code => k_is)
    (case' l_read_code => k_is)
    (case' i_read_code => k_is)
    (case' j_read_code => k_is)
    (case' a_path_text => k_is)
    (case' l_path_text => k_is)
    (case' i_path_text => k_is)
    (case' j_path_text => k_is)
    (case' a_read_path => k_is)
    (case' l_read_path => k_is)
    (case' i_read_path => k_is)
    (case' j_read_path => k_is)
    (case' a_step_text => k_is)
    (case' l_step_text => k_is)
    (case' i_step_text => k_is)
    (case' j_step_text => k_is)
    (case' a_pattern_text => k_is)
    (case' l_pattern_text => k_is)
    (case' i_pattern_text => k_is)
    (case' j_pattern_text => k_is)
    (case' a_read_step => k_is)
    (case' l_read_step => k_is)
    (case' i_read_step => k_is)
    (case' j_read_step => k_is)
    (case' a_read_pattern => k_is)
    (case' l_read_pattern => k_is)
    (case' i_read_pattern => k_is)
    (case' j_read_pattern => k_is)
    (case' a__law_taken => k_is)
    (case' l__law_taken => k_is)
    (case' i__law_taken => k_is)
    (case' j__law_taken => k_is)
    (case' a__law_pick => k_is)
    (case' l__law_pick => k_is)
    (case' i__law_pick => k_is)
    (case' j__law_pick => k_is)
    (case' a__law_alike => k_is)
    (case' l__law_alike => k_is)
    (case' i__law_alike => k_is)
    (case' j__law_alike => k_is)
    (case' a__law_same => k_is)
    (case' l__law_same => k_is)
    (case' i__law_same => k_is)
    (case' j__law_same => k_is)
    (case' a__law_refusal => k_is)
    (case' l__law_refusal => k_is)
    (case' i__law_refusal => k_is)
    (case' j__law_refusal => k_is)
    (case' a__law_is_name => k_is)
    (case' l__law_is_name => k_is)
    (case' i__law_is_name => k_is)
    (case' j__law_is_name => k_is)
    (case' a__law_marks => k_is)
    (case' l__law_marks => k_is)
    (case' i__law_marks => k_is)
    (case' j__law_marks => k_is)
    (case' a__law_letters => k_is)
    (case' l__law_letters => k_is)
    (case' i__law_letters => k_is)
    (case' j__law_letters => k_is)
    (case' a__law_text => k_is)
    (case' l__law_text => k_is)
    (case' i__law_text => k_is)
    (case' j__law_text => k_is)
    (case' a__law_odd_text => k_is)
    (case' l__law_odd_text => k_is)
    (case' i__law_odd_text => k_is)
    (case' j__law_odd_text => k_is)
    (case' a__law_code => k_is)
    (case' l__law_code => k_is)
    (case' i__law_code => k_is)
    (case' j__law_code => k_is)
    (case' a__law_uncode => k_is)
    (case' l__law_uncode => k_is)
    (case' i__law_uncode => k_is)
    (case' j__law_uncode => k_is)
    (case' a__law_is_count => k_is)
    (case' l__law_is_count => k_is)
    (case' i__law_is_count => k_is)
    (case' j__law_is_count => k_is)
    (case' a__law_uncode_path => k_is)
    (case' l__law_uncode_path => k_is)
    (case' i__law_uncode_path => k_is)
    (case' j__law_uncode_path => k_is)
    (case' a__law_path_word => k_is)
    (case' l__law_path_word => k_is)
    (case' i__law_path_word => k_is)
    (case' j__law_path_word => k_is)
    (case' a__law_spoiled_line => k_is)
    (case' l__law_spoiled_line => k_is)
    (case' i__law_spoiled_line => k_is)
    (case' j__law_spoiled_line => k_is)
    (case' a__law_read_pattern => k_is)
    (case' l__law_read_pattern => k_is)
    (case' i__law_read_pattern => k_is)
    (case' j__law_read_pattern => k_is)
    (case' a__law_told => k_is)
    (case' l__law_told => k_is)
    (case' i__law_told => k_is)
    (case' j__law_told => k_is)
    (case' a_law => k_is)
    (case' l_law => k_is)
    (case' i_law => k_is)
    (case' j_law => k_is)
    (case' hcd => rfl)
    (case' nT => kernel_rfl)
    (case' cT => kernel_rfl)

