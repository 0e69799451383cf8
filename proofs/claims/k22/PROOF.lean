import PyProof.Rows.All
import Wide.All
import OpenK.AllK
import Wide.FinOn
import HandS.ForMost
import HandS.ForExc
import HandS.Deep
import HandS.Lambda
import KE.DataEq
import KE.DataCmp
import KE.DataMinMax
import KE.DataAny
import KE.DataFind
import KE.DataIsa
import HandS.TupAny
import HandS.TupMul
import HandS.TupLe
import HandS.Wide
import KE.SortData
import HandS.Conv
import KE.GoesNew
import KE.KDictZip
import HandS.Comp
import HandS.Style
import HandS.ExcOwn
import HandS.WordsExc
import HandS.Text
import HandS.SetFor
import PyProof.Rows.ReprR
import HandS.ReCall
import PyProof.SeqIndex
import KE.KRevSl
import HandS.ExcIs
import HandS.HeadWalk
import HandS.Head0
import HandS.Head1
import HandS.Head2
import HandS.HeadEnd
import HandS.HeadHook4
import HandS.Defaults
import PyProof.ExcBaseAll.ValueError
import PyProof.ReprReads
import PyProof.ReprLen
import PySem.Challenge.RW_roomscut_k22_whole_refusals_of_runs
set_option Elab.async false
set_option linter.all false
set_option maxRecDepth 100000
set_option maxHeartbeats 200000
namespace Mi
open PySem PySem.Spec PyProof.Rows L2
abbrev Sg := L2.St
/-- the tables of code objects that are known, and their code objects' names -/
class Tb where
  T : List (Addr × Str)
variable [Tb]

/-- a value: data that stays, or a list of one's own -/
inductive T where
  | d (x : PyData)
  | l (xs : List T)

/-- no table of code objects -/
def NT (o : HO) : Prop := ∀ ps, o ≠ .tbl ps
theorem nt_lst {xs : List V} : NT (.lst xs) := fun _ h => nomatch h
theorem nt_tup {xs : List V} : NT (.tup xs) := fun _ h => nomatch h
theorem nt_frz {ob : Obj} {u : HO} : NT (.frz ob u) := fun _ h => nomatch h
/-- no table, or none of the known ones -/
def Nx (a : Addr) (o : HO) : Prop := NT o ∨ ∀ p ∈ Tb.T, a ≠ p.1
/-- all but the cells of M and the tables stays; the tables may have grown -/
structure Kp (M : List Addr) (H H' : Hp) : Prop where
  k : ∀ a o, a ∉ M → H a = some o → Nx a o → H' a = some o
  d : ∀ a, a ∉ M → H' a = none → H a = none
  t : LamX.Tabs Tb.T H → LamX.Tabs Tb.T H'
abbrev SameN (H H' : Hp) : Prop := Kp [] H H'
theorem Kp.of {H H' : Hp} {M : List Addr} (s : Same H H') : Kp M H H' := ⟨fun a o _ e _ => s a o e, fun a _ e => s.free e, fun h => h.ext s⟩
theorem _root_.L2.Same.n {H H' : Hp} (s : Same H H') : SameN H H' := Kp.of s
theorem Kp.refl {H : Hp} {M : List Addr} : Kp M H H := Kp.of (Same.refl _)
theorem Kp.trans' {H H1 H2 : Hp} {M N : List Addr} (a : Kp M H H1) (b : Kp N H1 H2) (s : ∀ c ∈ N, c ∈ M ∨ H c = none) : Kp M H H2 := by
  refine ⟨fun c o hc e n => ?_, fun c hc e => ?_, fun h => b.t (a.t h)⟩
  · refine b.k c o (fun hn => ?_) (a.k c o hc e n) n
    rcases s c hn with z | z
    · exact hc z
    · rw [z] at e; cases e
  · by_cases hn : c ∈ N
    · rcases s c hn with z | z
      · exact absurd z hc
      · exact z
    · exact a.d c hc (b.d c hn e)
theorem Kp.trans {H H1 H2 : Hp} (a : SameN H H1) (b : SameN H1 H2) : SameN H H2 := Kp.trans' a b fun _ h => nomatch h
theorem Kp.up {H H' : Hp} {M M' : List Addr} (a : Kp M H H') (s : ∀ c ∈ M, c ∈ M') : Kp M' H H' := ⟨fun c o hc e n => a.k c o (fun z => hc (s c z)) e n, fun c hc e => a.d c (fun z => hc (s c z)) e, a.t⟩
theorem Kp.lst {H H' : Hp} {M : List Addr} {a : Addr} {xs : List V} (h : Kp M H H') (ha : a ∉ M) (e : H a = some (.lst xs)) : H' a = some (.lst xs) := h.k a _ ha e (.inl nt_lst)
theorem Kp.free {H H' : Hp} {a : Addr} (h : SameN H H') (e : H' a = none) : H a = none := h.d a (fun z => nomatch z) e
theorem Kp.at {H H' : Hp} {a : Addr} {o : HO} (h : SameN H H') (e : H a = some o) (n : NT o) : H' a = some o := h.k a o (fun z => nomatch z) e (.inl n)
theorem Kp.on {H H' : Hp} {A M : List Addr} (h : Kp M H H') (d : ∀ a ∈ A, a ∉ M) (th : ∀ a ∈ A, ∃ vs, H a = some (.lst vs)) : ∀ a ∈ A, ∀ o, H a = some o → H' a = some o := fun a ha o e => by
  obtain ⟨vs, e2⟩ := th a ha
  rw [e2] at e; cases e
  exact h.lst (d a ha) e2
theorem tabS_upd {H : Hp} {a : Addr} {xs : List V} {o : HO} (e : H a = some (.lst xs)) {P : Addr} {q : Str} (h : LamX.TabS H P q) : LamX.TabS (upd H a o) P q := by
  obtain ⟨ps, h1, h2, h3⟩ := h
  refine ⟨ps, by rw [upd_ne (fun z => by rw [z, e] at h1; cases h1)]; exact h1, h2, fun pos cv hc => ?_⟩
  obtain ⟨c, e1, e2⟩ := h3 pos cv hc
  refine ⟨c, e1, by rw [upd_ne (fun z => by rw [z, e] at e2; unfold LamX.CodeO at e2; cases e2)]; exact e2⟩
theorem Kp.upd {H : Hp} {M : List Addr} {a : Addr} {xs ys : List V} (e : H a = some (.lst xs)) (ha : a ∈ M) : Kp M H (L2.upd H a (.lst ys)) :=
  ⟨fun c o hc e2 _ => by rw [upd_ne (fun z => hc (by rw [z]; exact ha))]; exact e2, fun c hc e2 => by rw [upd_ne (fun z => hc (by rw [z]; exact ha))] at e2; exact e2, fun h p hp => tabS_upd e (h p hp)⟩
theorem Rd.monoN {H H' : Hp} {a : Addr} {u : HO} (s : SameN H H') (n : NT u) (h : Rd H a u) : Rd H' a u := by
  rcases h with h | ⟨o, h⟩
  · exact .inl (s.at h n)
  · exact .inr ⟨o, s.at h nt_frz⟩
theorem SqL.monoN {K : PySem.W.Frag} {H H' : Hp} {a : Addr} {xs : List V} (s : SameN H H') (h : SqL K H a xs) : SqL K H' a xs := h.imp (Rd.monoN s nt_lst) id
theorem SqT.monoN {K : PySem.W.Frag} {H H' : Hp} {a : Addr} {xs : List V} (s : SameN H H') (h : SqT K H a xs) : SqT K H' a xs := h.imp (Rd.monoN s nt_tup) id
theorem Rd.mono {H H' : Hp} {a : Addr} {u : HO} (s : Same H H') (h : Rd H a u) : Rd H' a u := by
  rcases h with h | ⟨o, h⟩
  · exact .inl (s _ _ h)
  · exact .inr ⟨o, s _ _ h⟩
theorem SqL.mono {K : PySem.W.Frag} {H H' : Hp} {a : Addr} {xs : List V} (s : Same H H') (h : SqL K H a xs) : SqL K H' a xs := h.imp (Rd.mono s) id
theorem SqT.mono {K : PySem.W.Frag} {H H' : Hp} {a : Addr} {xs : List V} (s : Same H H') (h : SqT K H a xs) : SqT K H' a xs := h.imp (Rd.mono s) id
mutual
theorem Dp.mono {K : PySem.W.Frag} {H H' : Hp} (s : Same H H') : ∀ {x : PyData} {v : V}, Dp K H v x → Dp K H' v x
  | _, _, .non => .non
  | _, _, .bl b => .bl b
  | _, _, .int i => .int i
  | _, _, .str x => .str x
  | _, _, .lst h a => .lst (SqL.mono s h) (DpAll.mono s a)
  | _, _, .tup h a => .tup (SqT.mono s h) (DpAll.mono s a)
theorem DpAll.mono {K : PySem.W.Frag} {H H' : Hp} (s : Same H H') : ∀ {xs : List PyData} {vs : List V}, DpAll K H vs xs → DpAll K H' vs xs
  | _, _, .nil => .nil
  | _, _, .cons h a => .cons (Dp.mono s h) (DpAll.mono s a)
end

mutual
/-- t stands at v: data in the kept heap F; an own list in H, its cells told -/
inductive Ow (K : PySem.W.Frag) (F H : Hp) : T → V → List Addr → Prop
  | d {x : PyData} {v : V} : Dp K F v x → Ow K F H (.d x) v []
  | l {ts : List T} {vs : List V} {a : Addr} {M : List Addr} : H a = some (.lst vs) → Ows K F H ts vs M → Ow K F H (.l ts) (.ref a) (a :: M)
inductive Ows (K : PySem.W.Frag) (F H : Hp) : List T → List V → List Addr → Prop
  | nil : Ows K F H [] [] []
  | cons {t : T} {v : V} {M : List Addr} {ts : List T} {vs : List V} {N : List Addr} : Ow K F H t v M → Ows K F H ts vs N → Ows K F H (t :: ts) (v :: vs) (M ++ N)
end
mutual
/-- a look at t -/
inductive Vw (K : PySem.W.Frag) (F H : Hp) : T → V → Prop
  | d {x : PyData} {v : V} : Dp K F v x → Vw K F H (.d x) v
  | l {ts : List T} {vs : List V} {a : Addr} : H a = some (.lst vs) → Vws K F H ts vs → Vw K F H (.l ts) (.ref a)
inductive Vws (K : PySem.W.Frag) (F H : Hp) : List T → List V → Prop
  | nil : Vws K F H [] []
  | cons {t : T} {v : V} {ts : List T} {vs : List V} : Vw K F H t v → Vws K F H ts vs → Vws K F H (t :: ts) (v :: vs)
end
section
variable {K : PySem.W.Frag} {F H F' H' : Hp}
mutual
theorem Ow.keep (sF : Same F F') : ∀ {t : T} {v : V} {M : List Addr}, Ow K F H t v M → (∀ a ∈ M, ∀ o, H a = some o → H' a = some o) → Ow K F' H' t v M
  | _, _, _, .d h, _ => .d (Dp.mono sF h)
  | _, _, _, .l h hs, k => .l (k _ List.mem_cons_self _ h) (Ows.keep sF hs fun a ha => k a (List.mem_cons_of_mem _ ha))
theorem Ows.keep (sF : Same F F') : ∀ {t : List T} {v : List V} {M : List Addr}, Ows K F H t v M → (∀ a ∈ M, ∀ o, H a = some o → H' a = some o) → Ows K F' H' t v M
  | _, _, _, .nil, _ => .nil
  | _, _, _, .cons h hs, k => .cons (Ow.keep sF h fun a ha => k a (List.mem_append_left _ ha)) (Ows.keep sF hs fun a ha => k a (List.mem_append_right _ ha))
end
mutual
theorem Vw.mono (sF : Same F F') (sH : SameN H H') : ∀ {t : T} {v : V}, Vw K F H t v → Vw K F' H' t v
  | _, _, .d h => .d (Dp.mono sF h)
  | _, _, .l h hs => .l (sH.at h nt_lst) (Vws.mono sF sH hs)
theorem Vws.mono (sF : Same F F') (sH : SameN H H') : ∀ {t : List T} {v : List V}, Vws K F H t v → Vws K F' H' t v
  | _, _, .nil => .nil
  | _, _, .cons h hs => .cons (Vw.mono sF sH h) (Vws.mono sF sH hs)
end
mutual
theorem Ow.vw : ∀ {t : T} {v : V} {M : List Addr}, Ow K F H t v M → Vw K F H t v
  | _, _, _, .d h => .d h
  | _, _, _, .l h hs => .l h (Ows.vw hs)
theorem Ows.vw : ∀ {t : List T} {v : List V} {M : List Addr}, Ows K F H t v M → Vws K F H t v
  | _, _, _, .nil => .nil
  | _, _, _, .cons h hs => .cons (Ow.vw h) (Ows.vw hs)
end
mutual
theorem Ow.there : ∀ {t : T} {v : V} {M : List Addr}, Ow K F H t v M → ∀ a ∈ M, ∃ vs, H a = some (.lst vs)
  | _, _, _, .d h, _, ha => nomatch ha
  | _, _, _, .l h hs, a, ha => by
    rcases List.mem_cons.mp ha with e | ha
    · exact ⟨_, e ▸ h⟩
    · exact Ows.there hs a ha
theorem Ows.there : ∀ {t : List T} {v : List V} {M : List Addr}, Ows K F H t v M → ∀ a ∈ M, ∃ vs, H a = some (.lst vs)
  | _, _, _, .nil, _, ha => nomatch ha
  | _, _, _, .cons h hs, a, ha => by
    rcases List.mem_append.mp ha with ha | ha
    · exact Ow.there h a ha
    · exact Ows.there hs a ha
end
theorem Ows.length {ts : List T} {vs : List V} {M : List Addr} (h : Ows K F H ts vs M) : ts.length = vs.length := by
  induction ts generalizing vs M with
  | nil => cases h; rfl
  | cons t ts ih => cases h with | cons _ hs => simp [ih hs]
theorem Vws.length {ts : List T} {vs : List V} (h : Vws K F H ts vs) : ts.length = vs.length := by
  induction ts generalizing vs with
  | nil => cases h; rfl
  | cons t ts ih => cases h with | cons _ hs => simp [ih hs]
theorem Vws.get {ts : List T} {vs : List V} (h : Vws K F H ts vs) {i : Nat} {t : T} (e : ts[i]? = some t) : ∃ v, vs[i]? = some v ∧ Vw K F H t v := by
  induction ts generalizing vs i with
  | nil => cases e
  | cons t' ts ih =>
    cases h with
    | cons h1 hs =>
      cases i with
      | zero => cases e; exact ⟨_, rfl, h1⟩
      | succ i => obtain ⟨v, e', q⟩ := ih hs (i := i) (by simpa using e); exact ⟨v, by simpa using e', q⟩
theorem Ows.append {ts us : List T} {vs ws : List V} {M N : List Addr} (h : Ows K F H ts vs M) (g : Ows K F H us ws N) : Ows K F H (ts ++ us) (vs ++ ws) (M ++ N) := by
  induction ts generalizing vs M with
  | nil => cases h; exact g
  | cons t ts ih => cases h with | cons h1 hs => rw [List.append_assoc]; exact .cons h1 (ih hs)
end

/-! ### the slots -/
abbrev Env := List (Option T)
inductive Sl (K : PySem.W.Frag) (F H : Hp) : Env → Sg → List Addr → Prop
  | z : Sl K F H [] [] []
  | u {env : Env} {σ : Sg} {M : List Addr} {x : Option V} : Sl K F H env σ M → Sl K F H (none :: env) (x :: σ) M
  | s {env : Env} {σ : Sg} {M N : List Addr} {t : T} {v : V} : Ow K F H t v M → Sl K F H env σ N → Sl K F H (some t :: env) (some v :: σ) (M ++ N)
/-- the known tables are well in H, and not in the kept heap -/
def TbOk (F H : Hp) : Prop := LamX.Tabs Tb.T H ∧ ∀ p ∈ Tb.T, F p.1 = none
structure Rel (K : PySem.W.Frag) (F H : Hp) (env : Env) (σ : Sg) (M : List Addr) : Prop where
  sub : Same F H
  tb : TbOk F H
  own : Sl K F H env σ M
  nd : M.Nodup
  dis : ∀ a ∈ M, F a = none
/-- all that stood stands; F grows by new cells -/
structure Ext (F H F' H' : Hp) : Prop where
  f : Same F F'
  h : SameN H H'
  s : Same F' H'
  n : ∀ a o, F' a = some o → F a = some o ∨ H a = none
/-- new cells of one's own -/
structure Fresh (H F' : Hp) (M : List Addr) : Prop where
  nd : M.Nodup
  new : ∀ a ∈ M, H a = none
  dis : ∀ a ∈ M, F' a = none
/-- M may have been written, or let into F -/
structure Go (F H : Hp) (M : List Addr) (F' H' : Hp) (M' : List Addr) : Prop where
  f : Same F F'
  k : Kp M H H'
  n : ∀ a o, F' a = some o → F a = some o ∨ a ∈ M ∨ H a = none
  m : ∀ a ∈ M', a ∈ M ∨ H a = none
section
variable {K : PySem.W.Frag} {F H F' H' F2 H2 : Hp} {env : Env} {σ : Sg} {M M' M2 : List Addr}
theorem Sl.keep (sF : Same F F') : ∀ {env : Env} {σ : Sg} {M : List Addr}, Sl K F H env σ M → (∀ a ∈ M, ∀ o, H a = some o → H' a = some o) → Sl K F' H' env σ M
  | _, _, _, .z, _ => .z
  | _, _, _, .u h, k => .u (Sl.keep sF h k)
  | _, _, _, .s h hs, k => .s (Ow.keep sF h fun a ha => k a (List.mem_append_left _ ha)) (Sl.keep sF hs fun a ha => k a (List.mem_append_right _ ha))
theorem Sl.there : ∀ {env : Env} {σ : Sg} {M : List Addr}, Sl K F H env σ M → ∀ a ∈ M, ∃ vs, H a = some (.lst vs)
  | _, _, _, .z, _, ha => nomatch ha
  | _, _, _, .u h, a, ha => Sl.there h a ha
  | _, _, _, .s h hs, a, ha => by
    rcases List.mem_append.mp ha with ha | ha
    · exact Ow.there h a ha
    · exact Sl.there hs a ha
theorem Sl.length : ∀ {env : Env} {σ : Sg} {M : List Addr}, Sl K F H env σ M → env.length = σ.length
  | _, _, _, .z => rfl
  | _, _, _, .u h => by simp [Sl.length h]
  | _, _, _, .s _ h => by simp [Sl.length h]
theorem Sl.get : ∀ {env : Env} {σ : Sg} {M : List Addr}, Sl K F H env σ M → ∀ {i : Nat} {t : T}, env[i]? = some (some t) → ∃ v N, σ[i]? = some (some v) ∧ Ow K F H t v N ∧ ∀ a ∈ N, a ∈ M
  | _, _, _, .z, _, _, e => by cases e
  | _, _, _, .u h, 0, _, e => by cases e
  | _, _, _, .u h, i + 1, t, e => by
    obtain ⟨v, N, e1, q⟩ := Sl.get h (i := i) (by simpa using e)
    exact ⟨v, N, by simpa using e1, q⟩
  | _, _, _, .s h hs, 0, t, e => by cases e; exact ⟨_, _, rfl, h, fun a ha => List.mem_append_left _ ha⟩
  | _, _, _, .s h hs, i + 1, t, e => by
    obtain ⟨v, N, e1, q, sub⟩ := Sl.get hs (i := i) (by simpa using e)
    exact ⟨v, N, by simpa using e1, q, fun a ha => List.mem_append_right _ (sub a ha)⟩
theorem Rel.there (r : Rel K F H env σ M) : ∀ a ∈ M, ∃ vs, H a = some (.lst vs) := r.own.there
theorem Ext.refl (s : Same F H) : Ext F H F H := ⟨Same.refl _, Kp.refl, s, fun _ _ e => .inl e⟩
theorem Ext.trans (a : Ext F H F' H') (b : Ext F' H' F2 H2) : Ext F H F2 H2 :=
  ⟨a.f.trans b.f, a.h.trans b.h, b.s, fun c o e => by
    rcases b.n c o e with e | e
    · exact a.n c o e
    · exact .inr (a.h.free e)⟩
theorem TbOk.ext (t : TbOk F H) (x : Ext F H F' H') : TbOk F' H' := ⟨x.h.t t.1, fun p hp => by
  cases e : F' p.1 with
  | none => rfl
  | some o =>
    rcases x.n _ _ e with z | z
    · rw [t.2 p hp] at z; cases z
    · obtain ⟨ps, h, _⟩ := t.1 p hp
      rw [h] at z; cases z⟩
theorem TbOk.upd {a : Addr} {xs : List V} {o : HO} (e : H a = some (.lst xs)) (t : TbOk F H) : TbOk F (L2.upd H a o) := ⟨fun p hp => tabS_upd e (t.1 p hp), t.2⟩
theorem TbOk.same (t : TbOk F H) (s : Same F H) (k : SameN H H') : Same F H' := fun b o e => k.k b o (fun z => nomatch z) (s b o e) (.inr fun p hp z => by rw [z, t.2 p hp] at e; cases e)
theorem TbOk.extN (t : TbOk F H) (s : Same F H) (k : SameN H H') : Ext F H F H' := ⟨Same.refl _, k, t.same s k, fun _ _ e => .inl e⟩
theorem Rel.ext (r : Rel K F H env σ M) (x : Ext F H F' H') : Rel K F' H' env σ M :=
  ⟨x.s, r.tb.ext x, r.own.keep x.f (x.h.on (fun _ _ z => nomatch z) r.there), r.nd, fun a ha => by
    cases e : F' a with
    | none => rfl
    | some o =>
      obtain ⟨vs, hv⟩ := r.there a ha
      rcases x.n a o e with e' | e'
      · rw [r.dis a ha] at e'; cases e'
      · rw [hv] at e'; cases e'⟩
/-- an object laid into the kept heap -/
theorem Ext.lay {p : Addr} {o : HO} (s : Same F H) (hp : H p = none) : Ext F H (upd F p o) (upd H p o) := by
  have fp : F p = none := s.free hp
  refine ⟨fun b u e => ?_, Kp.of fun b u e => ?_, fun b u e => ?_, fun b u e => ?_⟩
  · rw [upd_ne (ne_of_none e fp)]; exact e
  · rw [upd_ne (ne_of_none e hp)]; exact e
  · by_cases hb : b = p
    · subst hb; rw [upd_same] at e ⊢; exact e
    · rw [upd_ne hb] at e ⊢; exact s _ _ e
  · by_cases hb : b = p
    · subst hb; exact .inr hp
    · rw [upd_ne hb] at e; exact .inl e
/-- an object laid beside it -/
theorem Ext.own {p : Addr} {o : HO} (s : Same F H) (hp : H p = none) : Ext F H F (upd H p o) := by
  refine ⟨Same.refl _, Kp.of fun b u e => ?_, fun b u e => ?_, fun b u e => .inl e⟩
  · rw [upd_ne (ne_of_none e hp)]; exact e
  · rw [upd_ne (ne_of_none (s _ _ e) hp)]; exact s _ _ e
theorem Same.upd_new {p : Addr} {o : HO} (hp : H p = none) : Same H (upd H p o) := fun b u e => by rw [upd_ne (ne_of_none e hp)]; exact e
theorem Fresh.nil : Fresh H F' [] := ⟨.nil, fun _ h => (nomatch h), fun _ h => (nomatch h)⟩
end

/-! ### own things let into the kept heap -/
/-- F with the cells of M as H has them -/
def join (F H : Hp) (M : List Addr) : Hp := fun b => if b ∈ M then H b else F b
section
variable {K : PySem.W.Frag} {F H F' H' F2 H2 : Hp} {M N : List Addr}
theorem join_in {a : Addr} (h : a ∈ M) : join F H M a = H a := by unfold join; rw [if_pos h]
theorem join_out {a : Addr} (h : a ∉ M) : join F H M a = F a := by unfold join; rw [if_neg h]
theorem join_sub (s : Same F H) : Same (join F H M) H := fun b o e => by
  by_cases h : b ∈ M
  · rw [join_in h] at e; exact e
  · rw [join_out h] at e; exact s _ _ e
theorem join_ge (s : Same F H) : Same F (join F H M) := fun b o e => by
  by_cases h : b ∈ M
  · rw [join_in h]; exact s _ _ e
  · rw [join_out h]; exact e
theorem join_mono (s : Same F H) (h : ∀ a ∈ M, a ∈ N) : Same (join F H M) (join F H N) := fun b o e => by
  by_cases hb : b ∈ M
  · rw [join_in hb] at e; rw [join_in (h b hb)]; exact e
  · rw [join_out hb] at e; exact join_ge s b o e
theorem TbOk.join (t : TbOk F H) (th : ∀ a ∈ M, ∃ vs, H a = some (.lst vs)) : TbOk (join F H M) H := ⟨t.1, fun p hp => by
  by_cases h : p.1 ∈ M
  · obtain ⟨vs, e⟩ := th _ h
    obtain ⟨ps, e2, _⟩ := t.1 p hp
    rw [e] at e2; cases e2
  · rw [join_out h]; exact t.2 p hp⟩
mutual
/-- all of it as data -/
def T.frz : T → PyData
  | .d x => x
  | .l xs => .list (T.frzs xs)
def T.frzs : List T → List PyData
  | [] => []
  | t :: ts => t.frz :: T.frzs ts
end
mutual
theorem Ow.frz (s : Same F H) : ∀ {t : T} {v : V} {M : List Addr}, Ow K F H t v M → Dp K (join F H M) v t.frz
  | _, _, _, .d h => by rw [T.frz]; exact Dp.mono (join_ge s) h
  | _, _, _, .l h hs => by
    rw [T.frz]
    refine .lst (.inl (.inl ((join_in List.mem_cons_self).trans h))) ?_
    exact DpAll.mono (join_mono s fun a ha => List.mem_cons_of_mem _ ha) (Ows.frz s hs)
theorem Ows.frz (s : Same F H) : ∀ {t : List T} {v : List V} {M : List Addr}, Ows K F H t v M → DpAll K (join F H M) v (T.frzs t)
  | _, _, _, .nil => by rw [T.frzs]; exact .nil
  | _, _, _, .cons h hs => by
    rw [T.frzs]
    exact .cons (Dp.mono (join_mono s fun a ha => List.mem_append_left _ ha) (Ow.frz s h)) (DpAll.mono (join_mono s fun a ha => List.mem_append_right _ ha) (Ows.frz s hs))
end
end
end Mi

set_option maxHeartbeats 200000
namespace Mi
open PySem PySem.Spec PyProof.Rows L2
variable [Tb]

/-- what a piece comes to: a value, an error (its number), or nothing said -/
inductive Rs (α : Type) where
  | ok (a : α)
  | ex (c : Nat)
  | no
@[simp] def Rs.bind {α β : Type} : Rs α → (α → Rs β) → Rs β
  | .ok a, f => f a
  | .ex c, _ => .ex c
  | .no, _ => .no
@[simp] def Rs.of {α : Type} : Option α → Rs α
  | some a => .ok a
  | none => .no
inductive Fl where
  | nx
  | rt (t : T)
abbrev PM := Env → Rs T
abbrev PMs := Env → Rs (List T)
abbrev EM := Env → Rs (T × Env)
abbrev SM := Env → Rs (Fl × Env)

section
variable (K : PySem.W.Frag) (ct : Nat → Addr) (EX : XK)
/-- what an error is asked behind H, M let go -/
def exq (H : Hp) (M : List Addr) (c : Nat) : Prop := ∀ H' : Hp, Kp M H H' → EX (.ref (ct c)) none H'
def atP (r : Rs T) (F H : Hp) (M : List Addr) (Q : VK) : Prop := match r with
  | .ok t => ∀ F' H' v N, Ext F H F' H' → Fresh H F' N → Ow K F' H' t v N → Q v H'
  | .ex c => exq ct EX H M c
  | .no => False
def atV (r : Rs T) (F H : Hp) (M : List Addr) (Q : VK) : Prop := match r with
  | .ok t => ∀ F' H' v, Ext F H F' H' → Vw K F' H' t v → Q v H'
  | .ex c => exq ct EX H M c
  | .no => False
def atPs (r : Rs (List T)) (F H : Hp) (M : List Addr) (Q : List V → Hp → Prop) : Prop := match r with
  | .ok ts => ∀ F' H' vs N, Ext F H F' H' → Fresh H F' N → Ows K F' H' ts vs N → Q vs H'
  | .ex c => exq ct EX H M c
  | .no => False
def atVs (r : Rs (List T)) (F H : Hp) (M : List Addr) (Q : List V → Hp → Prop) : Prop := match r with
  | .ok ts => ∀ F' H' vs, Ext F H F' H' → Vws K F' H' ts vs → Q vs H'
  | .ex c => exq ct EX H M c
  | .no => False
def atT (r : Rs Bool) (F H : Hp) (M : List Addr) (Q : Bool → Hp → Prop) : Prop := match r with
  | .ok b => ∀ F' H', Ext F H F' H' → Q b H'
  | .ex c => exq ct EX H M c
  | .no => False
def atE (r : Rs (T × Env)) (F H : Hp) (σ : Sg) (M : List Addr) (Q : VK) : Prop := match r with
  | .ok (t, env') => ∀ F' H' v N, Rel K F' H' (some t :: env') (some v :: σ) N → Go F H M F' H' N → Q v H'
  | .ex c => exq ct EX H M c
  | .no => False
def atEs (r : Rs (List T × Env)) (F H : Hp) (σ : Sg) (M : List Addr) (Q : List V → Hp → Prop) : Prop := match r with
  | .ok (ts, env') => ∀ F' H' vs N, Rel K F' H' (ts.map some ++ env') (vs.map some ++ σ) N → ts.length = vs.length → Go F H M F' H' N → Q vs H'
  | .ex c => exq ct EX H M c
  | .no => False
def atTE (r : Rs (Bool × Env)) (F H : Hp) (σ : Sg) (M : List Addr) (Q : Bool → Hp → Prop) : Prop := match r with
  | .ok (b, env') => ∀ F' H' N, Rel K F' H' env' σ N → Go F H M F' H' N → Q b H'
  | .ex c => exq ct EX H M c
  | .no => False
def Pn (pn : List Nat) (σ σ' : Sg) : Prop := ∀ j ∈ pn, σ'[j]? = σ[j]?
def atS (pn : List Nat) (r : Rs (Fl × Env)) (F H : Hp) (σ : Sg) (M : List Addr) (D : Ends) : Prop := match r with
  | .ok (.nx, env') => ∀ F' H' σ' N, Rel K F' H' env' σ' N → Go F H M F' H' N → Pn pn σ σ' → D.nx σ' H'
  | .ok (.rt t, env') => ∀ F' H' σ' v N, Rel K F' H' (some t :: env') (some v :: σ') N → Go F H M F' H' N → Pn pn σ σ' → D.rt v H'
  | .ex c => exq ct EX H M c
  | .no => False

def tP (p : PM) : TE := fun σ H Q => ∃ F env M, Rel K F H env σ M ∧ atP K ct EX (p env) F H M Q
def tV (p : PM) : TE := fun σ H Q => ∃ F env M, Rel K F H env σ M ∧ atV K ct EX (p env) F H M Q
def tPs (p : PMs) : TA := fun σ H Q => ∃ F env M, Rel K F H env σ M ∧ atPs K ct EX (p env) F H M Q
def tVs (p : PMs) : TA := fun σ H Q => ∃ F env M, Rel K F H env σ M ∧ atVs K ct EX (p env) F H M Q
def tT (p : Env → Rs Bool) : TT := fun σ H Q => ∃ F env M, Rel K F H env σ M ∧ atT ct EX (p env) F H M Q
def tE (m : EM) : TE := fun σ H Q => ∃ F env M, Rel K F H env σ M ∧ atE K ct EX (m env) F H σ M Q
def tEs (m : Env → Rs (List T × Env)) : TA := fun σ H Q => ∃ F env M, Rel K F H env σ M ∧ atEs K ct EX (m env) F H σ M Q
def tTE (m : Env → Rs (Bool × Env)) : TT := fun σ H Q => ∃ F env M, Rel K F H env σ M ∧ atTE K ct EX (m env) F H σ M Q
def tS (pn : List Nat) (m : SM) : TS := fun D σ H => ∃ F env M, Rel K F H env σ M ∧ atS K ct EX pn (m env) F H σ M D
end

/-! ### readings are as strong as one likes -/
section
variable {X : Cx} {e : Expr} {es : List Expr}
theorem _root_.L2.PE.imp {t t' : TE} (h : PE X e t) (i : ∀ σ H Q, t' σ H Q → t σ H Q) : PE X e t' := ⟨fun pins s σ H Q I q => h.run pins s σ H Q I (i σ H Q q)⟩
theorem _root_.L2.PT.imp {t t' : TT} (h : PT X e t) (i : ∀ σ H Q, t' σ H Q → t σ H Q) : PT X e t' := ⟨fun pins s σ H Q I q => h.run pins s σ H Q I (i σ H Q q)⟩
theorem _root_.L2.PW.imp {t t' : TT} (h : PW X e t) (i : ∀ σ H Q, t' σ H Q → t σ H Q) : PW X e t' := ⟨fun wh pins s σ H Q I q => h.run wh pins s σ H Q I (i σ H Q q)⟩
theorem _root_.L2.PA.imp {t t' : TA} (h : PA X es t) (i : ∀ σ H Q, t' σ H Q → t σ H Q) : PA X es t' := ⟨fun pos pins s σ H Q I q => h.run pos pins s σ H Q I (i σ H Q q)⟩
theorem _root_.L2.PS.imp {st : Stmt} {t t' : TS} (h : PS X st t) (i : ∀ D σ H, t' D σ H → t D σ H) : PS X st t' := ⟨fun pins s σ H D I q => h.run pins s σ H D I (i D σ H q)⟩
theorem _root_.L2.PSs.imp {st : List Stmt} {t t' : TS} (h : PSs X st t) (i : ∀ D σ H, t' D σ H → t D σ H) : PSs X st t' := ⟨fun pins s σ H D I q => h.run pins s σ H D I (i D σ H q)⟩
end

section
variable {K : PySem.W.Frag} {ct : Nat → Addr} {EX : XK} {F H F' H' F1 H1 F2 H2 : Hp} {env env' : Env} {σ σ' : Sg} {M N M' : List Addr} {Q Q' : VK}

theorem exq.ext {c : Nat} (h : exq ct EX H M c) (k : SameN H H') : exq ct EX H' M c := fun H2 q => h H2 (Kp.trans' (k.up fun _ h => nomatch h) q fun _ h => .inl h)
theorem Go.refl (s : Same F H) : Go F H M F H M := ⟨Same.refl _, Kp.refl, fun _ _ e => .inl e, fun _ h => .inl h⟩
theorem Ext.go (x : Ext F H F' H') : Go F H M F' H' M := ⟨x.f, x.h.up (fun _ h => nomatch h), fun a o e => (x.n a o e).imp id .inr, fun _ h => .inl h⟩
theorem Go.trans (a : Go F H M F1 H1 N) (b : Go F1 H1 N F2 H2 M') : Go F H M F2 H2 M' where
  f := a.f.trans b.f
  k := Kp.trans' a.k b.k a.m
  n := fun c o e => by
    rcases b.n c o e with z | z | z
    · exact a.n c o z
    · rcases a.m c z with y | y
      · exact .inr (.inl y)
      · exact .inr (.inr y)
    · by_cases hc : c ∈ M
      · exact .inr (.inl hc)
      · exact .inr (.inr (a.k.d c hc z))
  m := fun c hc => by
    rcases b.m c hc with z | z
    · exact a.m c z
    · by_cases h : c ∈ M
      · exact .inl h
      · exact .inr (a.k.d c h z)
theorem exq.go {c : Nat} (h : exq ct EX H M c) (g : Go F H M F1 H1 N) : exq ct EX H1 N c := fun H2 q => h H2 (Kp.trans' g.k q g.m)
theorem exq.sub {c : Nat} (h : exq ct EX H M c) (s : ∀ a ∈ N, a ∈ M) : exq ct EX H N c := fun H2 q => h H2 (q.up s)

theorem Fresh.back (x : Ext F H F' H') {F2 : Hp} (f : Fresh H' F2 N) : Fresh H F2 N := ⟨f.nd, fun a ha => x.h.free (f.new a ha), f.dis⟩
theorem atP.ext {r : Rs T} (h : atP K ct EX r F H M Q) (x : Ext F H F' H') : atP K ct EX r F' H' M Q := by
  cases r with
  | ok t => exact fun F2 H2 v N y f o => h F2 H2 v N (x.trans y) (f.back x) o
  | ex c => exact exq.ext h x.h
  | no => exact h
theorem atV.ext {r : Rs T} (h : atV K ct EX r F H M Q) (x : Ext F H F' H') : atV K ct EX r F' H' M Q := by
  cases r with
  | ok t => exact fun F2 H2 v y o => h F2 H2 v (x.trans y) o
  | ex c => exact exq.ext h x.h
  | no => exact h
theorem atPs.ext {r : Rs (List T)} {Q : List V → Hp → Prop} (h : atPs K ct EX r F H M Q) (x : Ext F H F' H') : atPs K ct EX r F' H' M Q := by
  cases r with
  | ok t => exact fun F2 H2 v N y f o => h F2 H2 v N (x.trans y) (f.back x) o
  | ex c => exact exq.ext h x.h
  | no => exact h
theorem atVs.ext {r : Rs (List T)} {Q : List V → Hp → Prop} (h : atVs K ct EX r F H M Q) (x : Ext F H F' H') : atVs K ct EX r F' H' M Q := by
  cases r with
  | ok t => exact fun F2 H2 v y o => h F2 H2 v (x.trans y) o
  | ex c => exact exq.ext h x.h
  | no => exact h
theorem atT.ext {r : Rs Bool} {Q : Bool → Hp → Prop} (h : atT ct EX r F H M Q) (x : Ext F H F' H') : atT ct EX r F' H' M Q := by
  cases r with
  | ok t => exact fun F2 H2 y => h F2 H2 (x.trans y)
  | ex c => exact exq.ext h x.h
  | no => exact h
theorem atP.mono {r : Rs T} (h : atP K ct EX r F H M Q) (i : ∀ v H, Q v H → Q' v H) : atP K ct EX r F H M Q' := by
  cases r with
  | ok t => exact fun F2 H2 v N y f o => i _ _ (h F2 H2 v N y f o)
  | ex c => exact h
  | no => exact h
theorem atV.mono {r : Rs T} (h : atV K ct EX r F H M Q) (i : ∀ v H, Q v H → Q' v H) : atV K ct EX r F H M Q' := by
  cases r with
  | ok t => exact fun F2 H2 v y o => i _ _ (h F2 H2 v y o)
  | ex c => exact h
  | no => exact h
/-- a value of one's own is a look at it -/
theorem atV.p {r : Rs T} (h : atV K ct EX r F H M Q) : atP K ct EX r F H M Q := by
  cases r with
  | ok t => exact fun F2 H2 v N y f o => h F2 H2 v y o.vw
  | ex c => exact h
  | no => exact h

/-- the first part of two, looked at -/
theorem bindV {p : PM} {g : T → Rs T} (rel : Rel K F H env σ M) (h : atP K ct EX ((p env).bind g) F H M Q) :
    tV K ct EX p σ H fun x H1 => ∃ F1 t, Ext F H F1 H1 ∧ Vw K F1 H1 t x ∧ p env = .ok t ∧ atP K ct EX (g t) F1 H1 M Q := by
  refine ⟨F, env, M, rel, ?_⟩
  cases e : p env with
  | ok t => rw [e] at h; exact fun F1 H1 v x o => ⟨F1, t, x, o, rfl, h.ext x⟩
  | ex c => rw [e] at h; exact h
  | no => rw [e] at h; exact h
theorem bindP {p : PM} {g : T → Rs T} (rel : Rel K F H env σ M) (h : atP K ct EX ((p env).bind g) F H M Q) :
    tP K ct EX p σ H fun x H1 => ∃ F1 t N, Ext F H F1 H1 ∧ Fresh H F1 N ∧ Ow K F1 H1 t x N ∧ p env = .ok t ∧ atP K ct EX (g t) F1 H1 M Q := by
  refine ⟨F, env, M, rel, ?_⟩
  cases e : p env with
  | ok t => rw [e] at h; exact fun F1 H1 v N x f o => ⟨F1, t, N, x, f, o, rfl, h.ext x⟩
  | ex c => rw [e] at h; exact h
  | no => rw [e] at h; exact h
theorem bindVs {p : PMs} {g : List T → Rs T} (rel : Rel K F H env σ M) (h : atP K ct EX ((p env).bind g) F H M Q) :
    tVs K ct EX p σ H fun xs H1 => ∃ F1 ts, Ext F H F1 H1 ∧ Vws K F1 H1 ts xs ∧ p env = .ok ts ∧ atP K ct EX (g ts) F1 H1 M Q := by
  refine ⟨F, env, M, rel, ?_⟩
  cases e : p env with
  | ok t => rw [e] at h; exact fun F1 H1 v x o => ⟨F1, t, x, o, rfl, h.ext x⟩
  | ex c => rw [e] at h; exact h
  | no => rw [e] at h; exact h
theorem bindPs {p : PMs} {g : List T → Rs T} (rel : Rel K F H env σ M) (h : atP K ct EX ((p env).bind g) F H M Q) :
    tPs K ct EX p σ H fun xs H1 => ∃ F1 ts N, Ext F H F1 H1 ∧ Fresh H F1 N ∧ Ows K F1 H1 ts xs N ∧ p env = .ok ts ∧ atP K ct EX (g ts) F1 H1 M Q := by
  refine ⟨F, env, M, rel, ?_⟩
  cases e : p env with
  | ok t => rw [e] at h; exact fun F1 H1 v N x f o => ⟨F1, t, N, x, f, o, rfl, h.ext x⟩
  | ex c => rw [e] at h; exact h
  | no => rw [e] at h; exact h
theorem tV.mono {p : PM} (h : tV K ct EX p σ H Q) (i : ∀ v H, Q v H → Q' v H) : tV K ct EX p σ H Q' := let ⟨F, env, M, r, q⟩ := h; ⟨F, env, M, r, q.mono i⟩
theorem tP.mono {p : PM} (h : tP K ct EX p σ H Q) (i : ∀ v H, Q v H → Q' v H) : tP K ct EX p σ H Q' := let ⟨F, env, M, r, q⟩ := h; ⟨F, env, M, r, q.mono i⟩
theorem tVs.mono {p : PMs} {Q Q' : List V → Hp → Prop} (h : tVs K ct EX p σ H Q) (i : ∀ v H, Q v H → Q' v H) : tVs K ct EX p σ H Q' := by
  obtain ⟨F, env, M, r, q⟩ := h
  refine ⟨F, env, M, r, ?_⟩
  cases e : p env with
  | ok t => rw [e] at q; exact fun F2 H2 v y o => i _ _ (q F2 H2 v y o)
  | ex c => rw [e] at q; exact q
  | no => rw [e] at q; exact q
theorem tPs.mono {p : PMs} {Q Q' : List V → Hp → Prop} (h : tPs K ct EX p σ H Q) (i : ∀ v H, Q v H → Q' v H) : tPs K ct EX p σ H Q' := by
  obtain ⟨F, env, M, r, q⟩ := h
  refine ⟨F, env, M, r, ?_⟩
  cases e : p env with
  | ok t => rw [e] at q; exact fun F2 H2 v N y f o => i _ _ (q F2 H2 v N y f o)
  | ex c => rw [e] at q; exact q
  | no => rw [e] at q; exact q
theorem tT.mono {p : Env → Rs Bool} {Q Q' : Bool → Hp → Prop} (h : tT K ct EX p σ H Q) (i : ∀ v H, Q v H → Q' v H) : tT K ct EX p σ H Q' := by
  obtain ⟨F, env, M, r, q⟩ := h
  refine ⟨F, env, M, r, ?_⟩
  cases e : p env with
  | ok t => rw [e] at q; exact fun F2 H2 y => i _ _ (q F2 H2 y)
  | ex c => rw [e] at q; exact q
  | no => rw [e] at q; exact q
end

/-! ### the judgements -/
section
variable (X : Cx) (ct : Nat → Addr) (EX : XK)
def SP (e : Expr) (p : PM) : Prop := PE X e (tP X.K ct EX p)
def SV (e : Expr) (p : PM) : Prop := PE X e (tV X.K ct EX p)
def SPs (es : List Expr) (p : PMs) : Prop := PA X es (tPs X.K ct EX p)
def SVs (es : List Expr) (p : PMs) : Prop := PA X es (tVs X.K ct EX p)
def STt (e : Expr) (p : Env → Rs Bool) : Prop := PT X e (tT X.K ct EX p)
def SE (e : Expr) (m : EM) : Prop := PE X e (tE X.K ct EX m)
def SEs (es : List Expr) (m : Env → Rs (List T × Env)) : Prop := PA X es (tEs X.K ct EX m)
def STE (e : Expr) (m : Env → Rs (Bool × Env)) : Prop := PT X e (tTE X.K ct EX m)
def SS (pn : List Nat) (st : Stmt) (m : SM) : Prop := PS X st (tS X.K ct EX pn m)
def SSs (pn : List Nat) (st : List Stmt) (m : SM) : Prop := PSs X st (tS X.K ct EX pn m)
/-- what is known of the frame -/
structure Cc (k : Nat) : Prop where
  calm : X.calm = true
  nd : X.N.Nodup
  tk : Takes X fun c d _ H => EX c d H
  hp : PassesOwn (model X.prog X.w) X.A X.env X.xe
  hr : Room k X.A
end
section
variable {X : Cx} {ct : Nat → Addr} {EX : XK} {e : Expr} {es : List Expr} {p : PM} {ps : PMs}
theorem SP.v (h : SP X ct EX e p) : SV X ct EX e p := PE.imp h fun σ H Q ⟨F, env, M, r, q⟩ => ⟨F, env, M, r, q.p⟩
end
end Mi

set_option maxHeartbeats 200000
namespace Mi
open PySem PySem.Spec PyProof.Rows L2
variable [Tb]

/-! ### from looks to the library's readings -/
section
variable {K : PySem.W.Frag} {F H : Hp}
mutual
theorem Vw.dp (s : Same F H) : ∀ {t : T} {v : V}, Vw K F H t v → Dp K H v t.frz
  | _, _, .d h => by rw [T.frz]; exact Dp.mono s h
  | _, _, .l h hs => by rw [T.frz]; exact .lst (.inl (.inl h)) (Vws.dp s hs)
theorem Vws.dp (s : Same F H) : ∀ {t : List T} {v : List V}, Vws K F H t v → DpAll K H v (T.frzs t)
  | _, _, .nil => by rw [T.frzs]; exact .nil
  | _, _, .cons h hs => by rw [T.frzs]; exact .cons (Vw.dp s h) (Vws.dp s hs)
end
mutual
theorem Dp.plain : ∀ {x : PyData} {v : V}, Dp K H v x → x.plain = true
  | _, _, .non => rfl
  | _, _, .bl _ => rfl
  | _, _, .int _ => rfl
  | _, _, .str _ => rfl
  | _, _, .lst _ a => by rw [PyData.plain]; exact DpAll.plain a
  | _, _, .tup _ a => by rw [PyData.plain]; exact DpAll.plain a
theorem DpAll.plain : ∀ {xs : List PyData} {vs : List V}, DpAll K H vs xs → PyData.plainAll xs = true
  | _, _, .nil => rfl
  | _, _, .cons h a => by rw [PyData.plainAll, Dp.plain h, DpAll.plain a]; rfl
end
theorem _root_.L2.DpAll.length {xs : List PyData} {vs : List V} (h : DpAll K H vs xs) : xs.length = vs.length := by
  induction xs generalizing vs with
  | nil => cases h; rfl
  | cons x xs ih => cases h with | cons _ a => simp [ih a]
theorem _root_.L2.DpAll.get {xs : List PyData} {vs : List V} (h : DpAll K H vs xs) {i : Nat} {x : PyData} (e : xs[i]? = some x) : ∃ v, vs[i]? = some v ∧ Dp K H v x := by
  induction xs generalizing vs i with
  | nil => cases e
  | cons x' xs ih =>
    cases h with
    | cons h1 hs =>
      cases i with
      | zero => cases e; exact ⟨_, rfl, h1⟩
      | succ i => obtain ⟨v, e', q⟩ := ih hs (i := i) (by simpa using e); exact ⟨v, by simpa using e', q⟩
theorem _root_.L2.DpAll.getV {xs : List PyData} {vs : List V} (h : DpAll K H vs xs) {i : Nat} {v : V} (e : vs[i]? = some v) : ∃ x, xs[i]? = some x ∧ Dp K H v x := by
  induction xs generalizing vs i with
  | nil => cases h; cases e
  | cons x' xs ih =>
    cases h with
    | cons h1 hs =>
      cases i with
      | zero => cases e; exact ⟨_, rfl, h1⟩
      | succ i => obtain ⟨v, e', q⟩ := ih hs (i := i) (by simpa using e); exact ⟨v, by simpa using e', q⟩
theorem _root_.L2.DpAll.append {xs ys : List PyData} {vs ws : List V} (h : DpAll K H vs xs) (g : DpAll K H ws ys) : DpAll K H (vs ++ ws) (xs ++ ys) := by
  induction xs generalizing vs with
  | nil => cases h; exact g
  | cons x xs ih => cases h with | cons h1 hs => exact .cons h1 (ih hs)
theorem _root_.L2.DpAll.take {xs : List PyData} {vs : List V} (h : DpAll K H vs xs) (n : Nat) : DpAll K H (vs.take n) (xs.take n) := by
  induction xs generalizing vs n with
  | nil => cases h; simp; exact .nil
  | cons x xs ih =>
    cases h with
    | cons h1 hs =>
      cases n with
      | zero => exact .nil
      | succ n => exact .cons h1 (ih hs n)
theorem _root_.L2.DpAll.drop {xs : List PyData} {vs : List V} (h : DpAll K H vs xs) (n : Nat) : DpAll K H (vs.drop n) (xs.drop n) := by
  induction xs generalizing vs n with
  | nil => cases h; simp; exact .nil
  | cons x xs ih =>
    cases h with
    | cons h1 hs =>
      cases n with
      | zero => exact .cons h1 hs
      | succ n => exact ih hs n
end

/-! ### operations on looks -/
section
variable (K : PySem.W.Frag)
def out (F H : Hp) (r : T) (Q : VK) : Prop := ∀ F' H' z N, Ext F H F' H' → Fresh H F' N → Ow K F' H' r z N → Q z H'
def rO (f : T → T → Option T) : R2 := fun x y H Q => ∃ F t u r, Same F H ∧ Vw K F H t x ∧ Vw K F H u y ∧ f t u = some r ∧ out K F H r Q
def rC (f : T → T → Option Bool) : R2 := fun x y H Q => ∃ F t u r, Same F H ∧ Vw K F H t x ∧ Vw K F H u y ∧ f t u = some r ∧ Q (.bl r) H
def rA (f : List T → Option T) : List V → Hp → VK → Prop := fun xs H Q => ∃ F ts r, Same F H ∧ Vws K F H ts xs ∧ f ts = some r ∧ out K F H r Q
def rU1 (f : T → Option T) : V → Hp → VK → Prop := fun x H Q => ∃ F t r, Same F H ∧ Vw K F H t x ∧ f t = some r ∧ out K F H r Q
end
section
variable {K : PySem.W.Frag} {F H : Hp} {Q : VK}
theorem out.dat {x : PyData} {v : V} (h : out K F H (.d x) Q) (s : Same F H) (d : Dp K F v x) : Q v H := h F H v [] (Ext.refl s) .nil (.d d)
theorem out.bl {b : Bool} (h : out K F H (.d (.bool b)) Q) (s : Same F H) : Q (.bl b) H := h.dat s (.bl b)
theorem out.int {b : Int} (h : out K F H (.d (.int b)) Q) (s : Same F H) : Q (.int b) H := h.dat s (.int b)
theorem out.str {b : Str} (h : out K F H (.d (.str b)) Q) (s : Same F H) : Q (.str b) H := h.dat s (.str b)
theorem out.non (h : out K F H (.d .none) Q) (s : Same F H) : Q .non H := h.dat s .non
/-- a new tuple -/
theorem out.tup {xs : List PyData} {vs : List V} {p : Addr} (h : out K F H (.d (.tuple xs)) Q) (s : Same F H) (hp : H p = none) (d : DpAll K F vs xs) : Q (.ref p) (upd H p (.tup vs)) :=
  h (upd F p (.tup vs)) (upd H p (.tup vs)) (.ref p) [] (Ext.lay s hp) .nil (.d (.tup (.inl (.inl upd_same)) (DpAll.mono (Same.upd_new (s.free hp)) d)))
theorem Fresh.one {p : Addr} (s : Same F H) (hp : H p = none) : Fresh H F [p] := ⟨by simp, fun a ha => by rw [List.mem_singleton.mp ha]; exact hp, fun a ha => by rw [List.mem_singleton.mp ha]; exact s.free hp⟩
/-- all are data -/
def T.datas : List T → Option (List PyData)
  | [] => some []
  | .d x :: ts => (T.datas ts).map (x :: ·)
  | .l _ :: _ => none
theorem T.datas_map : ∀ xs : List PyData, T.datas (xs.map .d) = some xs
  | [] => rfl
  | x :: xs => by rw [List.map_cons, T.datas, T.datas_map xs]; rfl
theorem T.datas_eq : ∀ {ts : List T} {xs : List PyData}, T.datas ts = some xs → ts = xs.map .d
  | [], xs, h => by cases h; rfl
  | .d x :: ts, xs, h => by
    rw [T.datas] at h
    cases e : T.datas ts with
    | none => rw [e] at h; cases h
    | some ys => rw [e] at h; cases h; rw [T.datas_eq e]; rfl
  | .l _ :: _, _, h => by cases h
theorem Vws.datas : ∀ {xs : List PyData} {vs : List V}, Vws K F H (xs.map .d) vs → DpAll K F vs xs
  | [], _, h => by cases h; exact .nil
  | x :: xs, _, h => by
    cases h with
    | cons h1 hs => cases h1 with | d h1 => exact .cons h1 (Vws.datas hs)
theorem Ows.of_datas : ∀ {xs : List PyData} {vs : List V}, DpAll K F vs xs → Ows K F H (xs.map .d) vs []
  | [], _, .nil => .nil
  | x :: xs, _, .cons h hs => Ows.cons (M := []) (N := []) (.d h) (Ows.of_datas hs)
/-- a new list of data -/
theorem out.lst {xs : List PyData} {vs : List V} {p : Addr} (h : out K F H (.l (xs.map .d)) Q) (s : Same F H) (hp : H p = none) (d : DpAll K F vs xs) : Q (.ref p) (upd H p (.lst vs)) :=
  h F (upd H p (.lst vs)) (.ref p) [p] (Ext.own s hp) (Fresh.one s hp) (.l upd_same (Ows.of_datas d))
end

section
variable {X : Cx} {k : Nat}
theorem lineA {A : Around} (hr : Room k A) {d e : PyData} (h : min d.depth e.depth ≤ 60) : A.units + min d.depth e.depth < cLine := by have := hr.units; omega
def cEq (t u : T) : Option Bool := if min t.frz.depth u.frz.depth ≤ 60 then some (PyData.eqv t.frz u.frz) else none
def cNe (t u : T) : Option Bool := if min t.frz.depth u.frz.depth ≤ 60 then some (!PyData.eqv t.frz u.frz) else none
theorem opc_eqU (hr : X.A.units + 100 < cLine) : OpR X (compareOp .Eq) (rC X.K cEq) := by
  intro pins s σ H x y v u Q I rx ry ⟨F, t, w, r, sub, h1, h2, e, q⟩
  unfold cEq at e
  split at e
  · rename_i hd
    cases e
    obtain ⟨as, r1⟩ := Dp.reads I _ x v (h1.dp sub) rx
    obtain ⟨bs, r2⟩ := Dp.reads I _ y u (h2.dp sub) ry
    exact PySem.SeqAt.eq_plain r1 r2 (Dp.plain (h1.dp sub)) (Dp.plain (h2.dp sub)) (by omega) ⟨.bl _, H, I, rfl, q⟩
  · cases e
theorem opc_eq (hr : Room k X.A) : OpR X (compareOp .Eq) (rC X.K cEq) := opc_eqU (by have := hr.un; omega)
theorem opc_ne (hr : Room k X.A) : OpR X (compareOp .NotEq) (rC X.K cNe) := by
  intro pins s σ H x y v u Q I rx ry ⟨F, t, w, r, sub, h1, h2, e, q⟩
  unfold cNe at e
  split at e
  · rename_i hd
    cases e
    obtain ⟨as, r1⟩ := Dp.reads I _ x v (h1.dp sub) rx
    obtain ⟨bs, r2⟩ := Dp.reads I _ y u (h2.dp sub) ry
    exact PySem.SeqAt.ne_plain r1 r2 (Dp.plain (h1.dp sub)) (Dp.plain (h2.dp sub)) (lineA hr hd) ⟨.bl _, H, I, rfl, q⟩
  · cases e
/-- order: ints by themselves, else by the data's order -/
def cOrd (fi : Int → Int → Bool) (fd : PyData → PyData → Bool) (t u : T) : Option Bool := match t.frz, u.frz with
  | .int i, .int j => some (fi i j)
  | .none, _ => none
  | a, b => if PySem.W.alike a b = true ∧ min a.depth b.depth ≤ 60 then some (fd a b) else none
def cLt := cOrd (fun i j => decide (i < j)) fun a b => PySem.W.dataLt a b
def cGt := cOrd (fun i j => decide (j < i)) fun a b => PySem.W.dataLt b a
def cLe := cOrd (fun i j => decide (i ≤ j)) fun a b => !PySem.W.dataLt b a
def cGe := cOrd (fun i j => decide (j ≤ i)) fun a b => !PySem.W.dataLt a b
theorem cOrd_inv {fi : Int → Int → Bool} {fd : PyData → PyData → Bool} {t u : T} {r : Bool} (e : cOrd fi fd t u = some r) :
    (∃ i j, t.frz = .int i ∧ u.frz = .int j ∧ r = fi i j) ∨ (t.frz ≠ .none ∧ PySem.W.alike t.frz u.frz = true ∧ min t.frz.depth u.frz.depth ≤ 60 ∧ r = fd t.frz u.frz) := by
  unfold cOrd at e
  split at e
  · rename_i i j h1 h2; cases e; exact .inl ⟨i, j, h1, h2, rfl⟩
  · cases e
  · rename_i hn hi
    split at e
    · rename_i h; cases e; exact .inr ⟨hn, h.1, h.2, rfl⟩
    · cases e
theorem Dp_int {K : PySem.W.Frag} {H : Hp} {x : V} {i : Int} (h : Dp K H x (.int i)) : x = .int i := by cases h; rfl
theorem opc_ord {op : CmpOp} {fi : Int → Int → Bool} {fd : PyData → PyData → Bool} (hr : Room k X.A) (hi : OpR X (compareOp op) (rI0 fun i j => .bl (fi i j)))
    (hd : ∀ {s : Shared} {a b : Value} {da db : PyData} {as bs : List Addr} {Q : Value → Shared → Prop}, Reads s.heap a da as → Reads s.heap b db bs → PySem.W.alike da db = true → da ≠ .none → X.A.units + min da.depth db.depth < cLine → Q (.bool (fd da db)) s → wpAny (model X.prog X.w) X.A (compareOp op a b) Q X.xe s) :
    OpR X (compareOp op) (rC X.K (cOrd fi fd)) := by
  intro pins s σ H x y v u Q I rx ry ⟨F, t, w, r, sub, h1, h2, e, q⟩
  rcases cOrd_inv e with ⟨i, j, e1, e2, rfl⟩ | ⟨hn, ha, hm, rfl⟩
  · have d1 := h1.dp sub
    have d2 := h2.dp sub
    rw [e1] at d1
    rw [e2] at d2
    exact hi pins s σ H x y v u Q I rx ry ⟨i, j, Dp_int d1, Dp_int d2, q⟩
  · obtain ⟨as, r1⟩ := Dp.reads I _ x v (h1.dp sub) rx
    obtain ⟨bs, r2⟩ := Dp.reads I _ y u (h2.dp sub) ry
    exact hd r1 r2 ha hn (lineA hr hm) ⟨.bl _, H, I, rfl, q⟩
theorem opc_lt (hr : Room k X.A) : OpR X (compareOp .Lt) (rC X.K cLt) := opc_ord hr op_lt fun r1 r2 a n u q => PySem.W.lt_data r1 r2 a n u q
theorem opc_gt (hr : Room k X.A) : OpR X (compareOp .Gt) (rC X.K cGt) := opc_ord hr op_gt fun r1 r2 a n u q => PySem.W.gt_data r1 r2 a n u q
theorem opc_le (hr : Room k X.A) : OpR X (compareOp .LtE) (rC X.K cLe) := opc_ord hr op_le fun r1 r2 a n u q => PySem.W.le_data r1 r2 a n u q
theorem opc_ge (hr : Room k X.A) : OpR X (compareOp .GtE) (rC X.K cGe) := opc_ord hr op_ge fun r1 r2 a n u q => PySem.W.ge_data r1 r2 a n u q
/-- is None, is True: of None and of bools -/
def cIs (t u : T) : Option Bool := match t, u with
  | .d x, .d .none => some (match x with | .none => true | _ => false)
  | .l _, .d .none => some false
  | .d (.bool a), .d (.bool b) => some (decide (a = b))
  | _, _ => none
def cIsNot (t u : T) : Option Bool := (cIs t u).map (!·)
theorem cIs_inv {K : PySem.W.Frag} {F H : Hp} {t u : T} {x y : V} {r : Bool} (h1 : Vw K F H t x) (h2 : Vw K F H u y) (e : cIs t u = some r) :
    (y = .non ∧ r = decide (x = .non)) ∨ ∃ a b, x = .bl a ∧ y = .bl b ∧ r = decide (a = b) := by
  unfold cIs at e
  split at e
  · rename_i x'
    cases h2 with
    | d h2 =>
    cases h2
    refine .inl ⟨rfl, ?_⟩
    cases e
    cases h1 with
    | d h1 => cases h1 <;> rfl
  · cases h2 with
    | d h2 =>
    cases h2
    cases e
    cases h1 with
    | l _ _ => exact .inl ⟨rfl, rfl⟩
  · rename_i a b
    cases h1 with
    | d h1 =>
    cases h2 with
    | d h2 =>
    cases h1
    cases h2
    cases e
    exact .inr ⟨a, b, rfl, rfl, rfl⟩
  · cases e
theorem opc_is : OpR X (compareOp .Is) (rC X.K cIs) := by
  intro pins s σ H x y v u Q I rx ry ⟨F, t, w, r, sub, h1, h2, e, q⟩
  rcases cIs_inv h1 h2 e with ⟨rfl, rfl⟩ | ⟨a, b, rfl, rfl, rfl⟩
  · exact op_isN pins s σ H x _ v u Q I rx ry ⟨rfl, q⟩
  · exact op_is_bl pins s σ H _ _ v u Q I rx ry ⟨a, b, rfl, rfl, q⟩
theorem opc_isnot : OpR X (compareOp .IsNot) (rC X.K cIsNot) := by
  intro pins s σ H x y v u Q I rx ry ⟨F, t, w, r, sub, h1, h2, e, q⟩
  unfold cIsNot at e
  cases e1 : cIs t w with
  | none => rw [e1] at e; cases e
  | some r' =>
    rw [e1] at e
    cases e
    rcases cIs_inv h1 h2 e1 with ⟨rfl, rfl⟩ | ⟨a, b, rfl, rfl, rfl⟩
    · exact op_notN pins s σ H x _ v u Q I rx ry ⟨rfl, q⟩
    · exact op_isnot_bl pins s σ H _ _ v u Q I rx ry ⟨a, b, rfl, rfl, q⟩
/-- x in y: a list, a tuple, a text -/
def cIn (t u : T) : Option Bool := match u.frz with
  | .list xs => if min (PyData.depthAll xs) t.frz.depth ≤ 60 then some (xs.any fun z => PyData.eqv z t.frz) else none
  | .tuple xs => if min (PyData.depthAll xs) t.frz.depth ≤ 60 then some (xs.any fun z => PyData.eqv z t.frz) else none
  | .str z => match t with
    | .d (.str a) => some (!(Builtin.Str.occurrences z a 0 z.length 1).isEmpty)
    | _ => none
  | _ => none
def cNotIn (t u : T) : Option Bool := (cIn t u).map (!·)
theorem lineB {A : Around} (hr : Room k A) {m n : Nat} (h : min m n ≤ 60) : A.units + 1 + min m n < cLine := by have := hr.units; omega
theorem Dp_str {K : PySem.W.Frag} {H : Hp} {x : V} {i : Str} (h : Dp K H x (.str i)) : x = .str i := by cases h; rfl
theorem opc_in (hr : Room k X.A) : OpR X (compareOp .In) (rC X.K cIn) := by
  intro pins s σ H x y v u Q I rx ry ⟨F, t, w, r, sub, h1, h2, e, q⟩
  obtain ⟨as, r1⟩ := Dp.reads I _ x v (h1.dp sub) rx
  have d2 := h2.dp sub
  have p1 := Dp.plain (h1.dp sub)
  unfold cIn at e
  split at e
  · rename_i xs ex
    rw [ex] at d2
    obtain ⟨bs, r2⟩ := Dp.reads I _ y u d2 ry
    have p2 : PyData.plainAll xs = true := Dp.plain d2
    split at e
    · rename_i hm; cases e; exact PySem.SeqAt.in_list_data r2 r1 p2 p1 (lineB hr hm) ⟨.bl _, H, I, rfl, q⟩
    · cases e
  · rename_i xs ex
    rw [ex] at d2
    obtain ⟨bs, r2⟩ := Dp.reads I _ y u d2 ry
    have p2 : PyData.plainAll xs = true := Dp.plain d2
    split at e
    · rename_i hm; cases e; exact PySem.SeqAt.in_tuple_data r2 r1 p2 p1 (lineB hr hm) ⟨.bl _, H, I, rfl, q⟩
    · cases e
  · rename_i z ez
    rw [ez] at d2
    split at e
    · rename_i a
      cases e
      cases h1 with
      | d h1 => cases h1; exact op_in_str pins s σ H _ y v u Q I rx ry ⟨a, z, rfl, Dp_str d2, q⟩
    · cases e
  · cases e
theorem opc_notIn (hr : Room k X.A) : OpR X (compareOp .NotIn) (rC X.K cNotIn) := by
  intro pins s σ H x y v u Q I rx ry ⟨F, t, w, r, sub, h1, h2, e, q⟩
  obtain ⟨as, r1⟩ := Dp.reads I _ x v (h1.dp sub) rx
  have d2 := h2.dp sub
  have p1 := Dp.plain (h1.dp sub)
  unfold cNotIn cIn at e
  split at e
  · rename_i xs ex
    rw [ex] at d2
    obtain ⟨bs, r2⟩ := Dp.reads I _ y u d2 ry
    have p2 : PyData.plainAll xs = true := Dp.plain d2
    split at e
    · rename_i hm; cases e; exact PySem.SeqAt.notIn_list_data r2 r1 p2 p1 (lineB hr hm) ⟨.bl _, H, I, rfl, q⟩
    · cases e
  · rename_i xs ex
    rw [ex] at d2
    obtain ⟨bs, r2⟩ := Dp.reads I _ y u d2 ry
    have p2 : PyData.plainAll xs = true := Dp.plain d2
    split at e
    · rename_i hm; cases e; exact PySem.SeqAt.notIn_tuple_data r2 r1 p2 p1 (lineB hr hm) ⟨.bl _, H, I, rfl, q⟩
    · cases e
  · rename_i z ez
    rw [ez] at d2
    split at e
    · rename_i a
      cases e
      cases h1 with
      | d h1 => cases h1; exact op_notin_str pins s σ H _ y v u Q I rx ry ⟨a, z, rfl, Dp_str d2, q⟩
    · cases e
  · cases e
end
end Mi

set_option maxHeartbeats 200000
namespace Mi
open PySem PySem.Spec PyProof.Rows L2
variable [Tb]

/-! ### binary operators -/
instance (i j : Int) : Decidable (CMul i j) := by unfold CMul; infer_instance
instance (i j : Int) : Decidable (CMulW i j) := by unfold CMulW; infer_instance
instance (i j : Int) : Decidable (CDiv i j) := by unfold CDiv; infer_instance
instance (i j : Int) : Decidable (CDivW i j) := by unfold CDivW; infer_instance
instance (i j : Int) : Decidable (CPow i j) := by unfold CPow; infer_instance
def oAdd (t u : T) : Option T := match t, u with
  | .d (.int i), .d (.int j) => some (.d (.int (i + j)))
  | .d (.str a), .d (.str b) => if a.length + b.length ≤ sizeLine then some (.d (.str (a ++ b))) else none
  | .d (.tuple a), .d (.tuple b) => if a.length + b.length ≤ sizeLine then some (.d (.tuple (a ++ b))) else none
  | .l a, .l b => match T.datas a, T.datas b with
    | some xs, some ys => if xs.length + ys.length ≤ sizeLine then some (.l ((xs ++ ys).map .d)) else none
    | _, _ => none
  | _, _ => none
def oSub (t u : T) : Option T := match t, u with
  | .d (.int i), .d (.int j) => some (.d (.int (i - j)))
  | _, _ => none
/-- xs ++ xs ++ .., n times -/
def rep {α : Type} (n : Nat) (xs : List α) : List α := (List.replicate n xs).flatten
def oMul (t u : T) : Option T := match t, u with
  | .d (.int i), .d (.int j) => if CMul i j ∨ CMulW i j then some (.d (.int (i * j))) else none
  | .l a, .d (.int k) => match T.datas a with
    | some xs => if 0 ≤ k ∧ k ≤ 100000 ∧ xs.length ≤ 100 then some (.l ((rep k.toNat xs).map .d)) else none
    | none => none
  | .d (.tuple xs), .d (.int k) => if 2 ≤ k ∧ k ≤ 1000 ∧ xs.length ≤ 1000 ∧ xs ≠ [] then some (.d (.tuple (rep k.toNat xs))) else none
  | .d (.str a), .d (.int k) => if 0 ≤ k ∧ k ≤ 1000 ∧ a.length ≤ 1000 then some (.d (.str ⟨(rep k.toNat a.cps.toList).toArray⟩)) else none
  | _, _ => none
def oDiv (t u : T) : Option T := match t, u with
  | .d (.int i), .d (.int j) => if CDiv i j ∨ CDivW i j then some (.d (.int (i / j))) else none
  | _, _ => none
def oMod (t u : T) : Option T := match t, u with
  | .d (.int i), .d (.int j) => if 0 < j then some (.d (.int (i % j))) else none
  | _, _ => none
def oPow (t u : T) : Option T := match t, u with
  | .d (.int i), .d (.int j) => if CPow i j then some (.d (.int (i ^ j.toNat))) else none
  | _, _ => none
section
variable {X : Cx} {K : PySem.W.Frag} {F H : Hp}
theorem Vw_int {v : V} {i : Int} (h : Vw K F H (.d (.int i)) v) : v = .int i := by cases h with | d h => cases h; rfl
theorem Vw_str {v : V} {i : Str} (h : Vw K F H (.d (.str i)) v) : v = .str i := by cases h with | d h => cases h; rfl
theorem Vw_bool {v : V} {i : Bool} (h : Vw K F H (.d (.bool i)) v) : v = .bl i := by cases h with | d h => cases h; rfl
theorem Vw_tup {v : V} {xs : List PyData} (h : Vw K F H (.d (.tuple xs)) v) : ∃ a vs, v = .ref a ∧ SqT K F a vs ∧ DpAll K F vs xs := by
  cases h with | d h => cases h with | tup h1 h2 => exact ⟨_, _, rfl, h1, h2⟩
theorem Vw_list {v : V} {ts : List T} (h : Vw K F H (.l ts) v) : ∃ a vs, v = .ref a ∧ H a = some (.lst vs) ∧ Vws K F H ts vs := by
  cases h with | l h1 h2 => exact ⟨_, _, rfl, h1, h2⟩
theorem Vw_flist {v : V} {xs : List PyData} (h : Vw K F H (.d (.list xs)) v) : ∃ a vs, v = .ref a ∧ SqL K F a vs ∧ DpAll K F vs xs := by
  cases h with | d h => cases h with | lst h1 h2 => exact ⟨_, _, rfl, h1, h2⟩
theorem opo_add : OpR X (binaryOp .Add) (rO X.K oAdd) := by
  intro pins s σ H x y v u Q I rx ry ⟨F, t, w, r, sub, h1, h2, e, q⟩
  unfold oAdd at e
  split at e
  · rename_i i j
    cases e
    exact op_add pins s σ H x y v u Q I rx ry ⟨i, j, Vw_int h1, Vw_int h2, q.int sub⟩
  · rename_i a b
    split at e
    · rename_i hl
      cases e
      exact op_add_str pins s σ H x y v u Q I rx ry ⟨a, b, Vw_str h1, Vw_str h2, hl, q.str sub⟩
    · cases e
  · rename_i a b
    split at e
    · rename_i hl
      cases e
      obtain ⟨p, vs, rfl, g1, g2⟩ := Vw_tup h1
      obtain ⟨p', ws, rfl, g3, g4⟩ := Vw_tup h2
      have l1 := g2.length
      have l2 := g4.length
      refine op_catA pins s σ H _ _ v u Q I rx ry ⟨p, p', vs, ws, rfl, rfl, SqT.mono sub g1, SqT.mono sub g3, by omega, fun z => ?_, fun z1 z2 => ?_, fun z1 z2 p2 np => ?_⟩
      · have : a = [] := List.eq_nil_of_length_eq_zero (by rw [l1, z]; rfl)
        subst this
        exact q.dat sub (.tup g3 (by rw [List.nil_append]; exact g4))
      · have : b = [] := List.eq_nil_of_length_eq_zero (by rw [l2, z2]; rfl)
        subst this
        exact q.dat sub (.tup g1 (by rw [List.append_nil]; exact g2))
      · exact q.tup sub np (g2.append g4)
    · cases e
  · rename_i a b
    split at e
    · rename_i xs ys e1 e2
      split at e
      · rename_i hl
        cases e
        cases T.datas_eq e1
        cases T.datas_eq e2
        obtain ⟨p, vs, rfl, g1, g2⟩ := Vw_list h1
        obtain ⟨p', ws, rfl, g3, g4⟩ := Vw_list h2
        have d1 := Vws.datas g2
        have d2 := Vws.datas g4
        have l1 := d1.length
        have l2 := d2.length
        exact op_cat pins s σ H _ _ v u Q I rx ry ⟨p, p', vs, ws, rfl, rfl, g1, g3, by omega, fun p2 np => q.lst sub np (d1.append d2)⟩
      · cases e
    · cases e
  · cases e
theorem opo_sub : OpR X (binaryOp .Sub) (rO X.K oSub) := by
  intro pins s σ H x y v u Q I rx ry ⟨F, t, w, r, sub, h1, h2, e, q⟩
  unfold oSub at e
  split at e
  · rename_i i j
    cases e
    exact op_sub pins s σ H x y v u Q I rx ry ⟨i, j, Vw_int h1, Vw_int h2, q.int sub⟩
  · cases e
theorem DpAll.rep {xs : List PyData} {vs : List V} (h : DpAll K F vs xs) : ∀ n : Nat, DpAll K F (List.replicate n vs).flatten (rep n xs)
  | 0 => .nil
  | n + 1 => by
    show DpAll K F (List.replicate (n + 1) vs).flatten (List.replicate (n + 1) xs).flatten
    rw [List.replicate_succ, List.replicate_succ, List.flatten_cons, List.flatten_cons]
    exact h.append (DpAll.rep h n)
theorem foldl_cat (xs : Array Nat) : ∀ (n : Nat) (acc : Array Nat), (List.replicate n xs).foldl (· ++ ·) acc = acc ++ (Mi.rep n xs.toList).toArray
  | 0, acc => by show acc = acc ++ ([] : List Nat).toArray; simp
  | n + 1, acc => by
    rw [List.replicate_succ, List.foldl_cons, foldl_cat xs n]
    show _ = acc ++ ((List.replicate (n + 1) xs.toList).flatten).toArray
    rw [List.replicate_succ, List.flatten_cons]
    apply Array.toList_inj.mp
    simp [Mi.rep]
theorem opo_mul : OpR X (binaryOp .Mult) (rO X.K oMul) := by
  intro pins s σ H x y v u Q I rx ry ⟨F, t, w, r, sub, h1, h2, e, q⟩
  unfold oMul at e
  split at e
  · rename_i i j
    split at e
    · rename_i hc
      cases e
      rcases hc with hc | hc
      · exact op_mul pins s σ H x y v u Q I rx ry ⟨i, j, Vw_int h1, Vw_int h2, hc, q.int sub⟩
      · exact op_mulW pins s σ H x y v u Q I rx ry ⟨i, j, Vw_int h1, Vw_int h2, hc, q.int sub⟩
    · cases e
  · rename_i a k
    split at e
    · rename_i xs ex
      split at e
      · rename_i hk
        cases e
        cases T.datas_eq ex
        obtain ⟨p, vs, rfl, g1, g2⟩ := Vw_list h1
        have d1 := Vws.datas g2
        have l1 := d1.length
        refine op_rep pins s σ H _ _ v u Q I rx ry ⟨p, k, vs, rfl, Vw_int h2, g1, by omega, by omega, ?_, fun p2 np => q.lst sub np (DpAll.rep d1 _)⟩
        rw [← l1, sizeLine_eq]
        have : xs.length * k.toNat ≤ 100 * 100000 := Nat.mul_le_mul hk.2.2 (by omega)
        omega
      · cases e
    · cases e
  · rename_i xs k
    split at e
    · rename_i hk
      cases e
      obtain ⟨p, vs, rfl, g1, g2⟩ := Vw_tup h1
      have l1 := g2.length
      refine op_repT pins s σ H _ _ v u Q I rx ry ⟨p, k, vs, rfl, Vw_int h2, SqT.mono sub g1, fun z => hk.2.2.2 (List.eq_nil_of_length_eq_zero (by rw [l1, z]; rfl)), hk.1, hk.2.1, by omega, fun p2 np => q.tup sub np (DpAll.rep g2 _)⟩
    · cases e
  · rename_i a k
    split at e
    · rename_i hk
      cases e
      cases Vw_str h1
      cases Vw_int h2
      obtain ⟨t1, rfl⟩ := rx
      obtain ⟨t2, rfl⟩ := ry
      have hs : sizeLine = 16777216 := sizeLine_eq
      have al : (a.length : Int) ≤ 1000 := by have := hk.2.2; omega
      refine PySem.P.mul_str (by rw [decide_eq_false (by omega), decide_eq_false (by omega)]; rfl) (fun z1 _ => ?_) (fun z1 _ => ?_) ?_
      · have : (1000 : Int) ≤ (2 ^ 63 - 1) / k := by
          apply Int.le_ediv_of_mul_le (by omega)
          omega
        omega
      · show decide _ = false
        have h3 : a.length * k.toNat ≤ 1000 * 1000 := Nat.mul_le_mul hk.2.2 (by omega)
        rw [decide_eq_false]
        rw [hs]
        omega
      · by_cases z1 : k < 1
        · rw [if_pos z1]
          have : k = 0 := by omega
          subst this
          exact ⟨by decide, ⟨.str _, H, I.tok _, ⟨_, rfl⟩, q.str sub⟩⟩
        · rw [if_neg z1]
          by_cases z2 : (k == 1 || a.length == 0) = true
          · rw [if_pos z2]
            have e3 : (⟨(rep k.toNat a.cps.toList).toArray⟩ : Str) = a := by
              rw [Bool.or_eq_true, beq_iff_eq, beq_iff_eq] at z2
              rcases z2 with z2 | z2
              · subst z2
                show (⟨(List.replicate 1 a.cps.toList).flatten.toArray⟩ : Str) = a
                simp
              · have : a.cps = #[] := Array.eq_empty_of_size_eq_zero z2
                obtain ⟨c⟩ := a
                simp only at this
                subst this
                have : ∀ n : Nat, rep n ([] : List Nat) = [] := fun n => by simp [rep]
                simp [this]
            rw [e3] at q
            exact ⟨.str a, H, I, ⟨_, rfl⟩, q.str sub⟩
          · rw [if_neg z2]
            rw [foldl_cat]
            have e4 : (#[] ++ (rep k.toNat a.cps.toList).toArray : Array Nat) = (rep k.toNat a.cps.toList).toArray := by simp
            rw [e4]
            exact ⟨by
              have h3 : a.length * k.toNat ≤ 1000 * 1000 := Nat.mul_le_mul hk.2.2 (by omega)
              show (rep k.toNat a.cps.toList).toArray.size ≤ sizeLine
              rw [List.size_toArray]
              show ((List.replicate k.toNat a.cps.toList).flatten).length ≤ sizeLine
              rw [PyProof.Rows.lm_len_rep_flat, hs, Array.length_toList]
              have : k.toNat * a.cps.size = a.length * k.toNat := Nat.mul_comm _ _
              omega, ⟨.str _, H, I.tok _, ⟨_, rfl⟩, q.str sub⟩⟩
    · cases e
  · cases e
theorem opo_div : OpR X (binaryOp .FloorDiv) (rO X.K oDiv) := by
  intro pins s σ H x y v u Q I rx ry ⟨F, t, w, r, sub, h1, h2, e, q⟩
  unfold oDiv at e
  split at e
  · rename_i i j
    split at e
    · rename_i hc
      cases e
      rcases hc with hc | hc
      · exact op_fdiv pins s σ H x y v u Q I rx ry ⟨i, j, Vw_int h1, Vw_int h2, hc, q.int sub⟩
      · exact op_fdivW pins s σ H x y v u Q I rx ry ⟨i, j, Vw_int h1, Vw_int h2, hc, q.int sub⟩
    · cases e
  · cases e
theorem opo_mod : OpR X (binaryOp .Mod) (rO X.K oMod) := by
  intro pins s σ H x y v u Q I rx ry ⟨F, t, w, r, sub, h1, h2, e, q⟩
  unfold oMod at e
  split at e
  · rename_i i j
    split at e
    · rename_i hc
      cases e
      exact op_mod pins s σ H x y v u Q I rx ry ⟨i, j, Vw_int h1, Vw_int h2, hc, q.int sub⟩
    · cases e
  · cases e
theorem opo_pow : OpR X (binaryOp .Pow) (rO X.K oPow) := by
  intro pins s σ H x y v u Q I rx ry ⟨F, t, w, r, sub, h1, h2, e, q⟩
  unfold oPow at e
  split at e
  · rename_i i j
    split at e
    · rename_i hc
      cases e
      exact op_pow pins s σ H x y v u Q I rx ry ⟨i, j, Vw_int h1, Vw_int h2, hc, q.int sub⟩
    · cases e
  · cases e
end
end Mi

set_option maxHeartbeats 200000
namespace Mi
open PySem PySem.Spec PyProof.Rows L2
variable [Tb]

/-! ### subscripts and slices -/
def iGet (t u : T) : Option T := match u with
  | .d (.int i) => match t with
    | .d (.tuple xs) => (atI xs i).map .d
    | .d (.list xs) => (atI xs i).map .d
    | .l ts => atI ts i
    | .d (.str s) => if s.length ≤ sizeLine then (atI s.cps.toList i).map fun c => .d (.str ⟨#[c]⟩) else none
    | _ => none
  | _ => none
def rI2 (K : PySem.W.Frag) (f : T → T → Option T) : R2 := fun x y H Q => ∃ F t u r, Same F H ∧ Vw K F H t x ∧ Vw K F H u y ∧ f t u = some r ∧ ∀ z, Vw K F H r z → Q z H
def cutL {α : Type} (xs : List α) (lo hi : Option Int) : List α := (xs.drop (HT.sIx xs.length 0 lo)).take (HT.sIx xs.length xs.length hi - HT.sIx xs.length 0 lo)
def sCut (lo hi : Option Int) (t : T) : Option T := match t with
  | .d (.tuple xs) => some (.d (.tuple (cutL xs lo hi)))
  | .d (.list xs) => some (.l ((cutL xs lo hi).map .d))
  | .l ts => (T.datas ts).map fun xs => .l ((cutL xs lo hi).map .d)
  | _ => none
def rS (K : PySem.W.Frag) (f : Option Int → Option Int → T → Option T) : V → Option Int → Option Int → Hp → VK → Prop := fun x lo hi H Q => ∃ F t r, Same F H ∧ Vw K F H t x ∧ f lo hi t = some r ∧ out K F H r Q
section
variable {X : Cx} {K : PySem.W.Frag} {F H : Hp}
theorem atI_map {α β : Type} {xs : List α} {ys : List β} {i : Int} (hl : xs.length = ys.length) {x : α} (e : atI xs i = some x) : ∃ j : Nat, xs[j]? = some x ∧ atI ys i = ys[j]? := by
  unfold atI at e ⊢
  rw [← hl]
  cases q : ixN xs.length i with
  | none => rw [q] at e; cases e
  | some j => rw [q] at e; exact ⟨j, e, rfl⟩
theorem ixr_get : IxR X (rI2 X.K iGet) := by
  intro value slice pins s σ H x y v u Q I rx ry ⟨F, t, w, r, sub, h1, h2, e, q⟩ hs
  unfold iGet at e
  split at e
  · rename_i i
    cases Vw_int h2
    split at e
    · rename_i xs
      obtain ⟨p, vs, rfl, g1, g2⟩ := Vw_tup h1
      cases e1 : atI xs i with
      | none => rw [e1] at e; cases e
      | some x' =>
        rw [e1] at e
        cases e
        obtain ⟨j, e2, e3⟩ := atI_map g2.length e1
        obtain ⟨z, e4, d⟩ := g2.get e2
        exact ix_tup value slice pins s σ H _ _ v u Q I rx ry ⟨p, vs, i, z, rfl, rfl, SqT.mono sub g1, e3.trans e4, q z (.d d)⟩ hs
    · rename_i xs
      obtain ⟨p, vs, rfl, g1, g2⟩ := Vw_flist h1
      cases e1 : atI xs i with
      | none => rw [e1] at e; cases e
      | some x' =>
        rw [e1] at e
        cases e
        obtain ⟨j, e2, e3⟩ := atI_map g2.length e1
        obtain ⟨z, e4, d⟩ := g2.get e2
        exact ix_list value slice pins s σ H _ _ v u Q I rx ry ⟨p, vs, i, z, rfl, rfl, SqL.mono sub g1, e3.trans e4, q z (.d d)⟩ hs
    · rename_i ts
      obtain ⟨p, vs, rfl, g1, g2⟩ := Vw_list h1
      obtain ⟨j, e2, e3⟩ := atI_map g2.length e
      obtain ⟨z, e4, d⟩ := g2.get e2
      exact ix_list value slice pins s σ H _ _ v u Q I rx ry ⟨p, vs, i, z, rfl, rfl, SqL.of g1, e3.trans e4, q z d⟩ hs
    · rename_i a
      split at e
      · rename_i hl
        cases e1 : atI a.cps.toList i with
        | none => rw [e1] at e; cases e
        | some c =>
          rw [e1] at e
          cases e
          exact ix_str value slice pins s σ H _ _ v u Q I rx ry ⟨a, i, c, Vw_str h1, rfl, hl, e1, q _ (.d (.str _))⟩ hs
      · cases e
    · cases e
  · cases e
theorem cutV_L {xs : List PyData} {vs : List V} (h : DpAll K F vs xs) (lo hi : Option Int) : DpAll K F (cutV vs lo hi) (cutL xs lo hi) := by
  unfold cutV cutL
  rw [h.length]
  exact (h.drop _).take _
theorem cut_whole {xs : List V} {lo hi : Option Int} (h : HT.sIx xs.length 0 lo = 0 ∧ HT.sIx xs.length xs.length hi = xs.length) : cutV xs lo hi = xs := by
  unfold cutV
  rw [h.1, h.2, List.drop_zero, Nat.sub_zero, List.take_length]
theorem cut_wholeL {α : Type} {xs : List α} {lo hi : Option Int} (h : HT.sIx xs.length 0 lo = 0 ∧ HT.sIx xs.length xs.length hi = xs.length) : cutL xs lo hi = xs := by
  unfold cutL
  rw [h.1, h.2, List.drop_zero, Nat.sub_zero, List.take_length]
theorem slr_cut : SlR X (rS X.K sCut) := by
  intro pins s σ H x v vl vu lo hi sl Q I rx hs pl pu ⟨F, t, r, sub, h1, e, q⟩
  unfold sCut at e
  split at e
  · rename_i xs
    cases e
    obtain ⟨p, vs, rfl, g1, g2⟩ := Vw_tup h1
    refine sl_tupA pins s σ H _ v vl vu lo hi sl Q I rx hs pl pu ⟨p, vs, rfl, SqT.mono sub g1, fun w => ?_, fun w p2 np => q.tup sub np (cutV_L g2 lo hi)⟩
    refine q.dat sub (.tup g1 ?_)
    rw [cut_wholeL (by rw [g2.length]; exact w)]
    exact g2
  · rename_i xs
    cases e
    obtain ⟨p, vs, rfl, g1, g2⟩ := Vw_flist h1
    exact sl_list pins s σ H _ v vl vu lo hi sl Q I rx hs pl pu ⟨p, vs, rfl, SqL.mono sub g1, fun p2 np => q.lst sub np (cutV_L g2 lo hi)⟩
  · rename_i ts
    cases e1 : T.datas ts with
    | none => rw [e1] at e; cases e
    | some xs =>
      rw [e1] at e
      cases e
      cases T.datas_eq e1
      obtain ⟨p, vs, rfl, g1, g2⟩ := Vw_list h1
      exact sl_list pins s σ H _ v vl vu lo hi sl Q I rx hs pl pu ⟨p, vs, rfl, SqL.of g1, fun p2 np => q.lst sub np (cutV_L (Vws.datas g2) lo hi)⟩
  · cases e

/-! ### built-in functions -/
/-- the intsD among data, if all are -/
def intsD : List PyData → Option (List Int)
  | [] => some []
  | .int i :: xs => (intsD xs).map (i :: ·)
  | _ :: _ => none
theorem ints_eq : ∀ {xs : List PyData} {ns : List Int}, intsD xs = some ns → xs = ns.map .int
  | [], ns, h => by cases h; rfl
  | x :: xs, ns, h => by
    cases x <;> first | cases h | skip
    rename_i i
    rw [intsD] at h
    cases e : intsD xs with
    | none => rw [e] at h; cases h
    | some ms => rw [e] at h; cases h; rw [ints_eq e]; rfl
theorem ints_map : ∀ ns : List Int, intsD (ns.map .int) = some ns
  | [] => rfl
  | n :: ns => by rw [List.map_cons, intsD, ints_map ns]; rfl
theorem DpAll.of_ints : ∀ {ns : List Int} {vs : List V}, DpAll K F vs (ns.map .int) → vs = ns.map .int
  | [], _, h => by cases h; rfl
  | n :: ns, _, h => by cases h with | cons h1 hs => cases h1; rw [DpAll.of_ints hs]; rfl
def boolsD : List PyData → Option (List Bool)
  | [] => some []
  | .bool i :: xs => (boolsD xs).map (i :: ·)
  | _ :: _ => none
theorem bools_eq : ∀ {xs : List PyData} {ns : List Bool}, boolsD xs = some ns → xs = ns.map .bool
  | [], ns, h => by cases h; rfl
  | x :: xs, ns, h => by
    cases x <;> first | cases h | skip
    rename_i i
    rw [boolsD] at h
    cases e : boolsD xs with
    | none => rw [e] at h; cases h
    | some ms => rw [e] at h; cases h; rw [bools_eq e]; rfl
theorem bools_map : ∀ ns : List Bool, boolsD (ns.map .bool) = some ns
  | [] => rfl
  | n :: ns => by rw [List.map_cons, boolsD, bools_map ns]; rfl
theorem DpAll.of_bools : ∀ {ns : List Bool} {vs : List V}, DpAll K F vs (ns.map .bool) → vs = ns.map .bl
  | [], _, h => by cases h; rfl
  | n :: ns, _, h => by cases h with | cons h1 hs => cases h1; rw [DpAll.of_bools hs]; rfl
/-- the items of a list or a tuple, all of them data -/
def T.seq : T → Option (List PyData)
  | .l ts => T.datas ts
  | .d (.list xs) => some xs
  | .d (.tuple xs) => some xs
  | _ => none
theorem Vw.seq (sub : Same F H) {t : T} {v : V} {xs : List PyData} (h : Vw K F H t v) (e : t.seq = some xs) : ∃ p vs, v = .ref p ∧ (SqL K H p vs ∨ SqT K H p vs) ∧ DpAll K F vs xs ∧ ((∀ ys, t ≠ .d (.tuple ys)) → SqL K H p vs) ∧ (∀ ys, t = .d (.tuple ys) → SqT K F p vs) := by
  unfold T.seq at e
  split at e
  · cases T.datas_eq e
    obtain ⟨p, vs, rfl, g1, g2⟩ := Vw_list h
    exact ⟨p, vs, rfl, .inl (SqL.of g1), Vws.datas g2, fun _ => SqL.of g1, fun _ z => nomatch z⟩
  · cases e
    obtain ⟨p, vs, rfl, g1, g2⟩ := Vw_flist h
    exact ⟨p, vs, rfl, .inl (SqL.mono sub g1), g2, fun _ => SqL.mono sub g1, fun _ z => nomatch z⟩
  · cases e
    obtain ⟨p, vs, rfl, g1, g2⟩ := Vw_tup h
    exact ⟨p, vs, rfl, .inr (SqT.mono sub g1), g2, fun z => absurd rfl (z _), fun _ _ => g1⟩
  · cases e
def bLen : List T → Option T
  | [.l ts] => some (.d (.int ts.length))
  | [.d (.list xs)] => some (.d (.int xs.length))
  | [.d (.tuple xs)] => some (.d (.int xs.length))
  | [.d (.str s)] => if s.length ≤ sizeLine then some (.d (.int s.length)) else none
  | _ => none
def bInt : List T → Option T
  | [.d (.int i)] => some (.d (.int i))
  | [.d (.bool k)] => some (.d (.int (if k then 1 else 0)))
  | _ => none
def bAbs : List T → Option T
  | [.d (.int i)] => some (.d (.int (if i < 0 then -i else i)))
  | _ => none
def lmin : List Int → Int
  | [] => 0
  | x :: xs => xs.foldl min x
def lmax : List Int → Int
  | [] => 0
  | x :: xs => xs.foldl max x
def bMin : List T → Option T
  | [.d (.int i), .d (.int j)] => some (.d (.int (min i j)))
  | [t] => match t with
    | .d (.tuple _) => none
    | t => match t.seq.bind intsD with
      | some (x :: xs) => some (.d (.int (lmin (x :: xs))))
      | _ => none
  | _ => none
def bMax : List T → Option T
  | [.d (.int i), .d (.int j)] => some (.d (.int (max i j)))
  | [t] => match t with
    | .d (.tuple _) => none
    | t => match t.seq.bind intsD with
      | some (x :: xs) => some (.d (.int (lmax (x :: xs))))
      | _ => none
  | _ => none
def bSum : List T → Option T
  | [t] => match t with
    | .d (.tuple _) => none
    | t => (t.seq.bind intsD).map fun ns => .d (.int ns.sum)
  | _ => none
def bAll : List T → Option T
  | [t] => match t with
    | .d (.tuple _) => none
    | t => (t.seq.bind boolsD).map fun ns => .d (.bool (ns.all id))
  | _ => none
def bAny : List T → Option T
  | [t] => match t with
    | .d (.tuple _) => none
    | t => (t.seq.bind boolsD).map fun ns => .d (.bool (ns.any id))
  | _ => none
def bTuple : List T → Option T
  | [t] => t.seq.map fun xs => .d (.tuple xs)
  | _ => none
def bList : List T → Option T
  | [t] => t.seq.map fun xs => .l (xs.map .d)
  | _ => none
theorem Vws1 {t : T} {xs : List V} (h : Vws K F H [t] xs) : ∃ v, xs = [v] ∧ Vw K F H t v := by
  cases h with | cons h hs => cases hs; exact ⟨_, rfl, h⟩
theorem Vws2 {t u : T} {xs : List V} (h : Vws K F H [t, u] xs) : ∃ v w, xs = [v, w] ∧ Vw K F H t v ∧ Vw K F H u w := by
  cases h with | cons h hs => obtain ⟨w, rfl, h2⟩ := Vws1 hs; exact ⟨_, w, rfl, h, h2⟩
theorem cal_len : CallR X (.builtin "len") (rA X.K bLen) := by
  intro pins s σ H xs us Q I rx ⟨F, ts, r, sub, h, e, q⟩
  unfold bLen at e
  split at e
  · rename_i ts
    cases e
    obtain ⟨v, rfl, h0⟩ := Vws1 h
    obtain ⟨p, vs, rfl, g1, g2⟩ := Vw_list h0
    have := q.int sub
    rw [g2.length] at this
    exact call_len_seq pins s σ H _ us Q I rx ⟨p, vs, rfl, .inl (SqL.of g1), this⟩
  · cases e
    obtain ⟨v, rfl, h0⟩ := Vws1 h
    obtain ⟨p, vs, rfl, g1, g2⟩ := Vw_flist h0
    have := q.int sub
    rw [g2.length] at this
    exact call_len_seq pins s σ H _ us Q I rx ⟨p, vs, rfl, .inl (SqL.mono sub g1), this⟩
  · cases e
    obtain ⟨v, rfl, h0⟩ := Vws1 h
    obtain ⟨p, vs, rfl, g1, g2⟩ := Vw_tup h0
    have := q.int sub
    rw [g2.length] at this
    exact call_len_seq pins s σ H _ us Q I rx ⟨p, vs, rfl, .inr (SqT.mono sub g1), this⟩
  · split at e
    · rename_i hl
      cases e
      obtain ⟨v, rfl, h0⟩ := Vws1 h
      cases Vw_str h0
      exact call_len_str pins s σ H _ us Q I rx ⟨_, rfl, hl, q.int sub⟩
    · cases e
  · cases e
theorem cal_int : CallR X (.type "int") (rA X.K bInt) := by
  intro pins s σ H xs us Q I rx ⟨F, ts, r, sub, h, e, q⟩
  unfold bInt at e
  split at e
  · cases e
    obtain ⟨v, rfl, h0⟩ := Vws1 h
    cases Vw_int h0
    exact call_int1 pins s σ H _ us Q I rx (.inl ⟨_, rfl, q.int sub⟩)
  · cases e
    obtain ⟨v, rfl, h0⟩ := Vws1 h
    cases Vw_bool h0
    exact call_int1 pins s σ H _ us Q I rx (.inr ⟨_, rfl, q.int sub⟩)
  · cases e
theorem cal_abs : CallR X (.builtin "abs") (rA X.K bAbs) := by
  intro pins s σ H xs us Q I rx ⟨F, ts, r, sub, h, e, q⟩
  unfold bAbs at e
  split at e
  · cases e
    obtain ⟨v, rfl, h0⟩ := Vws1 h
    cases Vw_int h0
    exact call_abs pins s σ H _ us Q I rx ⟨_, rfl, q.int sub⟩
  · cases e
theorem lmin_of {n m : Int} {ns : List Int} (hm : m ∈ n :: ns) (hle : ∀ y, y ∈ n :: ns → m ≤ y) : lmin (n :: ns) = m := by
  have h1 : ∀ (ns : List Int) (a : Int), ns.foldl min a ∈ a :: ns ∧ ∀ y ∈ a :: ns, ns.foldl min a ≤ y := by
    intro ns
    induction ns with
    | nil => intro a; simp
    | cons b ns ih =>
      intro a
      obtain ⟨i1, i2⟩ := ih (min a b)
      rw [List.foldl_cons]
      constructor
      · rcases List.mem_cons.mp i1 with e | e
        · rw [e]
          rcases Int.le_total a b with h | h
          · rw [Int.min_eq_left h]; exact List.mem_cons_self
          · rw [Int.min_eq_right h]; exact List.mem_cons_of_mem _ List.mem_cons_self
        · exact List.mem_cons_of_mem _ (List.mem_cons_of_mem _ e)
      · intro y hy
        have h0 := i2 (min a b) List.mem_cons_self
        rcases List.mem_cons.mp hy with e | hy
        · subst e; omega
        · rcases List.mem_cons.mp hy with e | hy
          · subst e; omega
          · exact i2 y (List.mem_cons_of_mem _ hy)
  obtain ⟨a, b⟩ := h1 ns n
  exact Int.le_antisymm (b m hm) (hle _ a)
theorem lmax_of {n m : Int} {ns : List Int} (hm : m ∈ n :: ns) (hle : ∀ y, y ∈ n :: ns → y ≤ m) : lmax (n :: ns) = m := by
  have h1 : ∀ (ns : List Int) (a : Int), ns.foldl max a ∈ a :: ns ∧ ∀ y ∈ a :: ns, y ≤ ns.foldl max a := by
    intro ns
    induction ns with
    | nil => intro a; simp
    | cons b ns ih =>
      intro a
      obtain ⟨i1, i2⟩ := ih (max a b)
      rw [List.foldl_cons]
      constructor
      · rcases List.mem_cons.mp i1 with e | e
        · rw [e]
          rcases Int.le_total a b with h | h
          · rw [Int.max_eq_right h]; exact List.mem_cons_of_mem _ List.mem_cons_self
          · rw [Int.max_eq_left h]; exact List.mem_cons_self
        · exact List.mem_cons_of_mem _ (List.mem_cons_of_mem _ e)
      · intro y hy
        have h0 := i2 (max a b) List.mem_cons_self
        rcases List.mem_cons.mp hy with e | hy
        · subst e; omega
        · rcases List.mem_cons.mp hy with e | hy
          · subst e; omega
          · exact i2 y (List.mem_cons_of_mem _ hy)
  obtain ⟨a, b⟩ := h1 ns n
  exact Int.le_antisymm (hle _ a) (b m hm)
/-- one list of data -/
theorem one_seq (sub : Same F H) {t : T} {xs : List V} {ys : List PyData} (h : Vws K F H [t] xs) (e : t.seq = some ys) (hn : ∀ zs, t ≠ .d (.tuple zs)) : ∃ p vs, xs = [.ref p] ∧ SqL K H p vs ∧ DpAll K F vs ys := by
  obtain ⟨v, rfl, h0⟩ := Vws1 h
  obtain ⟨p, vs, rfl, _, g, g1, _⟩ := h0.seq sub e
  exact ⟨p, vs, rfl, g1 hn, g⟩
theorem seq_ints {t : T} {ns : List Int} (e : t.seq.bind intsD = some ns) : t.seq = some (ns.map .int) := by
  cases q : t.seq with
  | none => rw [q] at e; cases e
  | some ys => rw [q] at e; rw [ints_eq e]
theorem seq_bools {t : T} {ns : List Bool} (e : t.seq.bind boolsD = some ns) : t.seq = some (ns.map .bool) := by
  cases q : t.seq with
  | none => rw [q] at e; cases e
  | some ys => rw [q] at e; rw [bools_eq e]
theorem cal_min (hc : X.calm = true) : CallR X (.builtin "min") (rA X.K bMin) := by
  intro pins s σ H xs us Q I rx ⟨F, ts, r, sub, h, e, q⟩
  unfold bMin at e
  split at e
  · rename_i i j
    cases e
    obtain ⟨v, w, rfl, h1, h2⟩ := Vws2 h
    cases Vw_int h1
    cases Vw_int h2
    refine call_min2 hc pins s σ H _ us Q I rx ⟨i, j, rfl, ?_⟩
    have e : (if j < i then j else i) = min i j := by split <;> omega
    rw [e]
    exact q.int sub
  · rename_i t
    split at e
    · cases e
    · rename_i hn
      split at e
      · rename_i x xs' ei
        cases e
        obtain ⟨p, vs, rfl, g1, g2⟩ := one_seq sub h (seq_ints ei) fun zs z => hn zs z
        cases DpAll.of_ints g2
        refine cr_min hc pins s σ H _ us Q I rx ⟨p, x :: xs', rfl, g1, by simp, fun m hm hle => ?_⟩
        have := q.int sub
        rw [lmin_of hm hle] at this
        exact this
      · cases e
  · cases e
theorem cal_max (hc : X.calm = true) : CallR X (.builtin "max") (rA X.K bMax) := by
  intro pins s σ H xs us Q I rx ⟨F, ts, r, sub, h, e, q⟩
  unfold bMax at e
  split at e
  · rename_i i j
    cases e
    obtain ⟨v, w, rfl, h1, h2⟩ := Vws2 h
    cases Vw_int h1
    cases Vw_int h2
    refine call_max2 hc pins s σ H _ us Q I rx ⟨i, j, rfl, ?_⟩
    have e : (if j > i then j else i) = max i j := by split <;> omega
    rw [e]
    exact q.int sub
  · rename_i t
    split at e
    · cases e
    · rename_i hn
      split at e
      · rename_i x xs' ei
        cases e
        obtain ⟨p, vs, rfl, g1, g2⟩ := one_seq sub h (seq_ints ei) fun zs z => hn zs z
        cases DpAll.of_ints g2
        refine cr_max hc pins s σ H _ us Q I rx ⟨p, x :: xs', rfl, g1, by simp, fun m hm hle => ?_⟩
        have := q.int sub
        rw [lmax_of hm hle] at this
        exact this
      · cases e
  · cases e
theorem cal_sum (hc : X.calm = true) : CallR X (.builtin "sum") (rA X.K bSum) := by
  intro pins s σ H xs us Q I rx ⟨F, ts, r, sub, h, e, q⟩
  unfold bSum at e
  split at e
  · rename_i t
    split at e
    · cases e
    · rename_i hn
      cases ei : t.seq.bind intsD with
      | none => rw [ei] at e; cases e
      | some ns =>
        rw [ei] at e
        cases e
        obtain ⟨p, vs, rfl, g1, g2⟩ := one_seq sub h (seq_ints ei) fun zs z => hn zs z
        cases DpAll.of_ints g2
        exact cr_sum hc pins s σ H _ us Q I rx ⟨p, ns, rfl, g1, q.int sub⟩
  · cases e
theorem cal_all (hc : X.calm = true) : CallR X (.builtin "all") (rA X.K bAll) := by
  intro pins s σ H xs us Q I rx ⟨F, ts, r, sub, h, e, q⟩
  unfold bAll at e
  split at e
  · rename_i t
    split at e
    · cases e
    · rename_i hn
      cases ei : t.seq.bind boolsD with
      | none => rw [ei] at e; cases e
      | some ns =>
        rw [ei] at e
        cases e
        obtain ⟨p, vs, rfl, g1, g2⟩ := one_seq sub h (seq_bools ei) fun zs z => hn zs z
        cases DpAll.of_bools g2
        exact cr_all hc pins s σ H _ us Q I rx ⟨p, ns, rfl, g1, q.bl sub⟩
  · cases e
theorem cal_any (hc : X.calm = true) : CallR X (.builtin "any") (rA X.K bAny) := by
  intro pins s σ H xs us Q I rx ⟨F, ts, r, sub, h, e, q⟩
  unfold bAny at e
  split at e
  · rename_i t
    split at e
    · cases e
    · rename_i hn
      cases ei : t.seq.bind boolsD with
      | none => rw [ei] at e; cases e
      | some ns =>
        rw [ei] at e
        cases e
        obtain ⟨p, vs, rfl, g1, g2⟩ := one_seq sub h (seq_bools ei) fun zs z => hn zs z
        cases DpAll.of_bools g2
        exact cr_any hc pins s σ H _ us Q I rx ⟨p, ns, rfl, g1, q.bl sub⟩
  · cases e
theorem cal_tuple : CallR X (.type "tuple") (rA X.K bTuple) := by
  intro pins s σ H xs us Q I rx ⟨F, ts, r, sub, h, e, q⟩
  unfold bTuple at e
  split at e
  · rename_i t
    cases es : t.seq with
    | none => rw [es] at e; cases e
    | some ys =>
      rw [es] at e
      cases e
      obtain ⟨v, rfl, h0⟩ := Vws1 h
      obtain ⟨p, vs, rfl, _, g, g1, g2⟩ := h0.seq sub es
      by_cases ht : ∃ zs, t = .d (.tuple zs)
      · obtain ⟨zs, rfl⟩ := ht
        exact call_tuple_of pins s σ H _ us Q I rx ⟨p, vs, rfl, .inr ⟨SqT.mono sub (g2 zs rfl), q.dat sub (.tup (g2 zs rfl) g)⟩⟩
      · exact call_tuple_of pins s σ H _ us Q I rx ⟨p, vs, rfl, .inl ⟨g1 fun zs z => ht ⟨zs, z⟩, fun l nl => q.tup sub nl g⟩⟩
  · cases e
theorem cal_list : CallR X (.type "list") (rA X.K bList) := by
  intro pins s σ H xs us Q I rx ⟨F, ts, r, sub, h, e, q⟩
  unfold bList at e
  split at e
  · rename_i t
    cases es : t.seq with
    | none => rw [es] at e; cases e
    | some ys =>
      rw [es] at e
      cases e
      obtain ⟨v, rfl, h0⟩ := Vws1 h
      obtain ⟨p, vs, rfl, g0, g, _, _⟩ := h0.seq sub es
      exact call_list_of pins s σ H _ us Q I rx ⟨p, vs, rfl, g0, fun l nl => q.lst sub nl g⟩
  · cases e
end
end Mi

set_option maxHeartbeats 200000
namespace Mi
open PySem PySem.Spec PyProof.Rows L2
variable [Tb]

/-! ### the pieces -/
def mVar (i : Nat) : PM := fun env => match env[i]? with
  | some (some t) => .ok t
  | _ => .no
def mD (p : PM) : PM := fun env => (p env).bind fun t => match t with
  | .d x => .ok (.d x)
  | .l _ => .no
def mK (x : PyData) : PM := fun _ => .ok (.d x)
def mBin (f : T → T → Option T) (p q : PM) : PM := fun env => (p env).bind fun t => (q env).bind fun u => Rs.of (f t u)
def mCmp (f : T → T → Option Bool) (p q : PM) : PM := fun env => (p env).bind fun t => (q env).bind fun u => (Rs.of (f t u)).bind fun k => .ok (.d (.bool k))
def mCmpT (f : T → T → Option Bool) (p q : PM) : Env → Rs Bool := fun env => (p env).bind fun t => (q env).bind fun u => Rs.of (f t u)
def mChainT (f g : T → T → Option Bool) (p q r : PM) : Env → Rs Bool := fun env => (p env).bind fun t => (q env).bind fun u => (Rs.of (f t u)).bind fun k =>
  if k then (r env).bind fun w => Rs.of (g u w) else .ok false
def mOfT (p : Env → Rs Bool) : PM := fun env => (p env).bind fun k => .ok (.d (.bool k))
def tTrue (t : T) : Rs Bool := match t with
  | .d (.bool b) => .ok b
  | _ => .no
def mTrue (p : PM) : Env → Rs Bool := fun env => (p env).bind tTrue
def mAnd (p q : PM) : PM := fun env => (p env).bind fun t => (tTrue t).bind fun k => if k then q env else .ok (.d (.bool false))
def mOr (p q : PM) : PM := fun env => (p env).bind fun t => (tTrue t).bind fun k => if k then .ok (.d (.bool true)) else q env
def mNot (p : PM) : PM := fun env => (p env).bind fun t => (tTrue t).bind fun k => .ok (.d (.bool (!k)))
def mAndT (p q : Env → Rs Bool) : Env → Rs Bool := fun env => (p env).bind fun k => if k then q env else .ok false
def mOrT (p q : Env → Rs Bool) : Env → Rs Bool := fun env => (p env).bind fun k => if k then .ok true else q env
def mNotT (p : Env → Rs Bool) : Env → Rs Bool := fun env => (p env).bind fun k => .ok (!k)
def mIf (c : Env → Rs Bool) (p q : PM) : PM := fun env => (c env).bind fun k => if k then p env else q env
def oNeg (t : T) : Option T := match t with
  | .d (.int i) => some (.d (.int (-i)))
  | _ => none
def mUn (f : T → Option T) (p : PM) : PM := fun env => (p env).bind fun t => Rs.of (f t)
def mNil : PMs := fun _ => .ok []
def mCons (p : PM) (ps : PMs) : PMs := fun env => (p env).bind fun t => (ps env).bind fun ts => .ok (t :: ts)
def mApp (f : List T → Option T) (ps : PMs) : PM := fun env => (ps env).bind fun ts => Rs.of (f ts)
def mTup (ps : PMs) : PM := fun env => (ps env).bind fun ts => .ok (.d (.tuple (T.frzs ts)))
def mLst (ps : PMs) : PM := fun env => (ps env).bind fun ts => .ok (.l ts)
def tInt (t : T) : Rs Int := match t with
  | .d (.int i) => .ok i
  | _ => .no
def mPart (p : Option PM) : Env → Rs (Option Int) := fun env => match p with
  | none => .ok none
  | some p => (p env).bind fun t => (tInt t).bind fun i => .ok (some i)
def mSlice (p : PM) (lo hi : Option PM) : PM := fun env => (p env).bind fun t => (mPart lo env).bind fun a => (mPart hi env).bind fun b => Rs.of (sCut a b t)

section
variable {X : Cx} {ct : Nat → Addr} {EX : XK} {a b c e : Expr} {es : List Expr} {pa pb pc : PM} {ps : PMs} {pos : Pos}
/-- a look that is data stands by itself -/
theorem SV.d (h : SV X ct EX e pa) : SP X ct EX e (mD pa) := PE.imp h fun σ H Q ⟨F, env, M, rel, q⟩ => by
  refine tV.mono (bindV rel (g := fun t => match t with | .d x => .ok (.d x) | .l _ => .no) q) fun v H1 ⟨F1, t, x1, v1, _, h1⟩ => ?_
  cases t with
  | d x => cases v1 with | d v1 => exact h1 F1 H1 v [] (Ext.refl x1.s) .nil (.d v1)
  | l _ => exact h1.elim
theorem sv_var (i : Nat) {x : Str} (hN : X.N[i]? = some x := by rfl) (hv : Vis X.env.scope x := by first | exact Or.inl rfl | exact Or.inr (Or.inl rfl) | exact Or.inr (Or.inr rfl)) (hd : (x == ("__debug__" : Str)) = false := by decide)
    (hcd : (x == ("__classdict__" : Str)) = false := by decide) : SV X ct EX (.Name x pos) (mVar i) := PE.imp (pe_var hN hv hd hcd) fun σ H Q ⟨F, env, M, rel, q⟩ => by
  unfold mVar at q
  split at q
  · rename_i t e
    obtain ⟨v, N, e1, o, _⟩ := rel.own.get e
    exact ⟨v, e1, q F H v (Ext.refl rel.sub) o.vw⟩
  · exact q.elim
theorem sp_var (i : Nat) {x : Str} (hN : X.N[i]? = some x := by rfl) (hv : Vis X.env.scope x := by first | exact Or.inl rfl | exact Or.inr (Or.inl rfl) | exact Or.inr (Or.inr rfl)) (hd : (x == ("__debug__" : Str)) = false := by decide)
    (hcd : (x == ("__classdict__" : Str)) = false := by decide) : SP X ct EX (.Name x pos) (mD (mVar i)) := (sv_var i hN hv hd hcd).d
theorem sp_const {x : PyData} {v : V} (h : PE X e (tC v)) (hd : ∀ F, Dp X.K F v x) : SP X ct EX e (mK x) := PE.imp h fun σ H Q ⟨F, env, M, rel, q⟩ => q F H v [] (Ext.refl rel.sub) .nil (.d (hd F))
theorem sp_int {i : Int} {j} : SP X ct EX (.Constant (.int i) j pos) (mK (.int i)) := sp_const pe_int fun _ => .int i
theorem sp_bl {i : Bool} {j} : SP X ct EX (.Constant (.bool i) j pos) (mK (.bool i)) := sp_const pe_bl fun _ => .bl i
theorem sp_non {j} : SP X ct EX (.Constant .none j pos) (mK .none) := sp_const pe_non fun _ => .non
theorem sp_str {x : Str} {j} (y : Str) (h : x = y) : SP X ct EX (.Constant (.str x) j pos) (mK (.str y)) := h ▸ sp_const pe_str fun _ => .str x
/-- a module's constant -/
theorem sp_glob {x : Str} {v : V} {u : Value} {y : PyData} (hg : Gl X x) (hm : X.mg x = some u) (r : RelV v u) (hy : ∀ F, Dp X.K F v y) (hd : (x == ("__debug__" : Str)) = false := by decide) : SP X ct EX (.Name x pos) (mK y) := sp_const (pe_glob hg hm r hd) hy

theorem tV2 {K : PySem.W.Frag} {F H : Hp} {env : Env} {σ : Sg} {M : List Addr} {Q : VK} {g : T → T → Rs T} (rel : Rel K F H env σ M) (h : atP K ct EX ((pa env).bind fun t => (pb env).bind fun u => g t u) F H M Q) :
    tV K ct EX pa σ H fun x H1 => tV K ct EX pb σ H1 fun y H2 => ∃ F2 t u, Ext F H F2 H2 ∧ Vw K F2 H2 t x ∧ Vw K F2 H2 u y ∧ atP K ct EX (g t u) F2 H2 M Q :=
  tV.mono (bindV rel h) fun x H1 ⟨F1, t, x1, v1, _, h1⟩ => tV.mono (bindV (rel.ext x1) h1) fun y H2 ⟨F2, u, x2, v2, _, h2⟩ => ⟨F2, t, u, x1.trans x2, v1.mono x2.f x2.h, v2, h2⟩
theorem sp_bin {op : Operator} {f : T → T → Option T} (ho : OpR X (binaryOp op) (rO X.K f)) (ha : SV X ct EX a pa) (hb : SV X ct EX b pb) : SP X ct EX (.BinOp a op b pos) (mBin f pa pb) :=
  PE.imp (pe_op ho ha hb) fun σ H Q ⟨F, env, M, rel, q⟩ => by
    refine tV.mono (tV2 (g := fun t u => Rs.of (f t u)) rel q) fun x H1 h1 => tV.mono h1 fun y H2 ⟨F2, t, u, x2, v1, v2, h2⟩ => ?_
    cases e : f t u with
    | none => rw [e] at h2; exact h2.elim
    | some r => rw [e] at h2; exact ⟨F2, t, u, r, x2.s, v1, v2, e, h2⟩
theorem sp_cmp {op : CmpOp} {f : T → T → Option Bool} (ho : OpR X (compareOp op) (rC X.K f)) (ha : SV X ct EX a pa) (hb : SV X ct EX b pb) (hm : behindInMarks op b = false) : SP X ct EX (.Compare a [op] [b] pos) (mCmp f pa pb) :=
  PE.imp (pe_cmpR ho ha hb hm) fun σ H Q ⟨F, env, M, rel, q⟩ => by
    refine tV.mono (tV2 (g := fun t u => (Rs.of (f t u)).bind fun k => .ok (.d (.bool k))) rel q) fun x H1 h1 => tV.mono h1 fun y H2 ⟨F2, t, u, x2, v1, v2, h2⟩ => ?_
    cases e : f t u with
    | none => rw [e] at h2; exact h2.elim
    | some r => rw [e] at h2; exact ⟨F2, t, u, r, x2.s, v1, v2, e, h2 F2 H2 _ [] (Ext.refl x2.s) .nil (.d (.bl r))⟩
theorem tTV {K : PySem.W.Frag} {F H : Hp} {env : Env} {σ : Sg} {M : List Addr} {Q : Bool → Hp → Prop} {g : T → Rs Bool} (rel : Rel K F H env σ M) (h : atT ct EX ((pa env).bind g) F H M Q) :
    tV K ct EX pa σ H fun x H1 => ∃ F1 t, Ext F H F1 H1 ∧ Vw K F1 H1 t x ∧ atT ct EX (g t) F1 H1 M Q := by
  refine ⟨F, env, M, rel, ?_⟩
  cases e : pa env with
  | ok t => rw [e] at h; exact fun F1 H1 v x o => ⟨F1, t, x, o, h.ext x⟩
  | ex c => rw [e] at h; exact h
  | no => rw [e] at h; exact h
theorem tTV2 {K : PySem.W.Frag} {F H : Hp} {env : Env} {σ : Sg} {M : List Addr} {Q : Bool → Hp → Prop} {g : T → T → Rs Bool} (rel : Rel K F H env σ M) (h : atT ct EX ((pa env).bind fun t => (pb env).bind fun u => g t u) F H M Q) :
    tV K ct EX pa σ H fun x H1 => tV K ct EX pb σ H1 fun y H2 => ∃ F2 t u, Ext F H F2 H2 ∧ Vw K F2 H2 t x ∧ Vw K F2 H2 u y ∧ atT ct EX (g t u) F2 H2 M Q :=
  tV.mono (tTV rel h) fun x H1 ⟨F1, t, x1, v1, h1⟩ => tV.mono (tTV (rel.ext x1) h1) fun y H2 ⟨F2, u, x2, v2, h2⟩ => ⟨F2, t, u, x1.trans x2, v1.mono x2.f x2.h, v2, h2⟩
theorem stt_cmp {op : CmpOp} {f : T → T → Option Bool} (ho : OpR X (compareOp op) (rC X.K f)) (ha : SV X ct EX a pa) (hb : SV X ct EX b pb) (hm : behindInMarks op b = false) : STt X ct EX (.Compare a [op] [b] pos) (mCmpT f pa pb) :=
  PT.imp (pt_cmpR ho ha hb hm) fun σ H Q ⟨F, env, M, rel, q⟩ => by
    refine tV.mono (tTV2 (g := fun t u => Rs.of (f t u)) rel q) fun x H1 h1 => tV.mono h1 fun y H2 ⟨F2, t, u, x2, v1, v2, h2⟩ => ?_
    cases e : f t u with
    | none => rw [e] at h2; exact h2.elim
    | some r => rw [e] at h2; exact ⟨F2, t, u, r, x2.s, v1, v2, e, r, rfl, h2 F2 H2 (Ext.refl x2.s)⟩
theorem stt_chain {op op' : CmpOp} {f g : T → T → Option Bool} (ho : OpR X (compareOp op) (rC X.K f)) (ho' : OpR X (compareOp op') (rC X.K g)) (ha : SV X ct EX a pa) (hb : SV X ct EX b pb) (hc : SV X ct EX c pc)
    (hm : lastMarks [op, op'] [b, c] = false := by with_unfolding_all rfl) : STt X ct EX (.Compare a [op, op'] [b, c] pos) (mChainT f g pa pb pc) :=
  PT.imp (pt_chain ho ho' ha hb hc hm) fun σ H Q ⟨F, env, M, rel, q⟩ => by
    refine tV.mono (tTV2 (g := fun t u => (Rs.of (f t u)).bind fun k => if k then (pc env).bind fun w => Rs.of (g u w) else .ok false) rel q) fun x H1 h1 => tV.mono h1 fun y H2 ⟨F2, t, u, x2, v1, v2, h2⟩ => ?_
    cases e : f t u with
    | none => rw [e] at h2; exact h2.elim
    | some r =>
      rw [e] at h2
      refine ⟨F2, t, u, r, x2.s, v1, v2, e, r, rfl, ?_⟩
      cases r with
      | false =>
        rw [if_neg Bool.false_ne_true]
        exact ⟨_, rfl, h2 F2 H2 (Ext.refl x2.s)⟩
      | true =>
        rw [if_pos rfl]
        refine tV.mono (tTV (g := fun w => Rs.of (g u w)) (rel.ext x2) h2) fun z H3 ⟨F3, w, x3, v3, h3⟩ => ?_
        cases e3 : g u w with
        | none => rw [e3] at h3; exact h3.elim
        | some r' => rw [e3] at h3; exact ⟨F3, u, w, r', x3.s, v2.mono x3.f x3.h, v3, e3, r', rfl, h3 F3 H3 (Ext.refl x3.s)⟩
theorem sp_chain {op op' : CmpOp} {f g : T → T → Option Bool} (ho : OpR X (compareOp op) (rC X.K f)) (ho' : OpR X (compareOp op') (rC X.K g)) (ha : SV X ct EX a pa) (hb : SV X ct EX b pb) (hc : SV X ct EX c pc)
    (hm : lastMarks [op, op'] [b, c] = false := by with_unfolding_all rfl) : SP X ct EX (.Compare a [op, op'] [b, c] pos) (mOfT (mChainT f g pa pb pc)) :=
  PE.imp (pe_chain ho ho' ha hb hc hm) fun σ H Q ⟨F, env, M, rel, q⟩ => by
    have q' : atT ct EX (mChainT f g pa pb pc env) F H M fun k H' => Q (.bl k) H' := by
      unfold mOfT at q
      cases e : mChainT f g pa pb pc env with
      | ok k => rw [e] at q; exact fun F' H' x => q F' H' _ [] x .nil (.d (.bl k))
      | ex c => rw [e] at q; exact q
      | no => rw [e] at q; exact q
    refine tV.mono (tTV2 (g := fun t u => (Rs.of (f t u)).bind fun k => if k then (pc env).bind fun w => Rs.of (g u w) else .ok false) rel q') fun x H1 h1 => tV.mono h1 fun y H2 ⟨F2, t, u, x2, v1, v2, h2⟩ => ?_
    cases e : f t u with
    | none => rw [e] at h2; exact h2.elim
    | some r =>
      rw [e] at h2
      refine ⟨F2, t, u, r, x2.s, v1, v2, e, r, rfl, ?_⟩
      cases r with
      | false =>
        rw [if_neg Bool.false_ne_true]
        exact h2 F2 H2 (Ext.refl x2.s)
      | true =>
        rw [if_pos rfl]
        refine tV.mono (tTV (g := fun w => Rs.of (g u w)) (rel.ext x2) h2) fun z H3 ⟨F3, w, x3, v3, h3⟩ => ?_
        cases e3 : g u w with
        | none => rw [e3] at h3; exact h3.elim
        | some r' => rw [e3] at h3; exact ⟨F3, u, w, r', x3.s, v2.mono x3.f x3.h, v3, e3, h3 F3 H3 (Ext.refl x3.s)⟩
/-- what a truth told as a test says of its value -/
theorem tTrue_inv {K : PySem.W.Frag} {F H : Hp} {t : T} {v : V} {b : Bool} (h : Vw K F H t v) (e : tTrue t = .ok b) : v = .bl b := by
  unfold tTrue at e
  split at e
  · cases e; exact Vw_bool h
  · cases e
theorem tTrue_no {t : T} : (∃ b, tTrue t = .ok b) ∨ tTrue t = .no := by
  unfold tTrue
  split
  · exact .inl ⟨_, rfl⟩
  · exact .inr rfl
theorem stt_val (ha : SV X ct EX e pa) (he : ∀ whole, isTrue e X.env whole = (do let v ← whole; standAt e.pos; holding [v] (truthy v)) := by intro _; rfl) : STt X ct EX e (mTrue pa) :=
  PT.imp (pt_val ha he) fun σ H Q ⟨F, env, M, rel, q⟩ => by
    refine tV.mono (tTV (g := tTrue) rel q) fun x H1 ⟨F1, t, x1, v1, h1⟩ => ?_
    rcases tTrue_no (t := t) with ⟨b, e⟩ | e
    · rw [e] at h1; exact ⟨b, tTrue_inv v1 e, h1 F1 H1 (Ext.refl x1.s)⟩
    · rw [e] at h1; exact h1.elim
variable {rest : List Expr}
theorem sp_one {op} (ha : SP X ct EX a pa) : SP X ct EX (.BoolOp op [a] pos) pa := pe_one ha
theorem sp_and (ha : SV X ct EX a pa) (hb : SP X ct EX (.BoolOp .And (b :: rest) pos) pb) : SP X ct EX (.BoolOp .And (a :: b :: rest) pos) (mAnd pa pb) :=
  PE.imp (pe_and ha hb) fun σ H Q ⟨F, env, M, rel, q⟩ => by
    refine tV.mono (bindV (g := fun t => (tTrue t).bind fun k => if k then pb env else .ok (.d (.bool false))) rel q) fun x H1 ⟨F1, t, x1, v1, _, h1⟩ => ?_
    rcases tTrue_no (t := t) with ⟨k, e⟩ | e
    · rw [e] at h1
      refine ⟨k, tTrue_inv v1 e, ?_⟩
      cases k with
      | false => rw [if_neg Bool.false_ne_true]; exact h1 F1 H1 _ [] (Ext.refl x1.s) .nil (.d (.bl _))
      | true => rw [if_pos rfl]; exact ⟨F1, env, M, rel.ext x1, h1⟩
    · rw [e] at h1; exact h1.elim
theorem sp_or (ha : SV X ct EX a pa) (hb : SP X ct EX (.BoolOp .Or (b :: rest) pos) pb) : SP X ct EX (.BoolOp .Or (a :: b :: rest) pos) (mOr pa pb) :=
  PE.imp (pe_or ha hb) fun σ H Q ⟨F, env, M, rel, q⟩ => by
    refine tV.mono (bindV (g := fun t => (tTrue t).bind fun k => if k then .ok (.d (.bool true)) else pb env) rel q) fun x H1 ⟨F1, t, x1, v1, _, h1⟩ => ?_
    rcases tTrue_no (t := t) with ⟨k, e⟩ | e
    · rw [e] at h1
      refine ⟨k, tTrue_inv v1 e, ?_⟩
      cases k with
      | true => rw [if_pos rfl]; exact h1 F1 H1 _ [] (Ext.refl x1.s) .nil (.d (.bl _))
      | false => rw [if_neg Bool.false_ne_true]; exact ⟨F1, env, M, rel.ext x1, h1⟩
    · rw [e] at h1; exact h1.elim
theorem sp_not (ha : SV X ct EX a pa) : SP X ct EX (.UnaryOp .Not a pos) (mNot pa) :=
  PE.imp (pe_not ha) fun σ H Q ⟨F, env, M, rel, q⟩ => by
    refine tV.mono (bindV (g := fun t => (tTrue t).bind fun k => .ok (.d (.bool (!k)))) rel q) fun x H1 ⟨F1, t, x1, v1, _, h1⟩ => ?_
    rcases tTrue_no (t := t) with ⟨k, e⟩ | e
    · rw [e] at h1; exact ⟨k, tTrue_inv v1 e, h1 F1 H1 _ [] (Ext.refl x1.s) .nil (.d (.bl _))⟩
    · rw [e] at h1; exact h1.elim
/-! tests -/
variable {p q : Env → Rs Bool}
theorem tTT {K : PySem.W.Frag} {F H : Hp} {env : Env} {σ : Sg} {M : List Addr} {Q : Bool → Hp → Prop} {g : Bool → Rs Bool} (rel : Rel K F H env σ M) (h : atT ct EX ((p env).bind g) F H M Q) :
    tT K ct EX p σ H fun k H1 => ∃ F1, Ext F H F1 H1 ∧ atT ct EX (g k) F1 H1 M Q := by
  refine ⟨F, env, M, rel, ?_⟩
  cases e : p env with
  | ok t => rw [e] at h; exact fun F1 H1 o => ⟨F1, o, h.ext o⟩
  | ex c => rw [e] at h; exact h
  | no => rw [e] at h; exact h
/-- tests in a row, whatever is around -/
def SW (X : Cx) (ct : Nat → Addr) (EX : XK) (e : Expr) (p : Env → Rs Bool) : Prop := PW X e (tT X.K ct EX p)
theorem SW.t (h : SW X ct EX e p) : STt X ct EX e p := PW.pt h
theorem sw_and1 (ha : STt X ct EX a p) : SW X ct EX (.BoolOp .And [a] pos) p := pw_and1 ha
theorem sw_or1 (ha : STt X ct EX a p) : SW X ct EX (.BoolOp .Or [a] pos) p := pw_or1 ha
theorem sw_and (ha : STt X ct EX a p) (hb : SW X ct EX (.BoolOp .And (b :: rest) pos) q) : SW X ct EX (.BoolOp .And (a :: b :: rest) pos) (mAndT p q) :=
  PW.imp (pw_and ha hb) fun σ H Q ⟨F, env, M, rel, h⟩ => by
    refine tT.mono (tTT (g := fun k => if k then q env else .ok false) rel h) fun k H1 ⟨F1, x1, h1⟩ => ?_
    cases k with
    | true => rw [if_pos rfl]; exact ⟨F1, env, M, rel.ext x1, h1⟩
    | false => rw [if_neg Bool.false_ne_true]; exact h1 F1 H1 (Ext.refl x1.s)
theorem sw_or (ha : STt X ct EX a p) (hb : SW X ct EX (.BoolOp .Or (b :: rest) pos) q) : SW X ct EX (.BoolOp .Or (a :: b :: rest) pos) (mOrT p q) :=
  PW.imp (pw_or ha hb) fun σ H Q ⟨F, env, M, rel, h⟩ => by
    refine tT.mono (tTT (g := fun k => if k then .ok true else q env) rel h) fun k H1 ⟨F1, x1, h1⟩ => ?_
    cases k with
    | true => rw [if_pos rfl]; exact h1 F1 H1 (Ext.refl x1.s)
    | false => rw [if_neg Bool.false_ne_true]; exact ⟨F1, env, M, rel.ext x1, h1⟩
theorem stt_not (ha : STt X ct EX a p) : STt X ct EX (.UnaryOp .Not a pos) (mNotT p) :=
  PT.imp (pt_not ha) fun σ H Q ⟨F, env, M, rel, h⟩ => tT.mono (tTT (g := fun k => .ok (!k)) rel h) fun k H1 ⟨F1, x1, h1⟩ => h1 F1 H1 (Ext.refl x1.s)
theorem tTP {K : PySem.W.Frag} {F H : Hp} {env : Env} {σ : Sg} {M : List Addr} {Q : VK} {g : Bool → Rs T} (rel : Rel K F H env σ M) (h : atP K ct EX ((p env).bind g) F H M Q) :
    tT K ct EX p σ H fun k H1 => ∃ F1, Ext F H F1 H1 ∧ atP K ct EX (g k) F1 H1 M Q := by
  refine ⟨F, env, M, rel, ?_⟩
  cases e : p env with
  | ok t => rw [e] at h; exact fun F1 H1 o => ⟨F1, o, h.ext o⟩
  | ex c => rw [e] at h; exact h
  | no => rw [e] at h; exact h
theorem tTPV {K : PySem.W.Frag} {F H : Hp} {env : Env} {σ : Sg} {M : List Addr} {Q : VK} {g : Bool → Rs T} (rel : Rel K F H env σ M) (h : atV K ct EX ((p env).bind g) F H M Q) :
    tT K ct EX p σ H fun k H1 => ∃ F1, Ext F H F1 H1 ∧ atV K ct EX (g k) F1 H1 M Q := by
  refine ⟨F, env, M, rel, ?_⟩
  cases e : p env with
  | ok t => rw [e] at h; exact fun F1 H1 o => ⟨F1, o, h.ext o⟩
  | ex c => rw [e] at h; exact h
  | no => rw [e] at h; exact h
theorem sp_if (hc : STt X ct EX c p) (ha : SP X ct EX a pa) (hb : SP X ct EX b pb) : SP X ct EX (.IfExp c a b pos) (mIf p pa pb) :=
  PE.imp (pe_ifExp hc ha hb) fun σ H Q ⟨F, env, M, rel, h⟩ => by
    refine tT.mono (tTP (g := fun k => if k then pa env else pb env) rel h) fun k H1 ⟨F1, x1, h1⟩ => ?_
    cases k with
    | true => rw [if_pos rfl]; exact ⟨F1, env, M, rel.ext x1, h1⟩
    | false => rw [if_neg Bool.false_ne_true]; exact ⟨F1, env, M, rel.ext x1, h1⟩
theorem sv_if (hc : STt X ct EX c p) (ha : SV X ct EX a pa) (hb : SV X ct EX b pb) : SV X ct EX (.IfExp c a b pos) (mIf p pa pb) :=
  PE.imp (pe_ifExp hc ha hb) fun σ H Q ⟨F, env, M, rel, h⟩ => by
    refine tT.mono (tTPV (g := fun k => if k then pa env else pb env) rel h) fun k H1 ⟨F1, x1, h1⟩ => ?_
    cases k with
    | true => rw [if_pos rfl]; exact ⟨F1, env, M, rel.ext x1, h1⟩
    | false => rw [if_neg Bool.false_ne_true]; exact ⟨F1, env, M, rel.ext x1, h1⟩
theorem unr_neg : UnR X (unaryOp .USub) (rU1 X.K oNeg) := by
  intro pins s σ H x v Q I rx ⟨F, t, r, sub, h1, e, q⟩
  unfold oNeg at e
  split at e
  · cases e; exact un_neg pins s σ H x v Q I rx ⟨_, Vw_int h1, q.int sub⟩
  · cases e
theorem sp_un {op : UnaryOp} {f : T → Option T} (ho : UnR X (unaryOp op) (rU1 X.K f)) (ha : SV X ct EX a pa) : SP X ct EX (.UnaryOp op a pos) (mUn f pa) :=
  PE.imp (pe_un ho ha) fun σ H Q ⟨F, env, M, rel, q⟩ => by
    refine tV.mono (bindV (g := fun t => Rs.of (f t)) rel q) fun x H1 ⟨F1, t, x1, v1, _, h1⟩ => ?_
    cases e : f t with
    | none => rw [e] at h1; exact h1.elim
    | some r => rw [e] at h1; exact ⟨F1, t, r, x1.s, v1, e, h1⟩
theorem tVV {K : PySem.W.Frag} {F H : Hp} {env : Env} {σ : Sg} {M : List Addr} {Q : VK} {g : T → Rs T} (rel : Rel K F H env σ M) (h : atV K ct EX ((pa env).bind g) F H M Q) :
    tV K ct EX pa σ H fun x H1 => ∃ F1 t, Ext F H F1 H1 ∧ Vw K F1 H1 t x ∧ atV K ct EX (g t) F1 H1 M Q := by
  refine ⟨F, env, M, rel, ?_⟩
  cases e : pa env with
  | ok t => rw [e] at h; exact fun F1 H1 v x o => ⟨F1, t, x, o, h.ext x⟩
  | ex c => rw [e] at h; exact h
  | no => rw [e] at h; exact h
theorem sv_ix (ha : SV X ct EX a pa) (hb : SV X ct EX b pb) (hs : PlainIx b) : SV X ct EX (.Subscript a b pos) (mBin iGet pa pb) :=
  PE.imp (pe_ix ixr_get ha hb hs) fun σ H Q ⟨F, env, M, rel, q⟩ => by
    refine tV.mono (tVV (g := fun t => (pb env).bind fun u => Rs.of (iGet t u)) rel q) fun x H1 ⟨F1, t, x1, v1, h1⟩ => tV.mono (tVV (g := fun u => Rs.of (iGet t u)) (rel.ext x1) h1) fun y H2 ⟨F2, u, x2, v2, h2⟩ => ?_
    cases e : iGet t u with
    | none => rw [e] at h2; exact h2.elim
    | some r => rw [e] at h2; exact ⟨F2, t, u, r, x2.s, v1.mono x2.f x2.h, v2, e, fun z vz => h2 F2 H2 z (Ext.refl x2.s) vz⟩
theorem sp_ix (ha : SV X ct EX a pa) (hb : SV X ct EX b pb) (hs : PlainIx b) : SP X ct EX (.Subscript a b pos) (mD (mBin iGet pa pb)) := (sv_ix ha hb hs).d
/-! parts of a slice -/
def atO (ct : Nat → Addr) (EX : XK) (r : Rs (Option Int)) (F H : Hp) (M : List Addr) (Q : Option Int → Hp → Prop) : Prop := match r with
  | .ok b => ∀ F' H', Ext F H F' H' → Q b H'
  | .ex c => exq ct EX H M c
  | .no => False
def tO (K : PySem.W.Frag) (ct : Nat → Addr) (EX : XK) (p : Option PM) : TO := fun σ H Q => ∃ F env M, Rel K F H env σ M ∧ atO ct EX (mPart p env) F H M Q
theorem atO.ext {F H F' H' : Hp} {M : List Addr} {r : Rs (Option Int)} {Q : Option Int → Hp → Prop} (h : atO ct EX r F H M Q) (x : Ext F H F' H') : atO ct EX r F' H' M Q := by
  cases r with
  | ok t => exact fun F2 H2 y => h F2 H2 (x.trans y)
  | ex c => exact exq.ext h x.h
  | no => exact h
def SO (X : Cx) (ct : Nat → Addr) (EX : XK) (e : Option Expr) (p : Option PM) : Prop := PO X e (tO X.K ct EX p)
theorem so_none : SO X ct EX none none := ⟨fun pins s σ H Q I ⟨F, env, M, rel, q⟩ => po_none.run pins s σ H Q I (q F H (Ext.refl rel.sub))⟩
theorem tInt_inv {K : PySem.W.Frag} {F H : Hp} {t : T} {v : V} {b : Int} (h : Vw K F H t v) (e : tInt t = .ok b) : v = .int b := by
  unfold tInt at e
  split at e
  · cases e; exact Vw_int h
  · cases e
theorem tInt_no {t : T} : (∃ b, tInt t = .ok b) ∨ tInt t = .no := by
  unfold tInt
  split
  · exact .inl ⟨_, rfl⟩
  · exact .inr rfl
theorem so_some (ha : SV X ct EX a pa) : SO X ct EX (some a) (some pa) := by
  refine ⟨fun pins s σ H Q I ⟨F, env, M, rel, q⟩ => (po_some ha).run pins s σ H Q I ?_⟩
  show tV X.K ct EX pa σ H fun x H1 => ∃ i, x = .int i ∧ Q (some i) H1
  refine ⟨F, env, M, rel, ?_⟩
  unfold mPart at q
  cases e : pa env with
  | ok t =>
    simp only [e, Rs.bind] at q
    intro F1 H1 v x o
    rcases tInt_no (t := t) with ⟨b, e2⟩ | e2
    · rw [e2] at q; exact ⟨b, tInt_inv o e2, q F1 H1 x⟩
    · rw [e2] at q; exact q.elim
  | ex c => simp only [e, Rs.bind] at q; exact q
  | no => simp only [e, Rs.bind] at q; exact q.elim
theorem tOP {K : PySem.W.Frag} {F H : Hp} {env : Env} {σ : Sg} {M : List Addr} {p : Option PM} {Q : VK} {g : Option Int → Rs T} (rel : Rel K F H env σ M) (h : atP K ct EX ((mPart p env).bind g) F H M Q) :
    tO K ct EX p σ H fun k H1 => ∃ F1, Ext F H F1 H1 ∧ atP K ct EX (g k) F1 H1 M Q := by
  refine ⟨F, env, M, rel, ?_⟩
  cases e : mPart p env with
  | ok t => rw [e] at h; exact fun F1 H1 o => ⟨F1, o, h.ext o⟩
  | ex c => rw [e] at h; exact h
  | no => rw [e] at h; exact h
theorem tO.mono {K : PySem.W.Frag} {σ : Sg} {H : Hp} {p : Option PM} {Q Q' : Option Int → Hp → Prop} (h : tO K ct EX p σ H Q) (i : ∀ v H, Q v H → Q' v H) : tO K ct EX p σ H Q' := by
  obtain ⟨F, env, M, r, q⟩ := h
  refine ⟨F, env, M, r, ?_⟩
  cases e : mPart p env with
  | ok t => rw [e] at q; exact fun F2 H2 y => i _ _ (q F2 H2 y)
  | ex c => rw [e] at q; exact q
  | no => rw [e] at q; exact q
theorem sp_slice {lo hi : Option Expr} {pl ph : Option PM} {p2 : Pos} (ha : SV X ct EX a pa) (hl : SO X ct EX lo pl) (hh : SO X ct EX hi ph) : SP X ct EX (.Subscript a (.Slice lo hi none p2) pos) (mSlice pa pl ph) :=
  PE.imp (pe_slice slr_cut ha hl hh) fun σ H Q ⟨F, env, M, rel, q⟩ => by
    refine tV.mono (bindV (g := fun t => (mPart pl env).bind fun a => (mPart ph env).bind fun b => Rs.of (sCut a b t)) rel q) fun x H1 ⟨F1, t, x1, v1, _, h1⟩ =>
      tO.mono (tOP (g := fun a => (mPart ph env).bind fun b => Rs.of (sCut a b t)) (rel.ext x1) h1) fun o H2 ⟨F2, x2, h2⟩ => tO.mono (tOP (g := fun b => Rs.of (sCut o b t)) ((rel.ext x1).ext x2) h2) fun o' H3 ⟨F3, x3, h3⟩ => ?_
    cases e : sCut o o' t with
    | none => rw [e] at h3; exact h3.elim
    | some r => rw [e] at h3; exact ⟨F3, t, r, x3.s, (v1.mono x2.f x2.h).mono x3.f x3.h, e, h3⟩
/-! argument lists -/
theorem svs_nil : SVs X ct EX [] mNil := PA.imp pa_nil fun σ H Q ⟨F, env, M, rel, q⟩ => q F H [] (Ext.refl rel.sub) .nil
theorem tVVs {K : PySem.W.Frag} {F H : Hp} {env : Env} {σ : Sg} {M : List Addr} {Q : List V → Hp → Prop} {g : T → Rs (List T)} (rel : Rel K F H env σ M) (h : atVs K ct EX ((pa env).bind g) F H M Q) :
    tV K ct EX pa σ H fun x H1 => ∃ F1 t, Ext F H F1 H1 ∧ Vw K F1 H1 t x ∧ atVs K ct EX (g t) F1 H1 M Q := by
  refine ⟨F, env, M, rel, ?_⟩
  cases e : pa env with
  | ok t => rw [e] at h; exact fun F1 H1 v x o => ⟨F1, t, x, o, h.ext x⟩
  | ex c => rw [e] at h; exact h
  | no => rw [e] at h; exact h
theorem tVsVs {K : PySem.W.Frag} {F H : Hp} {env : Env} {σ : Sg} {M : List Addr} {Q : List V → Hp → Prop} {g : List T → Rs (List T)} (rel : Rel K F H env σ M) (h : atVs K ct EX ((ps env).bind g) F H M Q) :
    tVs K ct EX ps σ H fun x H1 => ∃ F1 t, Ext F H F1 H1 ∧ Vws K F1 H1 t x ∧ atVs K ct EX (g t) F1 H1 M Q := by
  refine ⟨F, env, M, rel, ?_⟩
  cases e : ps env with
  | ok t => rw [e] at h; exact fun F1 H1 v x o => ⟨F1, t, x, o, h.ext x⟩
  | ex c => rw [e] at h; exact h
  | no => rw [e] at h; exact h
theorem svs_cons (ha : SV X ct EX e pa) (hr : SVs X ct EX es ps) (hs : starEach (e :: es) X.env = (false, eval e X.env) :: starEach es X.env := by rfl) : SVs X ct EX (e :: es) (mCons pa ps) :=
  PA.imp (pa_cons ha hr hs) fun σ H Q ⟨F, env, M, rel, q⟩ => by
    refine tV.mono (tVVs (g := fun t => (ps env).bind fun ts => .ok (t :: ts)) rel q) fun x H1 ⟨F1, t, x1, v1, h1⟩ => tVs.mono (tVsVs (g := fun ts => .ok (t :: ts)) (rel.ext x1) h1) fun xs H2 ⟨F2, ts, x2, v2, h2⟩ => ?_
    exact h2 F2 H2 _ (Ext.refl x2.s) (.cons (v1.mono x2.f x2.h) v2)
/-- owned ones -/
theorem sps_nil : SPs X ct EX [] mNil := PA.imp pa_nil fun σ H Q ⟨F, env, M, rel, q⟩ => q F H [] [] (Ext.refl rel.sub) .nil .nil
/-- it comes to something -/
def oks {α : Type} (ct : Nat → Addr) (EX : XK) (r : Rs α) (H : Hp) (M : List Addr) : Prop := match r with
  | .ok _ => True
  | .ex c => exq ct EX H M c
  | .no => False
theorem oks.ext {α : Type} {r : Rs α} {H H' : Hp} {M : List Addr} (h : oks ct EX r H M) (k : SameN H H') : oks ct EX r H' M := by
  cases r with
  | ok t => exact h
  | ex c => exact exq.ext h k
  | no => exact h
theorem runP {K : PySem.W.Frag} {F H : Hp} {env : Env} {σ : Sg} {M : List Addr} (rel : Rel K F H env σ M) (h : oks ct EX (pa env) H M) :
    tP K ct EX pa σ H fun x H1 => ∃ F1 t N, pa env = .ok t ∧ Ext F H F1 H1 ∧ Fresh H F1 N ∧ Ow K F1 H1 t x N := by
  refine ⟨F, env, M, rel, ?_⟩
  cases e : pa env with
  | ok t => exact fun F1 H1 v N x f o => ⟨F1, t, N, rfl, x, f, o⟩
  | ex c => rw [e] at h; exact h
  | no => rw [e] at h; exact h
theorem runPs {K : PySem.W.Frag} {F H : Hp} {env : Env} {σ : Sg} {M : List Addr} (rel : Rel K F H env σ M) (h : oks ct EX (ps env) H M) :
    tPs K ct EX ps σ H fun x H1 => ∃ F1 t N, ps env = .ok t ∧ Ext F H F1 H1 ∧ Fresh H F1 N ∧ Ows K F1 H1 t x N := by
  refine ⟨F, env, M, rel, ?_⟩
  cases e : ps env with
  | ok t => exact fun F1 H1 v N x f o => ⟨F1, t, N, rfl, x, f, o⟩
  | ex c => rw [e] at h; exact h
  | no => rw [e] at h; exact h
theorem atPs.fst {α : Type} {K : PySem.W.Frag} {F H : Hp} {M : List Addr} {r : Rs α} {g : α → Rs (List T)} {Q : List V → Hp → Prop} (h : atPs K ct EX (r.bind g) F H M Q) : oks ct EX r H M := by
  cases r with
  | ok t => trivial
  | ex c => exact h
  | no => exact h
theorem atP.fst {α : Type} {K : PySem.W.Frag} {F H : Hp} {M : List Addr} {r : Rs α} {g : α → Rs T} {Q : VK} (h : atP K ct EX (r.bind g) F H M Q) : oks ct EX r H M := by
  cases r with
  | ok t => trivial
  | ex c => exact h
  | no => exact h
/-- new cells stay new and apart behind further steps -/
theorem Fresh.on {H F1 H1 F2 H2 : Hp} {N : List Addr} (f : Fresh H F1 N) (o : ∀ a ∈ N, ∃ vs, H1 a = some (.lst vs)) (x : Ext F1 H1 F2 H2) : Fresh H F2 N := ⟨f.nd, f.new, fun a ha => by
  cases e : F2 a with
  | none => rfl
  | some u =>
    obtain ⟨vs, hv⟩ := o a ha
    rcases x.n a u e with z | z
    · rw [f.dis a ha] at z; cases z
    · rw [hv] at z; cases z⟩
theorem Fresh.app {H H1 F2 : Hp} {N N2 : List Addr} (f : Fresh H F2 N) (o : ∀ a ∈ N, ∃ vs, H1 a = some (.lst vs)) (g : Fresh H1 F2 N2) (k : SameN H H1) : Fresh H F2 (N ++ N2) := by
  refine ⟨List.nodup_append.mpr ⟨f.nd, g.nd, fun a ha b hb e => ?_⟩, fun a ha => ?_, fun a ha => ?_⟩
  · subst e
    obtain ⟨vs, hv⟩ := o a ha
    rw [g.new a hb] at hv; cases hv
  · rcases List.mem_append.mp ha with ha | ha
    · exact f.new a ha
    · exact k.free (g.new a ha)
  · rcases List.mem_append.mp ha with ha | ha
    · exact f.dis a ha
    · exact g.dis a ha
theorem Ow.ext {K : PySem.W.Frag} {F H F' H' : Hp} {t : T} {v : V} {N : List Addr} (o : Ow K F H t v N) (x : Ext F H F' H') : Ow K F' H' t v N := o.keep x.f (x.h.on (fun _ _ z => nomatch z) o.there)
theorem Ows.ext {K : PySem.W.Frag} {F H F' H' : Hp} {t : List T} {v : List V} {N : List Addr} (o : Ows K F H t v N) (x : Ext F H F' H') : Ows K F' H' t v N := o.keep x.f (x.h.on (fun _ _ z => nomatch z) o.there)
theorem sps_cons (ha : SP X ct EX e pa) (hr : SPs X ct EX es ps) (hs : starEach (e :: es) X.env = (false, eval e X.env) :: starEach es X.env := by rfl) : SPs X ct EX (e :: es) (mCons pa ps) :=
  PA.imp (pa_cons ha hr hs) fun σ H Q ⟨F, env, M, rel, q⟩ => by
    refine tP.mono (runP rel (atPs.fst (g := fun t => (ps env).bind fun ts => .ok (t :: ts)) q)) fun x H1 ⟨F1, t, N, e1, x1, f1, o1⟩ => ?_
    unfold mCons at q
    rw [e1] at q
    refine tPs.mono (runPs (rel.ext x1) ((atPs.fst (g := fun ts => .ok (t :: ts)) q).ext x1.h)) fun xs H2 ⟨F2, ts, N2, e2, x2, f2, o2⟩ => ?_
    simp only [Rs.bind, e2] at q
    exact q F2 H2 (x :: xs) (N ++ N2) (x1.trans x2) (Fresh.app (f1.on o1.there x2) o1.there f2 x1.h) (.cons (o1.ext x2) o2)
/-! calls of the built-in, displays -/
theorem runVs {K : PySem.W.Frag} {F H : Hp} {env : Env} {σ : Sg} {M : List Addr} (rel : Rel K F H env σ M) (h : oks ct EX (ps env) H M) :
    tVs K ct EX ps σ H fun x H1 => ∃ F1 t, ps env = .ok t ∧ Ext F H F1 H1 ∧ Vws K F1 H1 t x := by
  refine ⟨F, env, M, rel, ?_⟩
  cases e : ps env with
  | ok t => exact fun F1 H1 v x o => ⟨F1, t, rfl, x, o⟩
  | ex c => rw [e] at h; exact h
  | no => rw [e] at h; exact h
theorem app_core {K : PySem.W.Frag} {F H : Hp} {env : Env} {σ : Sg} {M : List Addr} {Q : VK} {f : List T → Option T} (rel : Rel K F H env σ M) (q : atP K ct EX (mApp f ps env) F H M Q) : tVs K ct EX ps σ H fun xs H1 => rA K f xs H1 Q := by
  refine tVs.mono (runVs rel (atP.fst (g := fun ts => Rs.of (f ts)) q)) fun xs H1 ⟨F1, ts, e1, x1, v1⟩ => ?_
  unfold mApp at q
  rw [e1] at q
  have q1 := q.ext x1
  show rA K f xs H1 Q
  simp only [Rs.bind] at q1
  cases e : f ts with
  | none => rw [e] at q1; exact q1.elim
  | some r => rw [e] at q1; exact ⟨F1, ts, r, x1.s, v1, e, q1⟩
theorem sp_callB {x : Str} {id : String} {p : Pos} {f : List T → Option T} (hc : CallR X (.builtin id) (rA X.K f)) (hg : Gl X x) (hm : X.mg x = none) (hv : bootBuiltins x = some (.builtin id)) (ha : SVs X ct EX (e :: es) ps) (hn : x ≠ "__name__" := by decide) (hdb : (x == ("__debug__" : Str)) = false := by decide)
    (hs : starEach (e :: es) X.env = (false, eval e X.env) :: starEach es X.env := by rfl) (hpl : (backTo pos (starEach es X.env)).any (·.1) = false := by rfl) : SP X ct EX (.Call (.Name x p) (e :: es) [] pos) (mApp f ps) :=
  PE.imp (pe_callB hc hg hm hv ha hn hdb hs hpl) fun σ H Q ⟨F, env, M, rel, q⟩ => app_core rel q
theorem sp_callT {x : Str} {id : String} {p : Pos} {f : List T → Option T} (hc : CallR X (.type id) (rA X.K f)) (hg : Gl X x) (hm : X.mg x = none) (hv : bootBuiltins x = some (.type id)) (ha : SVs X ct EX (e :: es) ps) (hn : x ≠ "__name__" := by decide) (hdb : (x == ("__debug__" : Str)) = false := by decide)
    (hs : starEach (e :: es) X.env = (false, eval e X.env) :: starEach es X.env := by rfl) (hpl : (backTo pos (starEach es X.env)).any (·.1) = false := by rfl) : SP X ct EX (.Call (.Name x p) (e :: es) [] pos) (mApp f ps) :=
  PE.imp (pe_callTy hc hg hm hv ha hn hdb hs hpl) fun σ H Q ⟨F, env, M, rel, q⟩ => app_core rel q
def mTupS (ps : PMs) : PM := fun env => (ps env).bind fun ts => if ts.length ≤ sizeLine then .ok (.d (.tuple (T.frzs ts))) else .no
def mLstS (ps : PMs) : PM := fun env => (ps env).bind fun ts => if ts.length ≤ sizeLine then .ok (.l ts) else .no
/-- own things let in beside F -/
theorem Ext.join {F H F1 H1 : Hp} {N : List Addr} (x : Ext F H F1 H1) (f : Fresh H F1 N) : Ext F H (join F1 H1 N) H1 :=
  ⟨x.f.trans (join_ge x.s), x.h, join_sub x.s, fun a o e => by
    by_cases h : a ∈ N
    · exact .inr (f.new a h)
    · rw [join_out h] at e; exact x.n a o e⟩
theorem sp_tup {x1} (ha : SPs X ct EX es ps) : SP X ct EX (.Tuple es x1 pos) (mTupS ps) :=
  PE.imp (pe_tup ha) fun σ H Q ⟨F, env, M, rel, q⟩ => by
    refine tPs.mono (runPs rel (atP.fst (g := fun ts => if ts.length ≤ sizeLine then .ok (.d (.tuple (T.frzs ts))) else .no) q)) fun xs H1 ⟨F1, ts, N, e1, x1, f1, o1⟩ => ?_
    unfold mTupS at q
    rw [e1] at q
    simp only [Rs.bind] at q
    split at q
    · rename_i hl
      refine ⟨by rw [← o1.length]; exact hl, fun p np => ?_⟩
      have x2 := x1.join f1
      have d := Ows.frz x1.s o1
      exact q _ _ (.ref p) [] (x2.trans (Ext.lay x2.s np)) .nil (.d (.tup (.inl (.inl upd_same)) (DpAll.mono (Same.upd_new (x2.s.free np)) d)))
    · exact q.elim
theorem sp_lst (ha : SPs X ct EX es ps) : SP X ct EX (.List es pos) (mLstS ps) :=
  PE.imp (pe_lst ha) fun σ H Q ⟨F, env, M, rel, q⟩ => by
    refine tPs.mono (runPs rel (atP.fst (g := fun ts => if ts.length ≤ sizeLine then .ok (.l ts) else .no) q)) fun xs H1 ⟨F1, ts, N, e1, x1, f1, o1⟩ => ?_
    unfold mLstS at q
    rw [e1] at q
    simp only [Rs.bind] at q
    split at q
    · rename_i hl
      refine ⟨by rw [← o1.length]; exact hl, fun p np => ?_⟩
      have x2 := Ext.own (o := .lst xs) x1.s np
      refine q F1 _ (.ref p) (p :: N) (x1.trans x2) ⟨List.nodup_cons.mpr ⟨fun hp => ?_, f1.nd⟩, fun a ha => ?_, fun a ha => ?_⟩ (.l upd_same (o1.ext x2))
      · obtain ⟨vs, hv⟩ := o1.there p hp
        rw [np] at hv; cases hv
      · rcases List.mem_cons.mp ha with z | z
        · subst z; exact x1.h.free np
        · exact f1.new a z
      · rcases List.mem_cons.mp ha with z | z
        · subst z; exact x1.s.free np
        · exact f1.dis a z
    · exact q.elim
end
end Mi

set_option maxHeartbeats 200000
namespace Mi
open PySem PySem.Spec PyProof.Rows L2
variable [Tb]

/-! ### what enumerate and zip walk: a list, a tuple, a text -/
inductive Kn where
  | lst (a : Addr)
  | tpl (a : Addr)
  | txt (z : Str)
def Kn.own (it : Addr) (i : Nat) (h : Heap) : Kn → Prop
  | .lst a => h.IsListIter it a i
  | .tpl a => h.IsTupleIter it a i
  | .txt z => ∃ u, h.IsStrIter it (strIterType z) z u i
def Kn.src : Kn → List Addr
  | .lst a => [a]
  | .tpl a => [a]
  | .txt _ => []
def Kn.val : Kn → V
  | .lst a => .ref a
  | .tpl a => .ref a
  | .txt z => .str z
/-- its items as the heap has them -/
def Kn.holds (K : PySem.W.Frag) (H : Hp) (xs : List V) : Kn → Prop
  | .lst a => SqL K H a xs
  | .tpl a => SqT K H a xs
  | .txt z => xs = z.cps.toList.map fun c => .str ⟨#[c]⟩
section
variable {X : Cx} {pins : List (Addr × Obj)} {σ : Sg} {H : Hp} {s : Shared}
theorem Kn.draw {A : Around} (hh : A.handled = none) (I : L2.Inv X pins σ H s) {k : Kn} {xs : List V} {it : Addr} {i : Nat} (h : k.holds X.K H xs) (o : k.own it i s.heap) (ne : ∀ a ∈ k.src, a ≠ it) :
    ∃ P St, Draws X.prog X.w A it (it :: k.src) xs.length P St ∧ St i s.heap ∧ (∀ j v, P j v → ∃ x, xs[j]? = some x ∧ RelV x v) ∧ ∀ j h', St j h' → k.own it j h' := by
  cases k with
  | lst a =>
    obtain ⟨its, rv, p, _⟩ := I.list h
    have hl := rv.length
    have D := Draws.list (prog := X.prog) (w := X.w) hh it a (ne a (by simp [Kn.src])) its.toArray
    rw [show its.toArray.size = xs.length by simp [hl]] at D
    refine ⟨_, _, D, ⟨o, p.isList⟩, fun j v e => ?_, fun j h' q => q.1⟩
    · have e' : its[j]? = some v := by simpa using e
      obtain ⟨hj, _⟩ := List.getElem?_eq_some_iff.mp e'
      have hx : xs[j]? = some xs[j] := List.getElem?_eq_getElem (by omega)
      obtain ⟨u, e1, r⟩ := rv.get hx
      rw [e'] at e1; cases e1
      exact ⟨_, hx, r⟩
  | tpl a =>
    obtain ⟨its, rv, p, _⟩ := I.tuple h
    have hl := rv.length
    have D := Draws.tuple (prog := X.prog) (w := X.w) hh it a (ne a (by simp [Kn.src])) its.toArray
    rw [show its.toArray.size = xs.length by simp [hl]] at D
    refine ⟨_, _, D, ⟨o, p⟩, fun j v e => ?_, fun j h' q => q.1⟩
    · have e' : its[j]? = some v := by simpa using e
      obtain ⟨hj, _⟩ := List.getElem?_eq_some_iff.mp e'
      have hx : xs[j]? = some xs[j] := List.getElem?_eq_getElem (by omega)
      obtain ⟨u, e1, r⟩ := rv.get hx
      rw [e'] at e1; cases e1
      exact ⟨_, hx, r⟩
  | txt z =>
    have h' : xs = z.cps.toList.map fun c => .str ⟨#[c]⟩ := h
    subst h'
    obtain ⟨u, o⟩ := o
    have D := Draws.text (prog := X.prog) (w := X.w) hh it z u
    rw [show z.cps.size = (z.cps.toList.map fun c => V.str ⟨#[c]⟩).length by simp] at D
    refine ⟨_, _, D, o, fun j v ⟨c, t, e, ev⟩ => ?_, fun j h' q => ⟨u, q⟩⟩
    · subst ev
      exact ⟨.str ⟨#[c]⟩, by rw [List.getElem?_map, Array.getElem?_toList, e]; rfl, ⟨t, rfl⟩⟩
theorem Kn.begin (I : L2.Inv X pins σ H s) {k : Kn} {xs : List V} {u : Value} (h : k.holds X.K H xs) (r : RelV k.val u) :
    ∃ (o : Obj) (Hh : Heap → Prop), Begins u o Hh ∧ Hh s.heap ∧ ∀ (it : Addr) (h' : Heap), h'.get? it = some o → k.own it 0 h' := by
  cases k with
  | lst a =>
    obtain ⟨its, rv, p, _⟩ := I.list h
    cases r
    exact ⟨_, _, begins_list a its.toArray, p.isList, fun it h' e => ⟨_, e, rfl, rfl⟩⟩
  | tpl a =>
    obtain ⟨its, rv, p, _⟩ := I.tuple h
    cases r
    exact ⟨_, _, begins_tuple a its.toArray, p, fun it h' e => ⟨_, e, rfl, rfl⟩⟩
  | txt z =>
    obtain ⟨t, rfl⟩ := r
    exact ⟨_, _, begins_text z t, trivial, fun it h' e => ⟨t, _, e, rfl, rfl⟩⟩
theorem Kn.own_at {k : Kn} {it : Addr} {i : Nat} {h h' : Heap} (o : k.own it i h) (e : ∀ ob, h.get? it = some ob → h'.get? it = some ob) : k.own it i h' := by
  cases k with
  | lst a => obtain ⟨ob, e1, r⟩ := o; exact ⟨ob, e ob e1, r⟩
  | tpl a => obtain ⟨ob, e1, r⟩ := o; exact ⟨ob, e ob e1, r⟩
  | txt z => obtain ⟨u, ob, e1, r⟩ := o; exact ⟨u, ob, e ob e1, r⟩
theorem Kn.own_obj {k : Kn} {it : Addr} {i : Nat} {h : Heap} (o : k.own it i h) : ∃ ob, h.get? it = some ob ∧ ∀ v, ob.data ≠ .cell v := by
  cases k with
  | lst a => obtain ⟨ob, e1, _, d⟩ := o; exact ⟨ob, e1, fun v z => by rw [d] at z; cases z⟩
  | tpl a => obtain ⟨ob, e1, _, d⟩ := o; exact ⟨ob, e1, fun v z => by rw [d] at z; cases z⟩
  | txt z => obtain ⟨u, ob, e1, _, d⟩ := o; exact ⟨ob, e1, fun v z => by rw [d] at z; cases z⟩
theorem Kn.src_lt (I : L2.Inv X pins σ H s) {k : Kn} {xs : List V} (h : k.holds X.K H xs) : ∀ a ∈ k.src, a < s.heap.objs.size := by
  cases k with
  | lst a => intro b hb; obtain ⟨its, rv, p, _⟩ := I.list h; rw [List.mem_singleton.mp hb]; exact p.lt
  | tpl a => intro b hb; obtain ⟨its, rv, p, _⟩ := I.tuple h; rw [List.mem_singleton.mp hb]; exact p.lt
  | txt z => intro b hb; cases hb
theorem Kn.inj (I : L2.Inv X pins σ H s) {k : Kn} {xs ys : List V} (h : k.holds X.K H xs) (h' : k.holds X.K H ys) : xs = ys := by
  cases k with
  | lst a => exact I.list_inj h h'
  | tpl a => exact I.tuple_inj h h'
  | txt z => exact (show xs = _ from h).trans (show ys = _ from h').symm
end

/-! ### enumerate -/
def IteK (K : PySem.W.Frag) (k : Kn) : It :=
  ⟨fun i H => ∃ (xs : List V) (x : V), k.holds K H xs ∧ xs[i]? = some x, fun i H v H' => ∃ T x, v = .ref T ∧ H T = none ∧ H' = upd H T (.tup [.int (i : Nat), x]) ∧ ∀ xs, k.holds K H xs → xs[i]? = some x, fun i H => ∃ xs : List V, k.holds K H xs ∧ xs.length = i⟩
/-- one new tuple, the walk's own records turned -/
theorem turnedTup {X : Cx} {pins : List (Addr × Obj)} {σ : Sg} {H : Hp} {s : Shared} {fp : List Addr} {h' : Heap} {tk : Nat} {T : Addr} {xs : List V} {its : Array Value} (I : L2.Inv X pins σ H s) (kk : ∀ b o, b ∉ fp → s.heap.get? b = some o → h'.get? b = some o)
    (hf : ∀ b ∈ fp, FpOk X pins H b) (hT : s.heap.objs.size ≤ T) (ht : h'.IsTuple T its) (rv : Vals xs its.toList) (hz : xs.length ≤ sizeLine) : L2.Inv X pins σ (upd H T (.tup xs)) { s with heap := h', toks := tk } :=
  I.turnedNew kk hf hT ⟨hz, its.toList, rv, ht⟩
theorem turn_enumK {P : Program} {w : World} {K : PySem.W.Frag} {elts : List Expr} {kk : Nat} {tpos : Pos} (k : Kn) (e it : Addr) (hei : e ≠ it) (hs : ∀ a ∈ k.src, a ≠ e ∧ a ≠ it) :
    Turn P w K (.Tuple elts kk tpos) (IteK K k) [e, it] e (fun i h => (∃ old, IsEnum h e it (0 + (i : Int)) old) ∧ k.own it i h) where
  mem := by simp
  obj := fun i h st b hb => by
    obtain ⟨⟨old, he⟩, ho⟩ := st
    have e' : b = e ∨ b = it := by simpa using hb
    rcases e' with z | z
    · rw [z]; exact ⟨_, he, fun v q => nomatch q⟩
    · rw [z]; exact Kn.own_obj ho
  keep := fun i h h' st q => let ⟨⟨old, he⟩, ho⟩ := st; ⟨⟨old, q e (by simp) _ he⟩, Kn.own_at ho fun ob x => q it (by simp) ob x⟩
  item := by
    intro X hP hw hK hc i pins s σ H E I hf st hg
    subst hP hw hK
    obtain ⟨he, ho⟩ := st
    obtain ⟨xs, x, hq, hx⟩ := hg
    obtain ⟨hi, _⟩ := List.getElem?_eq_some_iff.mp hx
    have hh : X.A.in1.handled = none := I.ok.hd hc
    obtain ⟨Pd, St, D, st0, hP, hSt⟩ := Kn.draw hh I hq ho fun a ha => (hs a ha).2
    have G := GoesN.enumFrom (elts := elts) (x1 := kk) (pos := tpos) 0 D e hei (by
      intro hm
      rcases List.mem_cons.mp hm with z | z
      · exact hei z
      · exact (hs e z).1 rfl) (by simp)
    refine thn (G.goes i s _ _ hi ⟨he, st0⟩ fun v h' tk hY st' hk _ => ?_) fun r s1 q => q
    obtain ⟨T, t, y, rfl, hn, hPy, hTu⟩ := hY
    obtain ⟨x', hx', rx⟩ := hP i y hPy
    rw [hx] at hx'; cases hx'
    have I1 := turnedTup (tk := tk) (xs := [.int (i : Nat), x]) I hk hf hn hTu (.cons ⟨t, by rw [Int.zero_add]⟩ (.cons rx .nil)) (by show 2 ≤ sizeLine; decide)
    refine ⟨.ref T, _, I1, rfl, ⟨T, x, rfl, I.hok.fresh hn, rfl, fun ys hy => by rw [Kn.inj I hy hq]; exact hx⟩, ⟨st'.1, hSt _ _ st'.2⟩, fun b hb => ?_⟩
    rw [upd_ne]
    · exact (hf b hb).1
    · intro z
      subst z
      obtain ⟨⟨old, he'⟩, hi'⟩ := st'
      have e' : b = e ∨ b = it := by simpa using hb
      obtain ⟨_, he0⟩ := he
      obtain ⟨_, hi0, _⟩ := Kn.own_obj ho
      rcases e' with z | z
      · rw [z] at hn; exact absurd (Nat.lt_of_lt_of_le (Heap.lt_size he0) hn) (Nat.lt_irrefl _)
      · rw [z] at hn; exact absurd (Nat.lt_of_lt_of_le (Heap.lt_size hi0) hn) (Nat.lt_irrefl _)
  done := by
    intro X hP hw hK hc i pins s σ H E I hf st hg
    subst hP hw hK
    obtain ⟨he, ho⟩ := st
    obtain ⟨xs, hq, hl⟩ := hg
    subst hl
    have hh : X.A.in1.handled = none := I.ok.hd hc
    obtain ⟨Pd, St, D, st0, hP, hSt⟩ := Kn.draw hh I hq ho fun a ha => (hs a ha).2
    have G := GoesN.enumFrom (elts := elts) (x1 := kk) (pos := tpos) 0 D e hei (by
      intro hm
      rcases List.mem_cons.mp hm with z | z
      · exact hei z
      · exact (hs e z).1 rfl) (by simp)
    have nit : ∀ b u, H b = some u → b ∉ [e, it] := fun b u e' z => by rw [(hf b z).1] at e'; cases e'
    refine thn (G.stops s (fun s1 => L2.Inv X pins σ H s1) _ ⟨he, st0⟩ fun h' tk hk _ => ?_) fun r s1 q => q
    refine I.step (g' := s.gens) (d' := s.drawn) (ch := [e, it]) (fun b hb => ⟨(hf b hb).2.2.2.1, (hf b hb).2.1, (hf b hb).2.2.2.2.1, (hf b hb).2.2.2.2.2⟩) (fun b o _ _ hc e _ => hk b o hc e) (fun b o _ _ hc e _ => ⟨o.slots, hk b o hc e⟩) (fun _ _ _ _ n => n)
      (fun b o hc e => ⟨o, hk b o hc e⟩) (fun _ _ e => e) (fun _ _ _ e => e) (fun b ps e => ⟨#[], by rw [e]; simp⟩) (fun m hm => ?_) (fun b u e' => ?_) I.bare
    · obtain ⟨o, es, ep, ho', r⟩ := hm
      exact ⟨o, es, ep, hk _ o (fun z => (hf _ z).2.1 rfl) ho', r⟩
    · refine (I.hok b u e').stay (fun c v hc q => hk c v ?_ q) (fun _ q => q) fun _ _ q => q
      rcases hc with z | z
      · rw [z]; exact nit b u e'
      · exact nit c _ z
  self := fun A i s Q E st q => by
    obtain ⟨⟨old, he⟩, _⟩ := st
    exact wpAny_pyIter_enum he q
theorem pinned_done {X : Cx} {pins : List (Addr × Obj)} {σ : Sg} {H : Hp} {s : Shared} {fp : List Addr} {h' : Heap} {tk : Nat} (I : L2.Inv X pins σ H s) (hk : ∀ b o, b ∉ fp → s.heap.get? b = some o → h'.get? b = some o) (hf : ∀ b ∈ fp, FpOk X pins H b) : L2.Inv X pins σ H { s with heap := h', toks := tk } := by
  have nit : ∀ b u, H b = some u → b ∉ fp := fun b u e' z => by rw [(hf b z).1] at e'; cases e'
  refine I.step (g' := s.gens) (d' := s.drawn) (ch := fp) (fun b hb => ⟨(hf b hb).2.2.2.1, (hf b hb).2.1, (hf b hb).2.2.2.2.1, (hf b hb).2.2.2.2.2⟩) (fun b o _ _ hc e _ => hk b o hc e) (fun b o _ _ hc e _ => ⟨o.slots, hk b o hc e⟩) (fun _ _ _ _ n => n)
    (fun b o hc e => ⟨o, hk b o hc e⟩) (fun _ _ e => e) (fun _ _ _ e => e) (fun b ps e => ⟨#[], by rw [e]; simp⟩) (fun m hm => ?_) (fun b u e' => ?_) I.bare
  · obtain ⟨o, es, ep, ho', r⟩ := hm
    exact ⟨o, es, ep, hk _ o (fun z => (hf _ z).2.1 rfl) ho', r⟩
  · refine (I.hok b u e').stay (fun c v hc q => hk c v ?_ q) (fun _ q => q) fun _ _ q => q
    rcases hc with z | z
    · rw [z]; exact nit b u e'
    · exact nit c _ z
/-! ### zip -/
def ItzK (K : PySem.W.Frag) (k1 k2 : Kn) : It :=
  ⟨fun i H => ∃ (xs ys : List V) (x y : V), k1.holds K H xs ∧ k2.holds K H ys ∧ xs[i]? = some x ∧ ys[i]? = some y,
   fun i H v H' => ∃ T x y, v = .ref T ∧ H T = none ∧ H' = upd H T (.tup [x, y]) ∧ (∀ xs, k1.holds K H xs → xs[i]? = some x) ∧ ∀ ys, k2.holds K H ys → ys[i]? = some y,
   fun i H => ∃ xs ys : List V, k1.holds K H xs ∧ k2.holds K H ys ∧ min xs.length ys.length = i⟩
theorem turn_zipK {P : Program} {w : World} {K : PySem.W.Frag} {elts : List Expr} {kk : Nat} {tpos : Pos} (k1 k2 : Kn) {z TI TO i1 i2 : Addr} (S : ZipSep2 z TI TO i1 i2 (i1 :: k1.src) (i2 :: k2.src)) (n1 : ∀ a ∈ k1.src, a ≠ i1) (n2 : ∀ a ∈ k2.src, a ≠ i2) :
    Turn P w K (.Tuple elts kk tpos) (ItzK K k1 k2) [z, TI, TO, i1, i2] z (fun i h => IsZip h z TI TO .none ∧ IsTupOf2 h TI (.ref i1) (.ref i2) ∧ (∃ a1 a2, IsTupOf2 h TO a1 a2) ∧ k1.own i1 i h ∧ k2.own i2 i h) where
  mem := by simp
  obj := fun i h st c hc => by
    obtain ⟨hz, hTI, ⟨x, y, hTO⟩, h1, h2⟩ := st
    have e' : c = z ∨ c = TI ∨ c = TO ∨ c = i1 ∨ c = i2 := by simpa using hc
    rcases e' with q | q | q | q | q
    · rw [q]; exact ⟨_, hz, fun v q => nomatch q⟩
    · rw [q]; exact ⟨_, hTI, fun v q => nomatch q⟩
    · rw [q]; exact ⟨_, hTO, fun v q => nomatch q⟩
    · rw [q]; exact Kn.own_obj h1
    · rw [q]; exact Kn.own_obj h2
  keep := fun i h h' st k => by
    obtain ⟨hz, hTI, ⟨x, y, hTO⟩, h1, h2⟩ := st
    exact ⟨k z (by simp) _ hz, k TI (by simp) _ hTI, ⟨x, y, k TO (by simp) _ hTO⟩, Kn.own_at h1 fun o q => k i1 (by simp) o q, Kn.own_at h2 fun o q => k i2 (by simp) o q⟩
  item := by
    intro X hP hw hK hc i pins s σ H E I hf st hg
    subst hP hw hK
    obtain ⟨hz, hTI, hTO, h1, h2⟩ := st
    obtain ⟨xs, ys, x, y, hqx, hqy, hx, hy⟩ := hg
    obtain ⟨hi1, _⟩ := List.getElem?_eq_some_iff.mp hx
    obtain ⟨hi2, _⟩ := List.getElem?_eq_some_iff.mp hy
    have hh : X.A.in1.handled = none := I.ok.hd hc
    obtain ⟨P1, St1, D1, st1, hP1, hS1⟩ := Kn.draw hh I hqx h1 n1
    obtain ⟨P2, St2, D2, st2, hP2, hS2⟩ := Kn.draw hh I hqy h2 n2
    have G := GoesN.zip2 (elts := elts) (x1 := kk) (pos := tpos) S D1 D2
    have hk5 : ∀ {h' : Heap}, (∀ b o, b ∉ [z, TO, i1, i2] → s.heap.get? b = some o → h'.get? b = some o) → ∀ b o, b ∉ [z, TI, TO, i1, i2] → s.heap.get? b = some o → h'.get? b = some o :=
      fun hk b o hb e => hk b o (fun m => hb (by
        have : b = z ∨ b = TO ∨ b = i1 ∨ b = i2 := by simpa using m
        rcases this with q | q | q | q <;> simp [q])) e
    have old : ∀ b ∈ [z, TI, TO, i1, i2], b < s.heap.objs.size := fun b hb => by
      obtain ⟨a1, a2, hTO⟩ := hTO
      obtain ⟨_, e1, _⟩ := Kn.own_obj h1
      obtain ⟨_, e2, _⟩ := Kn.own_obj h2
      have e' : b = z ∨ b = TI ∨ b = TO ∨ b = i1 ∨ b = i2 := by simpa using hb
      rcases e' with q | q | q | q | q
      · rw [q]; exact Heap.lt_size hz
      · rw [q]; exact Heap.lt_size hTI
      · rw [q]; exact Heap.lt_size hTO
      · rw [q]; exact Heap.lt_size e1
      · rw [q]; exact Heap.lt_size e2
    refine thn (G.goes i s _ _ (by omega) ⟨hz, hTI, hTO, st1, st2⟩ fun v h' tk hY st' hk _ => ?_) fun r s1 q => q
    obtain ⟨T, u1, u2, rfl, hn, hPx, hPy, hTu⟩ := hY
    obtain ⟨x', hx', rx⟩ := hP1 i u1 hPx
    obtain ⟨y', hy', ry⟩ := hP2 i u2 hPy
    rw [hx] at hx'; cases hx'
    rw [hy] at hy'; cases hy'
    have I1 := turnedTup (tk := tk) (xs := [x, y]) I (hk5 hk) hf hn hTu (.cons rx (.cons ry .nil)) (by show 2 ≤ sizeLine; decide)
    obtain ⟨z1, z2, z3, z4, z5⟩ := st'
    refine ⟨.ref T, _, I1, rfl, ⟨T, x, y, rfl, I.hok.fresh hn, rfl, fun ws hw => by rw [Kn.inj I hw hqx]; exact hx, fun ws hw => by rw [Kn.inj I hw hqy]; exact hy⟩, ⟨z1, z2, z3, hS1 _ _ z4, hS2 _ _ z5⟩, fun b hb => ?_⟩
    rw [upd_ne (Nat.ne_of_lt (Nat.lt_of_lt_of_le (old b hb) hn))]
    exact (hf b hb).1
  done := by
    intro X hP hw hK hc i pins s σ H E I hf st hg
    subst hP hw hK
    obtain ⟨hz, hTI, hTO, h1, h2⟩ := st
    obtain ⟨xs, ys, hqx, hqy, hl⟩ := hg
    subst hl
    have hh : X.A.in1.handled = none := I.ok.hd hc
    obtain ⟨P1, St1, D1, st1, hP1, hS1⟩ := Kn.draw hh I hqx h1 n1
    obtain ⟨P2, St2, D2, st2, hP2, hS2⟩ := Kn.draw hh I hqy h2 n2
    have G := GoesN.zip2 (elts := elts) (x1 := kk) (pos := tpos) S D1 D2
    refine thn (G.stops s (fun s1 => L2.Inv X pins σ H s1) _ ⟨hz, hTI, hTO, st1, st2⟩ fun h' tk hk _ => ?_) fun r s1 q => q
    exact pinned_done I (fp := [z, TI, TO, i1, i2]) (fun b o hb e => hk b o (fun m => hb (by
        have : b = z ∨ b = TO ∨ b = i1 ∨ b = i2 := by simpa using m
        rcases this with q | q | q | q <;> simp [q])) e) hf
  self := fun A i s Q E st q => wpAny_pyIter_zip st.1 q

/-! ### the iterators come -/
set_option maxHeartbeats 1000000 in
theorem meets_enumerate_new1 {v : Value} {o : Obj} {H : Heap → Prop} (B : Begins v o H) :
    Meets (Builtin.«enumerate.__new__» ⟨[.type "enumerate", v], []⟩) (fun _ R s => H s.heap ∧
      R (.ok (.ret (.ref (s.heap.push o).objs.size))) { s with heap := (s.heap.push o).push { cls := .type "enumerate", data := .fields #[.none, .bool false, .ref s.heap.objs.size, rawInt 0, .none, .none] } }) :=
  .of_wp fun prog w A R s h => by
    obtain ⟨hp, g, d, tk, os⟩ := s; obtain ⟨h1, h⟩ := h
    have hsub := sub_enumerate
    have q1 : ∀ {A' : Around} {E : Value → Shared → Prop} {Q : Value → Shared → Prop}, Q (.ref hp.objs.size) ⟨hp.push o, g, d, tk, os⟩ → wpAny (model prog w) A' (pyIter v) Q E ⟨hp, g, d, tk, os⟩ :=
      fun q => B.iter prog w _ _ ⟨hp, g, d, tk, os⟩ _ h1 q
    wp_walk using q1
    refine wpAny_stack_any fun st => wpAny_pure ?_
    split
    · rename_i c _ _ _ _ _
      cases (c == Value.type "enumerate")
      · wp_walk using q1
        exact ⟨_, rfl, h⟩
      · wp_walk using q1
        exact ⟨_, rfl, h⟩
    · wp_walk using q1
      exact ⟨_, rfl, h⟩
theorem enum_begins1 {prog : Program} {w : World} {A : Around} {E : Value → Shared → Prop} {s : Shared} {v : Value} {o : Obj} {H : Heap → Prop} {Q : Value → Shared → Prop} (B : Begins v o H) (h1 : H s.heap)
    (h : ∀ h', IsEnum h' (s.heap.objs.size + 1) s.heap.objs.size 0 .none → h'.get? s.heap.objs.size = some o → h'.objs.size = s.heap.objs.size + 2 →
      (∀ b o, s.heap.get? b = some o → h'.get? b = some o) → Q (.ref (s.heap.objs.size + 1)) { s with heap := h' }) :
    wpAny (model prog w) A (call (.type "enumerate") [v]) Q E s := by
  refine callType_new F.called_enumerate (by decide) (F.typeCall_enumerate_1 _) (F.newCall_enumerate_1 _) (fun obj => F.args_object_init_2 obj _) F.entry_enumerate_new
    (meets_enumerate_new1 B) ⟨h1, ?_⟩
  have hz : (s.heap.push o).objs.size = s.heap.objs.size + 1 := Heap.size_push ..
  show _ ∧ _
  rw [hz]
  have he : IsEnum ((s.heap.push o).push { cls := .type "enumerate", data := .fields #[.none, .bool false, .ref s.heap.objs.size, rawInt 0, .none, .none] }) (s.heap.objs.size + 1) s.heap.objs.size 0 .none := by
    have := Heap.get?_push_size (s.heap.push o) (o := { cls := .type "enumerate", data := .fields #[.none, .bool false, .ref s.heap.objs.size, rawInt 0, .none, .none] }) rfl
    rw [hz] at this; exact this
  refine ⟨⟨_, he, rfl⟩, h _ he (Heap.get?_push_of_some _ (Heap.get?_push_size _ B.free)) (by rw [Heap.size_push, hz]) fun b o x => Heap.get?_push_of_some _ (Heap.get?_push_of_some _ x)⟩
def iEnumK (K : PySem.W.Frag) (ta : TA) : TI := fun σ H R => ta σ H fun vs H1 => ∃ (k : Kn) (xs : List V), vs = [k.val] ∧ k.holds K H1 xs ∧ R (IteK K k) H1
theorem new_ne {h : Heap} {k : Kn} {n : Nat} (hl : ∀ a ∈ k.src, a < h.objs.size) : ∀ a ∈ k.src, a ≠ h.objs.size + n := fun a ha => Nat.ne_of_lt (Nat.lt_of_lt_of_le (hl a ha) (Nat.le_add_right _ _))
theorem pi_enumK {X : Cx} {e : Expr} {ta : TA} {p pos tpos : Pos} {elts : List Expr} {kk : Nat} (hg : Gl X "enumerate") (hm : X.mg "enumerate" = none) (ha : PA X [e] ta) (hs : starEach [e] X.env = [(false, eval e X.env)] := by rfl) :
    PI X (.Tuple elts kk tpos) (.Call (.Name "enumerate" p) [e] [] pos) (iEnumK X.K ta) := by
  refine ⟨fun pins s σ H R I h => ?_⟩
  refine Call_ (ld_blt I hg hm PyProof.Rows.boot_enumerate (PyProof.Rows.callWith_type1 (thn (ha.run pos pins s σ H _ I h) fun us s1 ⟨vs, H1, I1, r1, q1⟩ => ?_) hs rfl))
  obtain ⟨k, xs, ex, hq, q⟩ := q1
  subst ex
  cases r1 with
  | cons r rr =>
    cases rr
    obtain ⟨o, Hh, B, hB, hown⟩ := Kn.begin I1 hq r
    refine enum_begins1 B hB fun h' he hit hsz hk => wpAny_pyIter_enum he ?_
    have I2 : L2.Inv X pins σ H1 { s1 with heap := h' } := I1.kept (t' := s1.toks) hk
    have lt := Kn.src_lt I1 hq
    refine ⟨s1.heap.objs.size + 1, [s1.heap.objs.size + 1, s1.heap.objs.size], _, _, H1, rfl, I2, turn_enumK k (s1.heap.objs.size + 1) s1.heap.objs.size (Nat.succ_ne_self _) (fun a ha => ⟨new_ne lt a ha, new_ne (n := 0) lt a ha⟩), ⟨⟨.none, he⟩, hown _ _ hit⟩, fun b hb => ?_, q⟩
    have e' : b = s1.heap.objs.size + 1 ∨ b = s1.heap.objs.size := by simpa using hb
    have hle : s1.heap.objs.size ≤ b := by
      rcases e' with z | z
      · rw [z]; exact Nat.le_add_right _ _
      · rw [z]; exact Nat.le_refl _
    exact I1.fpOk hle (I1.hok.fresh hle)
def iZipK (K : PySem.W.Frag) (ta : TA) : TI := fun σ H R => ta σ H fun vs H1 => ∃ (k1 k2 : Kn) (xs ys : List V), vs = [k1.val, k2.val] ∧ k1.holds K H1 xs ∧ k2.holds K H1 ys ∧ R (ItzK K k1 k2) H1
theorem pi_zipK {X : Cx} {e e2 : Expr} {ta : TA} {p pos tpos : Pos} {elts : List Expr} {kk : Nat} (hg : Gl X "zip") (hm : X.mg "zip" = none) (ha : PA X [e, e2] ta)
    (hs : starEach [e, e2] X.env = (false, eval e X.env) :: starEach [e2] X.env := by rfl) (hpl : (backTo pos (starEach [e2] X.env)).any (·.1) = false := by rfl) :
    PI X (.Tuple elts kk tpos) (.Call (.Name "zip" p) [e, e2] [] pos) (iZipK X.K ta) := by
  refine ⟨fun pins s σ H R I h => ?_⟩
  refine Call_ (ld_blt I hg hm PyProof.Rows.boot_zip (PyProof.Rows.callWith_type1 (thn (ha.run pos pins s σ H _ I h) fun us s1 ⟨vs, H1, I1, r1, q1⟩ => ?_) hs hpl))
  obtain ⟨k1, k2, xs, ys, ex, hqx, hqy, q⟩ := q1
  subst ex
  cases r1 with
  | cons r rr =>
    cases rr with
    | cons r' rr =>
      cases rr
      obtain ⟨o1, Hh1, B1, hB1, hown1⟩ := Kn.begin I1 hqx r
      obtain ⟨o2, Hh2, B2, hB2, hown2⟩ := Kn.begin I1 hqy r'
      have l1 := Kn.src_lt I1 hqx
      have l2 := Kn.src_lt I1 hqy
      refine zip_begins2 B1 B2 hB1 hB2 fun h' hz hTI hTO h1 h2 hsz hk => wpAny_pyIter_zip hz ?_
      have I2 : L2.Inv X pins σ H1 { s1 with heap := h' } := I1.kept (t' := s1.toks) hk
      refine ⟨s1.heap.objs.size + 4, [s1.heap.objs.size + 4, s1.heap.objs.size + 2, s1.heap.objs.size + 3, s1.heap.objs.size, s1.heap.objs.size + 1], _, _, H1, rfl, I2, turn_zipK k1 k2 (zip_sep2 l1 l2) (new_ne (n := 0) l1) (new_ne l2), ⟨hz, hTI, ⟨_, _, hTO⟩, hown1 _ _ h1, hown2 _ _ h2⟩, fun c hcm => ?_, q⟩
      have e' : c = s1.heap.objs.size + 4 ∨ c = s1.heap.objs.size + 2 ∨ c = s1.heap.objs.size + 3 ∨ c = s1.heap.objs.size ∨ c = s1.heap.objs.size + 1 := by simpa using hcm
      have hle : s1.heap.objs.size ≤ c := by
        rcases e' with z | z | z | z | z
        · rw [z]; exact Nat.le_add_right _ _
        · rw [z]; exact Nat.le_add_right _ _
        · rw [z]; exact Nat.le_add_right _ _
        · rw [z]; exact Nat.le_refl _
        · rw [z]; exact Nat.le_add_right _ _
      exact I1.fpOk hle (I1.hok.fresh hle)
end Mi

set_option maxHeartbeats 200000
namespace Mi
open PySem PySem.Spec PyProof.Rows L2
variable [Tb]

/-! ### stores into slots -/
def Env.put (env : Env) (i : Nat) (t : T) : Option Env := if i < env.length then some (env.set i (some t)) else none
def wipeE (env : Env) : List Nat → Env
  | [] => env
  | v :: vs => (wipeE env vs).set v none
section
variable {K : PySem.W.Frag} {F H F' H' F1 H1 : Hp} {env env' : Env} {σ σ' : Sg} {M M' N : List Addr}
theorem Sl.put {t : T} {v : V} (o : Ow K F H t v N) : ∀ {env : Env} {σ : Sg} {M : List Addr}, Sl K F H env σ M → ∀ {i : Nat}, i < env.length → ∃ A B C, M = A ++ B ++ C ∧ Sl K F H (env.set i (some t)) (σ.set i (some v)) (A ++ N ++ C)
  | _, _, _, .z, i, h => absurd h (Nat.not_lt_zero i)
  | _, _, _, .u (M := M) h, 0, _ => ⟨[], [], M, rfl, .s o h⟩
  | _, _, _, .s (M := M1) (N := N1) h1 hs, 0, _ => ⟨[], M1, N1, rfl, .s o hs⟩
  | _, _, _, .u h, i + 1, l => by
    obtain ⟨A, B, C, e, q⟩ := Sl.put o h (i := i) (by simpa using l)
    exact ⟨A, B, C, e, .u q⟩
  | _, _, _, .s (M := M1) h1 hs, i + 1, l => by
    obtain ⟨A, B, C, e, q⟩ := Sl.put o hs (i := i) (by simpa using l)
    refine ⟨M1 ++ A, B, C, by rw [e]; simp, ?_⟩
    have := Sl.s h1 q
    rw [show M1 ++ A ++ N ++ C = M1 ++ (A ++ N ++ C) by simp]
    exact this
theorem Sl.drop : ∀ {env : Env} {σ : Sg} {M : List Addr}, Sl K F H env σ M → ∀ (i : Nat), ∃ M', M'.Sublist M ∧ Sl K F H (env.set i none) (σ.set i none) M'
  | _, _, _, .z, i => ⟨[], .refl _, .z⟩
  | _, _, _, .u h, 0 => ⟨_, .refl _, .u h⟩
  | _, _, _, .s h1 hs, 0 => ⟨_, List.sublist_append_right _ _, .u hs⟩
  | _, _, _, .u h, i + 1 => by
    obtain ⟨M', s, q⟩ := Sl.drop h i
    exact ⟨M', s, .u q⟩
  | _, _, _, .s h1 hs, i + 1 => by
    obtain ⟨M', s, q⟩ := Sl.drop hs i
    exact ⟨_, (List.Sublist.refl _).append s, .s h1 q⟩
theorem Rel.drop (r : Rel K F H env σ M) (i : Nat) : ∃ M', M'.Sublist M ∧ Rel K F H (env.set i none) (σ.set i none) M' := by
  obtain ⟨M', s, q⟩ := r.own.drop i
  exact ⟨M', s, r.sub, r.tb, q, r.nd.sublist s, fun a ha => r.dis a (s.subset ha)⟩
theorem Rel.wipe (r : Rel K F H env σ M) : ∀ (vs : List Nat), ∃ M', M'.Sublist M ∧ Rel K F H (wipeE env vs) (wipe σ vs) M'
  | [] => ⟨M, .refl _, r⟩
  | v :: vs => by
    obtain ⟨M1, s1, r1⟩ := Rel.wipe r vs
    obtain ⟨M2, s2, r2⟩ := r1.drop v
    exact ⟨M2, s2.trans s1, r2⟩
/-- a value of one's own, apart from all others, is put into a slot -/
theorem Rel.put (r : Rel K F H env σ M) {t : T} {v : V} (o : Ow K F H t v N) (nd : N.Nodup) (dM : ∀ a ∈ N, a ∉ M) (dF : ∀ a ∈ N, F a = none) {i : Nat} (e : env.put i t = some env') :
    ∃ M', Rel K F H env' (σ.set i (some v)) M' ∧ ∀ a ∈ M', a ∈ M ∨ a ∈ N := by
  unfold Env.put at e
  split at e
  · rename_i hl
    cases e
    obtain ⟨A, B, C, eM, q⟩ := r.own.put o hl
    subst eM
    have n0 := r.nd
    refine ⟨A ++ N ++ C, ⟨r.sub, r.tb, q, ?_, fun a ha => ?_⟩, fun a ha => ?_⟩
    · simp only [List.nodup_append, List.mem_append] at n0 ⊢
      obtain ⟨⟨nA, nB, dAB⟩, nC, dC⟩ := n0
      refine ⟨⟨nA, nd, fun a ha b hb z => dM b hb (by subst z; simp [ha])⟩, nC, fun a ha b hb z => ?_⟩
      rcases ha with ha | ha
      · exact dC a (.inl ha) b hb z
      · subst z; exact dM a ha (by simp [hb])
    · simp only [List.mem_append] at ha
      rcases ha with (ha | ha) | ha
      · exact r.dis a (by simp [ha])
      · exact dF a ha
      · exact r.dis a (by simp [ha])
    · simp only [List.mem_append] at ha ⊢
      rcases ha with (ha | ha) | ha
      · exact .inl (.inl (.inl ha))
      · exact .inr ha
      · exact .inl (.inr ha)
  · cases e
theorem Rel.putD (r : Rel K F H env σ M) {x : PyData} {v : V} (o : Dp K F v x) {i : Nat} (e : env.put i (.d x) = some env') : ∃ M', Rel K F H env' (σ.set i (some v)) M' ∧ ∀ a ∈ M', a ∈ M := by
  obtain ⟨M', r', s⟩ := r.put (.d o) .nil (fun _ h => nomatch h) (fun _ h => nomatch h) e
  exact ⟨M', r', fun a ha => (s a ha).elim id fun h => nomatch h⟩
theorem wipe_get (σ : Sg) (vs : List Nat) (j : Nat) : (wipe σ vs)[j]? = if j ∈ vs then (if j < σ.length then some none else none) else σ[j]? := by
  induction vs with
  | nil => simp [wipe]
  | cons v vs ih =>
    unfold wipe
    rw [List.getElem?_set]
    by_cases h : v = j
    · subst h
      rw [if_pos rfl, wipe_length, if_pos List.mem_cons_self]
    · rw [if_neg h, ih]
      by_cases h2 : j ∈ vs
      · rw [if_pos h2, if_pos (List.mem_cons_of_mem _ h2)]
      · rw [if_neg h2, if_neg]
        simp only [List.mem_cons, not_or]
        exact ⟨fun z => h z.symm, h2⟩
theorem wipe_eq {σ σ' : Sg} {vs : List Nat} (hl : σ'.length = σ.length) (h : ∀ j, j ∉ vs → σ'[j]? = σ[j]?) : wipe σ' vs = wipe σ vs := by
  refine List.ext_getElem? fun j => ?_
  rw [wipe_get, wipe_get, hl]
  split
  · rfl
  · rename_i hj; exact h j hj
theorem wipe_idem {σ : Sg} {vs us : List Nat} (h : ∀ v ∈ us, v ∈ vs) : wipe (wipe σ vs) us = wipe σ vs := by
  refine List.ext_getElem? fun j => ?_
  rw [wipe_get, wipe_get, wipe_length]
  by_cases h1 : j ∈ us
  · rw [if_pos h1, if_pos (h j h1)]
  · rw [if_neg h1]
end

/-! ### targets -/
inductive Tg where
  | nm (i : Nat)
  | tp (ts : List Tg)
mutual
def Tg.put : Tg → PyData → Env → Option Env
  | .nm i, x, env => env.put i (.d x)
  | .tp gs, .tuple xs, env => Tg.puts gs xs env
  | .tp _, _, _ => none
def Tg.puts : List Tg → List PyData → Env → Option Env
  | [], [], env => some env
  | g :: gs, x :: xs, env => match Tg.put g x env with
    | some env1 => Tg.puts gs xs env1
    | none => none
  | _, _, _ => none
end
mutual
def Tg.slots : Tg → List Nat
  | .nm i => [i]
  | .tp gs => Tg.slotss gs
def Tg.slotss : List Tg → List Nat
  | [] => []
  | g :: gs => g.slots ++ Tg.slotss gs
end
section
variable (X : Cx)
def gG (K : PySem.W.Frag) (g : Tg) : TG := fun v σ H Q => ∃ F env M x env', Rel K F H env σ M ∧ Dp K F v x ∧ g.put x env = some env' ∧
  ∀ σ' M', Rel K F H env' σ' M' → (∀ a ∈ M', a ∈ M) → σ'.length = σ.length → (∀ j, j ∉ g.slots → σ'[j]? = σ[j]?) → Q σ' H
def gGs (K : PySem.W.Frag) (g : List Tg) : TGs := fun v σ H Q => ∃ F env M x env', Rel K F H env σ M ∧ DpAll K F v x ∧ Tg.puts g x env = some env' ∧
  ∀ σ' M', Rel K F H env' σ' M' → (∀ a ∈ M', a ∈ M) → σ'.length = σ.length → (∀ j, j ∉ Tg.slotss g → σ'[j]? = σ[j]?) → Q σ' H
def SG (e : Expr) (g : Tg) : Prop := PG X e (gG X.K g)
def SGs (es : List Expr) (g : List Tg) : Prop := PGs X es (gGs X.K g)
end
section
variable {X : Cx} {e : Expr} {es : List Expr} {pos : Pos}
theorem _root_.L2.PG.imp {t t' : TG} (h : PG X e t) (i : ∀ v σ H Q, t' v σ H Q → t v σ H Q) : PG X e t' := ⟨fun pins s σ H v u Q I r q => h.run pins s σ H v u Q I r (i v σ H Q q)⟩
theorem _root_.L2.PGs.imp {t t' : TGs} (h : PGs X es t) (i : ∀ v σ H Q, t' v σ H Q → t v σ H Q) : PGs X es t' := ⟨fun pins s σ H v u Q I r q => h.run pins s σ H v u Q I r (i v σ H Q q)⟩
theorem sg_name {i : Nat} {x : Str} (hN : X.N.Nodup) (hi : X.N[i]? = some x := by rfl) (hx : Loc X.env.scope x := by first | exact .inl rfl | exact .inr rfl) (hf : X.fn x = true ∨ X.env.scope.names.lookup x = some .local := by first | exact .inl rfl | exact .inr rfl | assumption) : SG X (.Name x pos) (.nm i) :=
  PG.imp (pg_name hN hi hx hf) fun v σ H Q ⟨F, env, M, y, env', rel, d, e, q⟩ => by
    rw [Tg.put] at e
    obtain ⟨M', r', s⟩ := rel.putD d e
    refine q _ M' r' s (by simp) fun j hj => ?_
    rw [Tg.slots] at hj
    rw [List.getElem?_set_ne]
    intro z; exact hj (by simp [z])
theorem sgs_nil : SGs X [] [] := PGs.imp pgs_nil fun vs σ H Q ⟨F, env, M, xs, env', rel, d, e, q⟩ => by
  cases xs with
  | nil => rw [Tg.puts] at e; cases e; cases d; exact ⟨rfl, q σ M rel (fun _ h => h) rfl fun _ _ => rfl⟩
  | cons x xs => simp [Tg.puts] at e
theorem sgs_cons {g : Tg} {gs : List Tg} (h1 : SG X e g) (h2 : SGs X es gs) (hs : (assignEach (e :: es) X.env).map (·.2) = assign e X.env :: (assignEach es X.env).map (·.2) := by rfl) : SGs X (e :: es) (g :: gs) :=
  PGs.imp (pgs_cons h1 h2 hs) fun vs σ H Q ⟨F, env, M, xs, env', rel, d, e, q⟩ => by
    cases xs with
    | nil => simp [Tg.puts] at e
    | cons x xs =>
      cases d with
      | cons d1 ds =>
        rw [Tg.puts] at e
        split at e
        · rename_i env1 e1
          refine ⟨_, _, rfl, F, env, M, x, env1, rel, d1, e1, fun σ1 M1 r1 s1 l1 k1 => ⟨F, env1, M1, xs, env', r1, ds, e, fun σ2 M2 r2 s2 l2 k2 => q σ2 M2 r2 (fun a ha => s1 a (s2 a ha)) (l2.trans l1) fun j hj => ?_⟩⟩
          rw [Tg.slotss, List.mem_append, not_or] at hj
          exact (k2 j hj.2).trans (k1 j hj.1)
        · cases e
theorem sg_tup {gs : List Tg} {k : Nat} (hc : X.calm = true) (h : SGs X es gs) (hn : (assignEach es X.env).length = gs.length := by rfl) (hst : (assignEach es X.env).findIdx? (·.1) = none := by rfl) : SG X (.Tuple es k pos) (.tp gs) :=
  PG.imp (pg_tup hc h hn hst) fun v σ H Q ⟨F, env, M, x, env', rel, d, e, q⟩ => by
    cases x with
    | tuple xs =>
      rw [Tg.put] at e
      cases d with
      | tup ha hd =>
        refine ⟨_, _, rfl, SqT.mono rel.sub ha, ?_, F, env, M, xs, env', rel, hd, e, fun σ' M' r s l k => q σ' M' r s l fun j hj => k j (by rwa [Tg.slots] at hj)⟩
        rw [← hd.length]
        have : ∀ (gs : List Tg) (xs : List PyData) (env env' : Env), Tg.puts gs xs env = some env' → xs.length = gs.length := by
          intro gs
          induction gs with
          | nil => intro xs env env' e; cases xs with
            | nil => rfl
            | cons _ _ => simp [Tg.puts] at e
          | cons g gs ih => intro xs env env' e; cases xs with
            | nil => simp [Tg.puts] at e
            | cons x xs =>
              rw [Tg.puts] at e
              split at e
              · simp [ih _ _ _ e]
              · cases e
        exact this _ _ _ _ e
    | _ => simp [Tg.put] at e
end

/-! ### what is walked -/
structure Wk (K : PySem.W.Frag) (J : It) (xs : List PyData) (F0 B : Hp) : Prop where
  go : ∀ i H, i < xs.length → SameN B H → J.go i H
  stop : ∀ H, SameN B H → J.stop xs.length H
  yld : ∀ i F H v H', i < xs.length → Same F0 F → Same F H → SameN B H → J.yld i H v H' → ∃ x F', xs[i]? = some x ∧ Ext F H F' H' ∧ Dp K F' v x
section
variable (K : PySem.W.Frag) (ct : Nat → Addr) (EX : XK)
def atI (w : Bool) (r : Rs (List PyData)) (F H : Hp) (M : List Addr) (R : It → Hp → Prop) : Prop := match r with
  | .ok xs => ∀ F' H' J, Ext F H F' H' → Wk K J xs F' (if w then H' else F') → R J H'
  | .ex c => exq ct EX H M c
  | .no => False
def tI (w : Bool) (im : Env → Rs (List PyData)) : TI := fun σ H R => ∃ F env M, Rel K F H env σ M ∧ atI K ct EX w (im env) F H M R
end
def SI (X : Cx) (ct : Nat → Addr) (EX : XK) (w : Bool) (tg e : Expr) (im : Env → Rs (List PyData)) : Prop := PI X tg e (tI X.K ct EX w im)
theorem _root_.L2.PI.imp {X : Cx} {tg e : Expr} {t t' : TI} (h : PI X tg e t) (i : ∀ σ H Q, t' σ H Q → t σ H Q) : PI X tg e t' := ⟨fun pins s σ H R I q => h.run pins s σ H R I (i σ H R q)⟩
def chars (z : Str) : List PyData := z.cps.toList.map fun c => .str ⟨#[c]⟩
/-- what a value gives one by one -/
def itemsOf (w : Bool) (t : T) : Option (List PyData) := match t with
  | .d (.list xs) => some xs
  | .d (.tuple xs) => some xs
  | .d (.str z) => some (chars z)
  | .l ts => if w then T.datas ts else none
  | _ => none
section
variable {K : PySem.W.Frag} {F H F' H' F1 H1 : Hp}
theorem wk_list {a : Addr} {vs : List V} {xs : List PyData} {B : Hp} (h : SqL K B a vs) (d : DpAll K F vs xs) : Wk K (Itl K a) xs F B where
  go := fun i H hi s => by
    have : i < vs.length := by rw [← d.length]; exact hi
    exact ⟨vs, vs[i], SqL.monoN s h, List.getElem?_eq_getElem this⟩
  stop := fun H s => ⟨vs, SqL.monoN s h, by rw [d.length]; exact Nat.le_refl _⟩
  yld := fun i F2 H2 v H' hi sF s2 sB y => by
    obtain ⟨e, y⟩ := y
    subst e
    obtain ⟨x, e1, q⟩ := DpAll.getV d (y vs (SqL.monoN sB h))
    exact ⟨x, F2, e1, Ext.refl s2, Dp.mono sF q⟩
theorem wk_tup {a : Addr} {vs : List V} {xs : List PyData} {B : Hp} (h : SqT K B a vs) (d : DpAll K F vs xs) : Wk K (Itt K a) xs F B where
  go := fun i H hi s => by
    have : i < vs.length := by rw [← d.length]; exact hi
    exact ⟨vs, vs[i], SqT.monoN s h, List.getElem?_eq_getElem this⟩
  stop := fun H s => ⟨vs, SqT.monoN s h, by rw [d.length]; exact Nat.le_refl _⟩
  yld := fun i F2 H2 v H' hi sF s2 sB y => by
    obtain ⟨e, y⟩ := y
    subst e
    obtain ⟨x, e1, q⟩ := DpAll.getV d (y vs (SqT.monoN sB h))
    exact ⟨x, F2, e1, Ext.refl s2, Dp.mono sF q⟩
theorem chars_len (z : Str) : (chars z).length = z.cps.size := by simp [chars]
theorem wk_str {z : Str} {B : Hp} : Wk K (Its z) (chars z) F B where
  go := fun i H hi s => by rw [chars_len] at hi; exact hi
  stop := fun H s => Nat.le_of_eq (chars_len z).symm
  yld := fun i F2 H2 v H' hi sF s2 sB y => by
    obtain ⟨e, c, ec, ev⟩ := y
    subst e ev
    exact ⟨_, F2, by unfold chars; rw [List.getElem?_map, Array.getElem?_toList, ec]; rfl, Ext.refl s2, .str _⟩
def rng (lo : Int) : Nat → List PyData
  | 0 => []
  | n + 1 => .int lo :: rng (lo + 1) n
theorem rng_len (lo : Int) (n : Nat) : (rng lo n).length = n := by
  induction n generalizing lo with
  | zero => rfl
  | succ n ih => simp [rng, ih]
theorem rng_get {lo : Int} {n i : Nat} (h : i < n) : (rng lo n)[i]? = some (.int (lo + i)) := by
  induction n generalizing lo i with
  | zero => omega
  | succ n ih =>
    cases i with
    | zero => simp [rng]
    | succ i => rw [rng, List.getElem?_cons_succ, ih (by omega)]; congr 2; omega
theorem wk_rng {lo : Int} {n : Nat} {B : Hp} : Wk K (Itr lo n) (rng lo n) F B where
  go := fun i H hi s => by rw [rng_len] at hi; exact hi
  stop := fun H s => Nat.le_of_eq (rng_len lo n).symm
  yld := fun i F2 H2 v H' hi sF s2 sB y => by
    obtain ⟨e, ev⟩ := y
    subst e ev
    exact ⟨_, F2, rng_get (by rwa [rng_len] at hi), Ext.refl s2, .int _⟩
end
end Mi

set_option maxHeartbeats 200000
namespace Mi
open PySem PySem.Spec PyProof.Rows L2
variable [Tb]

section
variable {K : PySem.W.Frag} {F H F' H' F1 H1 : Hp}
theorem chars_dp (z : Str) : DpAll K F (z.cps.toList.map fun c => V.str ⟨#[c]⟩) (chars z) := by
  unfold chars
  induction z.cps.toList with
  | nil => exact .nil
  | cons c cs ih => exact .cons (.str _) ih
/-- what is walked stands in the kept heap, or, looked at, in the whole -/
def Bh (w : Bool) (F H : Hp) : Hp := if w then H else F
theorem Bh.same (w : Bool) (s : Same F H) : Same F (Bh w F H) := by cases w; exact Same.refl _; exact s
theorem items_kn {w : Bool} {t : T} {xs : List PyData} {v : V} (h : Vw K F H t v) (s : Same F H) (e : itemsOf w t = some xs) : ∃ (k : Kn) (vs : List V), v = k.val ∧ k.holds K (Bh w F H) vs ∧ DpAll K F vs xs := by
  unfold itemsOf at e
  split at e
  · cases e
    cases h with
    | d h => cases h with
      | lst q d => exact ⟨.lst _, _, rfl, SqL.mono (Bh.same w s) q, d⟩
  · cases e
    cases h with
    | d h => cases h with
      | tup q d => exact ⟨.tpl _, _, rfl, SqT.mono (Bh.same w s) q, d⟩
  · cases e
    cases h with
    | d h => cases h with
      | str => exact ⟨.txt _, _, rfl, rfl, chars_dp _⟩
  · cases w with
    | false => simp at e
    | true =>
      simp only [if_true] at e
      cases T.datas_eq e
      cases h with
      | l hv hs => exact ⟨.lst _, _, rfl, .inl (.inl hv), Vws.datas hs⟩
  · cases e
def Kn.it (K : PySem.W.Frag) : Kn → It
  | .lst a => Itl K a
  | .tpl a => Itt K a
  | .txt z => Its z
theorem wk_kn {k : Kn} {vs : List V} {xs : List PyData} {B : Hp} (h : k.holds K B vs) (d : DpAll K F vs xs) : Wk K (k.it K) xs F B := by
  cases k with
  | lst a => exact wk_list h d
  | tpl a => exact wk_tup h d
  | txt z =>
    have e : vs = _ := h
    subst e
    have e : xs = chars z := by
      unfold chars
      generalize z.cps.toList = cs at d
      clear h
      induction cs generalizing xs with
      | nil => cases d; rfl
      | cons c cs ih => cases d with | cons d1 ds => cases d1; rw [ih ds]; rfl
    subst e
    exact wk_str
theorem Kn.mono {k : Kn} {vs : List V} {B B' : Hp} (s : SameN B B') (h : k.holds K B vs) : k.holds K B' vs := by
  cases k with
  | lst a => exact SqL.monoN s h
  | tpl a => exact SqT.monoN s h
  | txt z => exact h
def enumI (i : Nat) : List PyData → List PyData
  | [] => []
  | x :: xs => .tuple [.int (i : Nat), x] :: enumI (i + 1) xs
theorem enumI_len (i : Nat) (xs : List PyData) : (enumI i xs).length = xs.length := by
  induction xs generalizing i with
  | nil => rfl
  | cons x xs ih => simp [enumI, ih]
theorem enumI_get {i j : Nat} {xs : List PyData} {x : PyData} (h : xs[j]? = some x) : (enumI i xs)[j]? = some (.tuple [.int ((i + j : Nat)), x]) := by
  induction xs generalizing i j with
  | nil => cases h
  | cons y ys ih =>
    cases j with
    | zero => cases h; simp [enumI]
    | succ j => rw [enumI, List.getElem?_cons_succ, ih (by simpa using h)]; congr 4; omega
def zipI : List PyData → List PyData → List PyData
  | x :: xs, y :: ys => .tuple [x, y] :: zipI xs ys
  | _, _ => []
theorem zipI_len (xs ys : List PyData) : (zipI xs ys).length = min xs.length ys.length := by
  induction xs generalizing ys with
  | nil => simp [zipI]
  | cons x xs ih => cases ys with
    | nil => simp [zipI]
    | cons y ys => simp [zipI, ih]
theorem zipI_get {j : Nat} {xs ys : List PyData} {x y : PyData} (h : xs[j]? = some x) (g : ys[j]? = some y) : (zipI xs ys)[j]? = some (.tuple [x, y]) := by
  induction xs generalizing j ys with
  | nil => cases h
  | cons x' xs ih => cases ys with
    | nil => cases g
    | cons y' ys => cases j with
      | zero => cases h; cases g; rfl
      | succ j => rw [zipI, List.getElem?_cons_succ]; exact ih (by simpa using h) (by simpa using g)
theorem Dp.mkTup {vs : List V} {xs : List PyData} {p : Addr} (s : Same F H) (hp : H p = none) (d : DpAll K F vs xs) : Dp K (upd F p (.tup vs)) (.ref p) (.tuple xs) := .tup (.inl (.inl upd_same)) (DpAll.mono (Same.upd_new (s.free hp)) d)
theorem wk_enum {k : Kn} {vs : List V} {xs : List PyData} {B : Hp} (h : k.holds K B vs) (d : DpAll K F vs xs) : Wk K (IteK K k) (enumI 0 xs) F B where
  go := fun i H hi s => by
    rw [enumI_len] at hi
    have : i < vs.length := by rw [← d.length]; exact hi
    exact ⟨vs, vs[i], Kn.mono s h, List.getElem?_eq_getElem this⟩
  stop := fun H s => ⟨vs, Kn.mono s h, by rw [enumI_len, d.length]⟩
  yld := fun i F2 H2 v H' hi sF s2 sB y => by
    obtain ⟨p, u, ev, hp, eH, q⟩ := y
    subst ev eH
    obtain ⟨x, e1, q1⟩ := DpAll.getV d (q vs (Kn.mono sB h))
    exact ⟨_, upd F2 p (.tup [.int (i : Nat), u]), by rw [enumI_get e1, Nat.zero_add], Ext.lay s2 hp, Dp.mkTup s2 hp (.cons (.int _) (.cons (Dp.mono sF q1) .nil))⟩
theorem wk_zip {k1 k2 : Kn} {vs ws : List V} {xs ys : List PyData} {B : Hp} (h : k1.holds K B vs) (d : DpAll K F vs xs) (h2 : k2.holds K B ws) (d2 : DpAll K F ws ys) : Wk K (ItzK K k1 k2) (zipI xs ys) F B where
  go := fun i H hi s => by
    rw [zipI_len] at hi
    have l1 : i < vs.length := by rw [← d.length]; omega
    have l2 : i < ws.length := by rw [← d2.length]; omega
    exact ⟨vs, ws, vs[i], ws[i], Kn.mono s h, Kn.mono s h2, List.getElem?_eq_getElem l1, List.getElem?_eq_getElem l2⟩
  stop := fun H s => ⟨vs, ws, Kn.mono s h, Kn.mono s h2, by rw [zipI_len, d.length, d2.length]⟩
  yld := fun i F2 H2 v H' hi sF s2 sB y => by
    obtain ⟨p, u, u2, ev, hp, eH, q, q2⟩ := y
    subst ev eH
    obtain ⟨x, e1, q1⟩ := DpAll.getV d (q vs (Kn.mono sB h))
    obtain ⟨x2, e2, q2⟩ := DpAll.getV d2 (q2 ws (Kn.mono sB h2))
    exact ⟨_, upd F2 p (.tup [u, u2]), zipI_get e1 e2, Ext.lay s2 hp, Dp.mkTup s2 hp (.cons (Dp.mono sF q1) (.cons (Dp.mono sF q2) .nil))⟩
end

/-! ### by its value -/
def iVal (K : PySem.W.Frag) (te : TE) : TI := fun σ H R => te σ H fun v H1 => ∃ (k : Kn) (xs : List V), v = k.val ∧ k.holds K H1 xs ∧ R (k.it K) H1
theorem pi_val {X : Cx} {tg e : Expr} {te : TE} (he : PE X e te) : PI X tg e (iVal X.K te) := by
  refine ⟨fun pins s σ H R I h => ?_⟩
  refine thn (he.run pins s σ H _ I h) fun u s1 ⟨y, H1, I1, r1, k, xs, ex, hq, q⟩ => ?_
  subst ex
  cases k with
  | lst a =>
    cases r1
    obtain ⟨its, rv, p, hz⟩ := I1.list hq
    refine wpAny_pyIter_list p.isList ?_
    refine ⟨s1.heap.objs.size, [s1.heap.objs.size], _, _, H1, rfl, I1.kept (t' := s1.toks) fun b o e => Heap.get?_push_of_some _ e, turn_list a _, ⟨_, Heap.get?_push_size _ rfl, rfl, rfl⟩, fun b hb => ?_, q⟩
    have e : b = s1.heap.objs.size := by simpa using hb
    subst e
    exact I1.fpOk (Nat.le_refl _) (I1.hok.fresh (Nat.le_refl _))
  | tpl a =>
    cases r1
    obtain ⟨its, rv, p, hz⟩ := I1.tuple hq
    refine wpAny_pyIter_tuple (show s1.heap.IsTuple a its.toArray from p) ?_
    refine ⟨s1.heap.objs.size, [s1.heap.objs.size], _, _, H1, rfl, I1.kept (t' := s1.toks) fun b o e => Heap.get?_push_of_some _ e, turn_tuple a _, ⟨_, Heap.get?_push_size _ rfl, rfl, rfl⟩, fun b hb => ?_, q⟩
    have e : b = s1.heap.objs.size := by simpa using hb
    subst e
    exact I1.fpOk (Nat.le_refl _) (I1.hok.fresh (Nat.le_refl _))
  | txt x =>
    obtain ⟨t, rfl⟩ := r1
    cases ha : x.cps.all (· < 128)
    · exact wpAny_pyIter_wide ha (pi_one (tk := s1.toks) I1 _ (turn_str _ x t "str_iterator" (.inr rfl)) ⟨_, Heap.get?_push_size _ rfl, rfl, rfl⟩ q)
    · exact wpAny_pyIter_ascii ha (pi_one (tk := s1.toks) I1 _ (turn_str _ x t "str_ascii_iterator" (.inl rfl)) ⟨_, Heap.get?_push_size _ rfl, rfl, rfl⟩ q)

section
variable {X : Cx} {ct : Nat → Addr} {EX : XK} {a b c e tg : Expr} {es : List Expr} {pa pb pc : PM} {ps : PMs} {pos p : Pos} {w : Bool}
def mItems (w : Bool) (pa : PM) : Env → Rs (List PyData) := fun env => (pa env).bind fun t => Rs.of (itemsOf w t)
theorem atI.fst {α : Type} {K : PySem.W.Frag} {F H : Hp} {M : List Addr} {r : Rs α} {g : α → Rs (List PyData)} {R : It → Hp → Prop} (h : atI K ct EX w (r.bind g) F H M R) : oks ct EX r H M := by
  cases r with
  | ok t => trivial
  | ex c => exact h
  | no => exact h
theorem atI.ext {K : PySem.W.Frag} {F H F' H' : Hp} {M : List Addr} {r : Rs (List PyData)} {R : It → Hp → Prop} (h : atI K ct EX w r F H M R) (x : Ext F H F' H') : atI K ct EX w r F' H' M R := by
  cases r with
  | ok t => exact fun F2 H2 J y => h F2 H2 J (x.trans y)
  | ex c => exact exq.ext h x.h
  | no => exact h
theorem runV {K : PySem.W.Frag} {F H : Hp} {env : Env} {σ : Sg} {M : List Addr} (rel : Rel K F H env σ M) (h : oks ct EX (pa env) H M) :
    tV K ct EX pa σ H fun x H1 => ∃ F1 t, pa env = .ok t ∧ Ext F H F1 H1 ∧ Vw K F1 H1 t x := by
  refine ⟨F, env, M, rel, ?_⟩
  cases e : pa env with
  | ok t => exact fun F1 H1 v x o => ⟨F1, t, rfl, x, o⟩
  | ex c => rw [e] at h; exact h
  | no => rw [e] at h; exact h
theorem si_val (ha : SV X ct EX a pa) : SI X ct EX w tg a (mItems w pa) :=
  PI.imp (pi_val ha) fun σ H R ⟨F, env, M, rel, q⟩ => by
    refine tV.mono (runV rel (atI.fst (g := fun t => Rs.of (itemsOf w t)) q)) fun x H1 ⟨F1, t, e1, x1, v1⟩ => ?_
    unfold mItems at q
    rw [e1] at q
    have q := q.ext x1
    simp only [Rs.bind] at q
    cases e2 : itemsOf w t with
    | none => rw [e2] at q; exact q.elim
    | some xs =>
      rw [e2] at q
      obtain ⟨k, vs, ev, hk, d⟩ := items_kn v1 x1.s e2
      have hH : Same (Bh w F1 H1) H1 := by cases w; exact x1.s; exact Same.refl _
      exact ⟨k, vs, ev, Kn.mono hH.n hk, q F1 H1 _ (Ext.refl x1.s) (wk_kn hk d)⟩
/-- range -/
def rngOk (i : Int) : Bool := decide (-(2 ^ 62) ≤ i) && decide (i < 2 ^ 62)
def rng1 : List T → Option (List PyData)
  | [.d (.int j)] => if rngOk j then some (rng 0 j.toNat) else none
  | _ => none
def rng2 : List T → Option (List PyData)
  | [.d (.int i), .d (.int j)] => if rngOk i && rngOk j then some (rng i (j - i).toNat) else none
  | _ => none
def mItA (f : List T → Option (List PyData)) (ps : PMs) : Env → Rs (List PyData) := fun env => (ps env).bind fun ts => Rs.of (f ts)
theorem itA_core {K : PySem.W.Frag} {σ : Sg} {H : Hp} {f : List T → Option (List PyData)} {R : It → Hp → Prop} {Q : List V → Hp → Prop}
    (q : tI K ct EX w (mItA f ps) σ H R) (h : ∀ F1 H1 ts xs vs, Same F1 H1 → Vws K F1 H1 ts vs → f ts = some xs → (∀ J, Wk K J xs F1 (Bh w F1 H1) → R J H1) → Q vs H1) : tVs K ct EX ps σ H Q := by
  obtain ⟨F, env, M, rel, q⟩ := q
  refine tVs.mono (runVs rel (atI.fst (g := fun ts => Rs.of (f ts)) q)) fun vs H1 ⟨F1, ts, e1, x1, v1⟩ => ?_
  unfold mItA at q
  rw [e1] at q
  have q := q.ext x1
  simp only [Rs.bind] at q
  cases e2 : f ts with
  | none => rw [e2] at q; exact q.elim
  | some xs => rw [e2] at q; exact h F1 H1 ts xs vs x1.s v1 e2 fun J k => q F1 H1 J (Ext.refl x1.s) k
theorem rngOk_iff {i : Int} (h : rngOk i = true) : -(2 ^ 62) ≤ i ∧ i < 2 ^ 62 := by unfold rngOk at h; simpa using h
theorem si_range1 (hg : Gl X "range") (hm : X.mg "range" = none) (ha : SVs X ct EX [a] ps) (hs : starEach [a] X.env = [(false, eval a X.env)] := by rfl) : SI X ct EX w tg (.Call (.Name "range" p) [a] [] pos) (mItA rng1 ps) :=
  PI.imp (pi_range1 hg hm ha hs) fun σ H R q => itA_core q fun F1 H1 ts xs vs s v e q => by
    unfold rng1 at e
    split at e
    · rename_i j
      split at e
      · rename_i hj
        cases e
        obtain ⟨v1, e1, w1⟩ := Vws1 v
        have := Vw_int w1
        subst this e1
        obtain ⟨h1, h2⟩ := rngOk_iff hj
        exact ⟨j, rfl, h1, h2, q _ wk_rng⟩
      · cases e
    · cases e
theorem si_range2 (hg : Gl X "range") (hm : X.mg "range" = none) (ha : SVs X ct EX [a, b] ps) (hs : starEach [a, b] X.env = [(false, eval a X.env), (false, eval b X.env)] := by rfl) (hs2 : starEach [b] X.env = [(false, eval b X.env)] := by rfl) : SI X ct EX w tg (.Call (.Name "range" p) [a, b] [] pos) (mItA rng2 ps) :=
  PI.imp (pi_range2 hg hm ha hs hs2) fun σ H R q => itA_core q fun F1 H1 ts xs vs s v e q => by
    unfold rng2 at e
    split at e
    · rename_i i j
      split at e
      · rename_i hj
        cases e
        obtain ⟨v1, v2, e1, w1, w2⟩ := Vws2 v
        have := Vw_int w1
        have := Vw_int w2
        subst_vars
        rw [Bool.and_eq_true] at hj
        obtain ⟨h1, h2⟩ := rngOk_iff hj.1
        obtain ⟨h3, h4⟩ := rngOk_iff hj.2
        exact ⟨i, j, rfl, ⟨h1, h2, h3, h4⟩, q _ wk_rng⟩
      · cases e
    · cases e
/-- range(i, j, -1) -/
def rngD (hi : Int) : Nat → List PyData
  | 0 => []
  | n + 1 => .int hi :: rngD (hi - 1) n
theorem rngD_len (lo : Int) (n : Nat) : (rngD lo n).length = n := by
  induction n generalizing lo with
  | zero => rfl
  | succ n ih => simp [rngD, ih]
theorem rngD_get {lo : Int} {n i : Nat} (h : i < n) : (rngD lo n)[i]? = some (.int (lo + (i : Nat) * (-1))) := by
  induction n generalizing lo i with
  | zero => omega
  | succ n ih =>
    cases i with
    | zero => simp [rngD]
    | succ i => rw [rngD, List.getElem?_cons_succ, ih (by omega)]; congr 2; omega
theorem wk_rngD {K : PySem.W.Frag} {F B : Hp} {lo : Int} {n : Nat} : Wk K (Itc lo (-1) n) (rngD lo n) F B where
  go := fun i H hi s => by rw [rngD_len] at hi; exact hi
  stop := fun H s => Nat.le_of_eq (rngD_len lo n).symm
  yld := fun i F2 H2 v H' hi sF s2 sB y => by
    obtain ⟨e, ev⟩ := y
    subst e ev
    exact ⟨_, F2, rngD_get (by rwa [rngD_len] at hi), Ext.refl s2, .int _⟩
def rng3 : List T → Option (List PyData)
  | [.d (.int i), .d (.int j), .d (.int k)] => if rngOk i && rngOk j && decide (k = -1) then some (rngD i (i - j).toNat) else none
  | _ => none
theorem Vws3 {K : PySem.W.Frag} {F H : Hp} {t u r : T} {xs : List V} (h : Vws K F H [t, u, r] xs) : ∃ v w z, xs = [v, w, z] ∧ Vw K F H t v ∧ Vw K F H u w ∧ Vw K F H r z := by
  cases h with | cons h1 h => cases h with | cons h2 h => cases h with | cons h3 h => cases h; exact ⟨_, _, _, rfl, h1, h2, h3⟩
theorem si_range3 (hg : Gl X "range") (hm : X.mg "range" = none) (ha : SVs X ct EX [a, b, c] ps) (hs : starEach [a, b, c] X.env = (false, eval a X.env) :: starEach [b, c] X.env := by rfl) (hpl : (backTo pos (starEach [b, c] X.env)).any (·.1) = false := by rfl) : SI X ct EX w tg (.Call (.Name "range" p) [a, b, c] [] pos) (mItA rng3 ps) :=
  PI.imp (pi_range3 hg hm ha hs hpl) fun σ H R q => itA_core q fun F1 H1 ts xs vs s v e q => by
    unfold rng3 at e
    split at e
    · rename_i i j k
      split at e
      · rename_i hj
        cases e
        obtain ⟨v1, v2, v3, e1, w1, w2, w3⟩ := Vws3 v
        have := Vw_int w1
        have := Vw_int w2
        have := Vw_int w3
        subst_vars
        simp only [Bool.and_eq_true, decide_eq_true_eq] at hj
        obtain ⟨⟨hi, hj⟩, hk⟩ := hj
        subst hk
        obtain ⟨h1, h2⟩ := rngOk_iff hi
        obtain ⟨h3, h4⟩ := rngOk_iff hj
        exact ⟨i, j, -1, _, rfl, RgC.neg h1 h2 h3 h4, q _ wk_rngD⟩
      · cases e
    · cases e
/-- enumerate, zip -/
def itEnum (w : Bool) : List T → Option (List PyData)
  | [t] => (itemsOf w t).map (enumI 0)
  | _ => none
def itZip (w : Bool) : List T → Option (List PyData)
  | [t, u] => (itemsOf w t).bind fun xs => (itemsOf w u).map (zipI xs)
  | _ => none
theorem Bh.le {F H : Hp} (s : Same F H) : Same (Bh w F H) H := by cases w; exact s; exact Same.refl _
theorem si_enum {elts : List Expr} {kk : Nat} {tpos : Pos} (hg : Gl X "enumerate") (hm : X.mg "enumerate" = none) (ha : SVs X ct EX [e] ps) (hs : starEach [e] X.env = [(false, eval e X.env)] := by rfl) :
    SI X ct EX w (.Tuple elts kk tpos) (.Call (.Name "enumerate" p) [e] [] pos) (mItA (itEnum w) ps) :=
  PI.imp (pi_enumK hg hm ha hs) fun σ H R q => itA_core q fun F1 H1 ts xs vs s v e q => by
    unfold itEnum at e
    split at e
    · rename_i t
      cases e2 : itemsOf w t with
      | none => rw [e2] at e; cases e
      | some ys =>
        rw [e2] at e
        cases e
        obtain ⟨v1, e1, w1⟩ := Vws1 v
        obtain ⟨k, ws, ev, hk, d⟩ := items_kn w1 s e2
        subst ev e1
        exact ⟨k, ws, rfl, Kn.mono (Bh.le s).n hk, q _ (wk_enum hk d)⟩
    · cases e
theorem si_zip {e2 : Expr} {elts : List Expr} {kk : Nat} {tpos : Pos} (hg : Gl X "zip") (hm : X.mg "zip" = none) (ha : SVs X ct EX [e, e2] ps)
    (hs : starEach [e, e2] X.env = (false, eval e X.env) :: starEach [e2] X.env := by rfl) (hpl : (backTo pos (starEach [e2] X.env)).any (·.1) = false := by rfl) :
    SI X ct EX w (.Tuple elts kk tpos) (.Call (.Name "zip" p) [e, e2] [] pos) (mItA (itZip w) ps) :=
  PI.imp (pi_zipK hg hm ha hs hpl) fun σ H R q => itA_core q fun F1 H1 ts xs vs s v e q => by
    unfold itZip at e
    split at e
    · rename_i t u
      cases e2 : itemsOf w t with
      | none => rw [e2] at e; cases e
      | some ys =>
        rw [e2] at e
        simp only [Option.bind] at e
        cases e3 : itemsOf w u with
        | none => rw [e3] at e; cases e
        | some zs =>
          rw [e3] at e
          cases e
          obtain ⟨v1, v2, e1, w1, w2⟩ := Vws2 v
          obtain ⟨k, ws, ev, hk, d⟩ := items_kn w1 s e2
          obtain ⟨k2, ws2, ev2, hk2, d2⟩ := items_kn w2 s e3
          subst ev ev2 e1
          exact ⟨k, k2, ws, ws2, rfl, Kn.mono (Bh.le s).n hk, Kn.mono (Bh.le s).n hk2, q _ (wk_zip hk d hk2 d2)⟩
    · cases e
end
end Mi

set_option maxHeartbeats 200000
namespace Mi
open PySem PySem.Spec PyProof.Rows L2
variable [Tb]

def E0 : XK := fun _ _ _ => False
theorem not_exq {ct : Nat → Addr} {H : Hp} {M : List Addr} {c : Nat} (h : exq ct E0 H M c) : False := h H Kp.refl
/-! ### the list that a comprehension makes -/
structure LI (K : PySem.W.Frag) (F1 H1 : Hp) (D : Addr) (ts : List T) (F H : Hp) (vs : List V) (N : List Addr) : Prop where
  x : Ext F1 H1 F H
  n : H1 D = none
  f : F D = none
  h : H D = some (.lst vs)
  o : Ows K F H ts vs N
  d : D ∉ N
  r : Fresh H1 F N
section
variable {K : PySem.W.Frag} {F H F' H' F1 H1 : Hp} {D : Addr} {ts : List T} {vs : List V} {N N2 : List Addr}
theorem LI.start (s : Same F1 H1) (n : H1 D = none) : LI K F1 H1 D [] F1 (upd H1 D (.lst [])) [] [] :=
  ⟨Ext.own s n, n, s.free n, upd_same, .nil, (fun h => nomatch h), Fresh.nil⟩
theorem LI.ext (l : LI K F1 H1 D ts F H vs N) (x : Ext F H F' H') : LI K F1 H1 D ts F' H' vs N :=
by
  refine ⟨l.x.trans x, l.n, ?_, x.h.at l.h nt_lst, l.o.ext x, l.d, l.r.on l.o.there x⟩
  cases e : F' D with
  | none => rfl
  | some o =>
    rcases x.n D o e with z | z
    · rw [l.f] at z; cases z
    · rw [l.h] at z; cases z
theorem LI.push (l : LI K F1 H1 D ts F H vs N) (x : Ext F H F' H') {t : T} {v : V} (fr : Fresh H F' N2) (o : Ow K F' H' t v N2) : LI K F1 H1 D (ts ++ [t]) F' (upd H' D (.lst (vs ++ [v]))) (vs ++ [v]) (N ++ N2) := by
  have l1 := l.ext x
  have dN2 : D ∉ N2 := fun h => by have := l.h; rw [fr.new D h] at this; cases this
  have kp : ∀ (L : List Addr), D ∉ L → ∀ a ∈ L, ∀ o, H' a = some o → upd H' D (.lst (vs ++ [v])) a = some o := fun L hL a ha o e => by
    rw [upd_ne (fun z => hL (by rw [← z]; exact ha))]; exact e
  refine ⟨⟨l1.x.f, Kp.trans' l1.x.h (Kp.upd (M := [D]) l1.h (List.mem_singleton.mpr rfl)) (fun c hc => by rw [List.mem_singleton.mp hc]; exact .inr l.n), fun a o e => ?_, l1.x.n⟩, l.n, l1.f, upd_same, Ows.append (l1.o.keep (Same.refl _) (kp N l.d)) ?_, ?_, Fresh.app l1.r l.o.there fr l.x.h⟩
  · rw [upd_ne (ne_of_none e l1.f)]; exact l1.x.s _ _ e
  · have := Ows.cons (o.keep (Same.refl _) (kp N2 dN2)) (Ows.nil (K := K) (F := F') (H := upd H' D (.lst (vs ++ [v]))))
    rwa [List.append_nil] at this
  · rw [List.mem_append]; exact fun h => h.elim l.d dN2
theorem LI.ow (l : LI K F1 H1 D ts F H vs N) : Ow K F H (.l ts) (.ref D) (D :: N) := .l l.h l.o
theorem LI.fresh (l : LI K F1 H1 D ts F H vs N) : Fresh H1 F (D :: N) := ⟨List.nodup_cons.mpr ⟨l.d, l.r.nd⟩, fun a ha => by
    rcases List.mem_cons.mp ha with z | z
    · rw [z]; exact l.n
    · exact l.r.new a z, fun a ha => by
    rcases List.mem_cons.mp ha with z | z
    · rw [z]; exact l.f
    · exact l.r.dis a z⟩
end
def lcGo (g : Tg) (tt : Env → Rs Bool) (te : PM) (env : Env) : List PyData → Rs (List T)
  | [] => .ok []
  | x :: xs => match g.put x env with
    | none => .no
    | some env1 => match tt env1 with
      | .ok true => match te env1 with
        | .ok t => match lcGo g tt te env xs with
          | .ok ts => .ok (t :: ts)
          | _ => .no
        | _ => .no
      | .ok false => lcGo g tt te env xs
      | _ => .no
def mLc (im : Env → Rs (List PyData)) (g : Tg) (tt : Env → Rs Bool) (te : PM) (vs : List Nat) : PM := fun env => (im env).bind fun xs =>
  if xs.length ≤ sizeLine then match lcGo g tt te (wipeE env vs) xs with
    | .ok ts => .ok (.l ts)
    | _ => .no
  else .no
def mYes : Env → Rs Bool := fun _ => .ok true
section
variable {K : PySem.W.Frag} {ct : Nat → Addr} {EX : XK}
theorem Wk.b {J : It} {xs : List PyData} {F F' B B' : Hp} (h : Wk K J xs F B) (sF : Same F F') (sB : SameN B B') : Wk K J xs F' B' :=
  ⟨fun i H hi s => h.go i H hi (sB.trans s), fun H s => h.stop H (sB.trans s), fun i F2 H v H' hi s1 s2 s3 y => h.yld i F2 H v H' hi (sF.trans s1) s2 (sB.trans s3) y⟩
theorem tLc_of {im : Env → Rs (List PyData)} {g : Tg} {tt : Env → Rs Bool} {te : PM} {vs : List Nat} {σ : Sg} {H : Hp} {Q : VK} (hv : ∀ j ∈ g.slots, j ∈ vs) (h : tP K ct EX (mLc im g tt te vs) σ H Q) :
    tLc (tI K ct EX true im) (gG K g) (tT K ct E0 tt) (tP K ct E0 te) vs σ H Q := by
  obtain ⟨F, env, M, rel, h⟩ := h
  refine ⟨F, env, M, rel, ?_⟩
  unfold mLc at h
  cases ei : im env with
  | ex c => rw [ei] at h; exact h
  | no => rw [ei] at h; exact h
  | ok xs =>
    rw [ei] at h
    simp only [Rs.bind] at h
    split at h
    · rename_i hsz
      cases eg : lcGo g tt te (wipeE env vs) xs with
      | ex c => rw [eg] at h; exact h.elim
      | no => rw [eg] at h; exact h.elim
      | ok out =>
        rw [eg] at h
        intro F1 H1 J x1 wk D hD
        obtain ⟨Mw, sM, relw⟩ := (rel.ext x1).wipe vs
        have wkB : SameN (if true = true then H1 else F1) H1 := Kp.refl
        refine ⟨fun i m H2 => ∃ F2 ts ws N r, LI K F1 H1 D ts F2 H2 ws N ∧ i ≤ xs.length ∧ m = xs.length - i ∧ ts.length ≤ i ∧ lcGo g tt te (wipeE env vs) (xs.drop i) = .ok r ∧ ts ++ r = out,
          ⟨_, F1, [], [], [], out, LI.start x1.s hD, Nat.zero_le _, rfl, Nat.le_refl _, eg, rfl⟩, ?_⟩
        rintro i m H2 ⟨F2, ts, ws, N, r, L, hi, rfl, hlen, er, eo⟩
        by_cases hlt : i < xs.length
        · refine .inr ⟨wk.go i H2 hlt L.x.h, fun H' => ∃ F2 ts ws N r, LI K F1 H1 D ts F2 H' ws N ∧ ts.length ≤ i + 1 ∧ lcGo g tt te (wipeE env vs) (xs.drop (i + 1)) = .ok r ∧ ts ++ r = out, ?_, ?_⟩
          · rintro H' ⟨F3, ts3, ws3, N3, r3, L3, l3, e3, o3⟩
            exact ⟨_, by omega, F3, ts3, ws3, N3, r3, L3, hlt, rfl, l3, e3, o3⟩
          · intro v H3 y
            obtain ⟨x, F3, ex, x3, d3⟩ := wk.yld i F2 H2 v H3 hlt L.x.f L.x.s L.x.h y
            have ed : xs.drop i = x :: xs.drop (i + 1) := by
              obtain ⟨_, q⟩ := List.getElem?_eq_some_iff.mp ex
              rw [List.drop_eq_getElem_cons hlt, q]
            rw [ed, lcGo] at er
            cases ep : g.put x (wipeE env vs) with
            | none => rw [ep] at er; cases er
            | some env1 =>
              rw [ep] at er
              simp only at er
              have L3 := L.ext x3
              refine ⟨F3, wipeE env vs, Mw, x, env1, relw.ext (L3.x), d3, ep, fun σ1 M1 rel1 s1 hl1 k1 => ?_⟩
              refine ⟨(wipe_eq hl1 fun j hj => k1 j fun z => hj (hv j z)).trans (wipe_idem fun _ h => h), F3, env1, M1, rel1, ?_⟩
              cases et : tt env1 with
              | ex c => rw [et] at er; cases er
              | no => rw [et] at er; cases er
              | ok b =>
                rw [et] at er
                intro F4 H4 x4
                have L4 := L3.ext x4
                cases b with
                | false =>
                  rw [if_neg Bool.false_ne_true]
                  exact ⟨F4, ts, ws, N, r, L4, by omega, er, eo⟩
                | true =>
                  rw [if_pos rfl]
                  simp only at er
                  refine ⟨F4, env1, M1, rel1.ext x4, ?_⟩
                  cases ee : te env1 with
                  | ex c => rw [ee] at er; cases er
                  | no => rw [ee] at er; cases er
                  | ok t =>
                    rw [ee] at er
                    simp only at er
                    intro F5 H5 u N5 x5 f5 o5
                    cases e6 : lcGo g tt te (wipeE env vs) (xs.drop (i + 1)) with
                    | ex c => rw [e6] at er; cases er
                    | no => rw [e6] at er; cases er
                    | ok r6 =>
                      rw [e6] at er
                      cases er
                      refine ⟨ws, (L4.ext x5).h, ?_, F5, ts ++ [t], _, _, r6, L4.push x5 f5 o5, by simp; omega, rfl, by rw [List.append_assoc]; exact eo⟩
                      rw [← L4.o.length]
                      omega
        · have e : i = xs.length := by omega
          subst e
          refine .inl ⟨wk.stop H2 L.x.h, ?_⟩
          rw [List.drop_length, lcGo] at er
          cases er
          rw [List.append_nil] at eo
          subst eo
          exact h F2 H2 (.ref D) (D :: N) (L.x |> fun y => ⟨x1.f.trans y.f, x1.h.trans y.h, y.s, fun a o e => by
            rcases y.n a o e with z | z
            · exact x1.n a o z
            · exact .inr (x1.h.free z)⟩) (L.fresh.back x1) L.ow
    · exact h.elim
end
section
variable {X : Cx} {ct : Nat → Addr} {EX : XK} {elt tg iter c : Expr} {pe : PM} {tt : Env → Rs Bool} {im : Env → Rs (List PyData)} {g : Tg} {scope : Scope} {own : List (Str × Nat)} {pos : Pos}
theorem sp_lc (hc : X.calm = true) (hN : X.N.Nodup) (hi : SI X ct EX true tg iter im) (ok : BlkOk X.N X.env.scope scope own)
    (hg : ∀ (s : Shared) (H : Hp) (C : Addr) (cl : List (Str × Addr)) (fp : List Addr), SG (X.blk s H scope (compEnvC scope cl C X.env) fp) tg g)
    (he : ∀ (s : Shared) (H : Hp) (C : Addr) (cl : List (Str × Addr)) (fp : List Addr), SP (X.blk s H scope (compEnvC scope cl C X.env) fp) ct E0 elt pe) (hv : ∀ j ∈ g.slots, j ∈ own.map (·.2)) (hs : ∀ x, foldedSetIterable iter X.env x = pure x := by intro _; rfl) :
    SP X ct EX (.ListComp elt [⟨tg, iter, [], 0⟩] scope pos) (mLc im g mYes pe (own.map (·.2))) :=
  PE.imp (pe_lc (g := gG X.K g) (te := tP X.K ct E0 pe) hc hN hi ok hg (tt := tT X.K ct E0 mYes) (fun s H C cl fp => ⟨fun pins s σ H Q I ⟨F, env, M, rel, q⟩ => pts_nil.run pins s σ H Q I (q F H (Ext.refl rel.sub))⟩) he hs) fun σ H Q h => tLc_of hv h
theorem sp_lcIf (hc : X.calm = true) (hN : X.N.Nodup) (hi : SI X ct EX true tg iter im) (ok : BlkOk X.N X.env.scope scope own)
    (hg : ∀ (s : Shared) (H : Hp) (C : Addr) (cl : List (Str × Addr)) (fp : List Addr), SG (X.blk s H scope (compEnvC scope cl C X.env) fp) tg g)
    (ht : ∀ (s : Shared) (H : Hp) (C : Addr) (cl : List (Str × Addr)) (fp : List Addr), STt (X.blk s H scope (compEnvC scope cl C X.env) fp) ct E0 c tt)
    (he : ∀ (s : Shared) (H : Hp) (C : Addr) (cl : List (Str × Addr)) (fp : List Addr), SP (X.blk s H scope (compEnvC scope cl C X.env) fp) ct E0 elt pe) (hv : ∀ j ∈ g.slots, j ∈ own.map (·.2)) (hs : ∀ x, foldedSetIterable iter X.env x = pure x := by intro _; rfl) :
    SP X ct EX (.ListComp elt [⟨tg, iter, [c], 0⟩] scope pos) (mLc im g tt pe (own.map (·.2))) :=
  PE.imp (pe_lc (g := gG X.K g) (te := tP X.K ct E0 pe) (tt := tT X.K ct E0 tt) hc hN hi ok hg (fun s H C cl fp => pts_one (ht s H C cl fp)) he hs) fun σ H Q h => tLc_of hv h
end
end Mi

set_option maxHeartbeats 200000
namespace Mi
open PySem PySem.Spec PyProof.Rows L2
variable [Tb]

section
variable {K : PySem.W.Frag} {F H F' H' F1 H1 F2 H2 : Hp} {env env' env1 env2 : Env} {σ σ' : Sg} {M M' N N' A B : List Addr} {t u : T} {v : V}
theorem Rel.cons (r : Rel K F H env σ B) (o : Ow K F H t v A) (nd : A.Nodup) (dis : ∀ a ∈ A, a ∉ B) (dF : ∀ a ∈ A, F a = none) : Rel K F H (some t :: env) (some v :: σ) (A ++ B) :=
  ⟨r.sub, r.tb, .s o r.own, List.nodup_append.mpr ⟨nd, r.nd, fun a ha b hb e => dis a ha (e ▸ hb)⟩, fun a ha => (List.mem_append.mp ha).elim (dF a) (r.dis a)⟩
theorem Rel.uncons (r : Rel K F H (some t :: env) (some v :: σ) N) : ∃ A B, N = A ++ B ∧ Ow K F H t v A ∧ Rel K F H env σ B ∧ A.Nodup ∧ (∀ a ∈ A, a ∉ B) ∧ ∀ a ∈ A, F a = none := by
  obtain ⟨s, tb, o, nd, d⟩ := r
  cases o with
  | s o1 o2 =>
    obtain ⟨n1, n2, n3⟩ := List.nodup_append.mp nd
    exact ⟨_, _, rfl, o1, ⟨s, tb, o2, n2, fun a ha => d a (List.mem_append_right _ ha)⟩, n1, fun a ha hb => n3 a ha a hb rfl, fun a ha => d a (List.mem_append_left _ ha)⟩
theorem Rel.consU (r : Rel K F H env σ B) (x : Option V) : Rel K F H (none :: env) (x :: σ) B := ⟨r.sub, r.tb, .u r.own, r.nd, r.dis⟩
theorem Rel.unconsU {x : Option V} (r : Rel K F H (none :: env) (x :: σ) B) : Rel K F H env σ B := by
  obtain ⟨s, tb, o, nd, d⟩ := r
  cases o with | u o => exact ⟨s, tb, o, nd, d⟩
theorem Rel.consS (r : Rel K F H env σ B) (os : Ows K F H ts vs A) (nd : A.Nodup) (dis : ∀ a ∈ A, a ∉ B) (dF : ∀ a ∈ A, F a = none) : Rel K F H (ts.map some ++ env) (vs.map some ++ σ) (A ++ B) := by
  refine ⟨r.sub, r.tb, ?_, List.nodup_append.mpr ⟨nd, r.nd, fun a ha b hb e => dis a ha (e ▸ hb)⟩, fun a ha => (List.mem_append.mp ha).elim (dF a) (r.dis a)⟩
  have := r.own
  clear nd dis dF
  induction ts generalizing vs A with
  | nil => cases os; exact this
  | cons t ts ih =>
    cases os with
    | cons o os => rw [List.append_assoc]; exact .s o (ih os)
theorem Rel.unconsS {ts : List T} {vs : List V} (hl : ts.length = vs.length) (r : Rel K F H (ts.map some ++ env) (vs.map some ++ σ) N) : ∃ A B, N = A ++ B ∧ Ows K F H ts vs A ∧ Rel K F H env σ B ∧ A.Nodup ∧ (∀ a ∈ A, a ∉ B) ∧ ∀ a ∈ A, F a = none := by
  induction ts generalizing vs N with
  | nil => cases vs with
    | nil => exact ⟨[], N, rfl, .nil, r, .nil, (fun _ h => nomatch h), (fun _ h => nomatch h)⟩
    | cons _ _ => cases hl
  | cons t ts ih => cases vs with
    | nil => cases hl
    | cons v vs =>
      obtain ⟨A, B, e, o, r1, n, d, f⟩ := Rel.uncons r
      obtain ⟨A2, B2, e2, o2, r2, n2, d2, f2⟩ := ih (by simpa using hl) r1
      subst e e2
      refine ⟨A ++ A2, B2, by rw [List.append_assoc], .cons o o2, r2, List.nodup_append.mpr ⟨n, n2, fun a ha b hb z => d a ha (by subst z; simp [hb])⟩, fun a ha hb => ?_, fun a ha => (List.mem_append.mp ha).elim (f a) (f2 a)⟩
      rcases List.mem_append.mp ha with ha | ha
      · exact d a ha (by simp [hb])
      · exact d2 a ha hb
theorem Rel.perm (r : Rel K F H env σ M) : Rel K F H env σ M := r
theorem Go.up (g : Go F H M F' H' N) (s : ∀ a ∈ M, a ∈ M') : Go F H M' F' H' N :=
  ⟨g.f, g.k.up s, fun a o e => (g.n a o e).imp id fun h => h.imp (s a) id, fun a ha => (g.m a ha).imp (s a) id⟩
theorem Go.sub (g : Go F H M F' H' N) (s : ∀ a ∈ N', a ∈ N) : Go F H M F' H' N' := ⟨g.f, g.k, g.n, fun a ha => g.m a (s a ha)⟩
/-- one's own cells A stand apart through what M does -/
theorem Go.frame (g : Go F H M F' H' N) (d : ∀ a ∈ A, a ∉ M) (th : ∀ a ∈ A, ∃ vs, H a = some (.lst vs)) : (∀ a ∈ A, ∀ o, H a = some o → H' a = some o) ∧ (∀ a ∈ A, a ∉ N) ∧ ((∀ a ∈ A, F a = none) → ∀ a ∈ A, F' a = none) ∧ Go F H (A ++ M) F' H' (A ++ N) := by
  refine ⟨g.k.on d th, fun a ha hn => ?_, fun hf a ha => ?_, ⟨g.f, g.k.up (fun _ z => List.mem_append_right _ z), fun a o e => (g.n a o e).imp id fun h => h.imp (List.mem_append_right _) id, fun a ha => ?_⟩⟩
  · obtain ⟨vs, e⟩ := th a ha
    rcases g.m a hn with z | z
    · exact d a ha z
    · rw [e] at z; cases z
  · cases e : F' a with
    | none => rfl
    | some o =>
      obtain ⟨vs, e2⟩ := th a ha
      rcases g.n a o e with z | z | z
      · rw [hf a ha] at z; cases z
      · exact absurd z (d a ha)
      · rw [e2] at z; cases z
  · rcases List.mem_append.mp ha with ha | ha
    · exact .inl (List.mem_append_left _ ha)
    · exact (g.m a ha).imp (List.mem_append_right _) id
theorem Rel.framed (o : Ow K F H t v A) (nd : A.Nodup) (d : ∀ a ∈ A, a ∉ M) (dF : ∀ a ∈ A, F a = none) (g : Go F H M F' H' N) (r : Rel K F' H' env' σ' N) : Rel K F' H' (some t :: env') (some v :: σ') (A ++ N) ∧ Go F H (A ++ M) F' H' (A ++ N) := by
  obtain ⟨k, dn, fr, g2⟩ := g.frame d o.there
  exact ⟨r.cons (o.keep g.f k) nd dn (fr dF), g2⟩
theorem Rel.framedS {ts : List T} {vs : List V} (o : Ows K F H ts vs A) (nd : A.Nodup) (d : ∀ a ∈ A, a ∉ M) (dF : ∀ a ∈ A, F a = none) (g : Go F H M F' H' N) (r : Rel K F' H' env' σ' N) : Rel K F' H' (ts.map some ++ env') (vs.map some ++ σ') (A ++ N) ∧ Go F H (A ++ M) F' H' (A ++ N) := by
  obtain ⟨k, dn, fr, g2⟩ := g.frame d o.there
  exact ⟨r.consS (o.keep g.f k) nd dn (fr dF), g2⟩
/-- new cells beside -/
theorem Rel.new (r : Rel K F H env σ M) (x : Ext F H F' H') (f : Fresh H F' A) (o : Ow K F' H' t v A) : Rel K F' H' (some t :: env) (some v :: σ) (A ++ M) ∧ Go F H M F' H' (A ++ M) :=
  ⟨(r.ext x).cons o f.nd (fun a ha hm => by obtain ⟨vs, e⟩ := r.there a hm; rw [f.new a ha] at e; cases e) f.dis, ⟨x.f, x.h.up (fun _ z => nomatch z), fun a o e => (x.n a o e).imp id .inr, fun a ha => (List.mem_append.mp ha).elim (fun z => .inr (f.new a z)) .inl⟩⟩
end

/-! ### pieces that write: lifts -/
abbrev EMs := Env → Rs (List T × Env)
def eP (p : PM) : EM := fun env => (p env).bind fun t => .ok (t, env)
section
variable {X : Cx} {ct : Nat → Addr} {EX : XK} {a b c e : Expr} {es : List Expr} {pa pb pc : PM} {ma mb mc m : EM} {ps : PMs} {ms : EMs} {pos : Pos}
theorem SP.en (h : SP X ct EX e pa) : SE X ct EX e (eP pa) := PE.imp h fun σ H Q ⟨F, env, M, rel, q⟩ => by
  refine ⟨F, env, M, rel, ?_⟩
  unfold eP at q
  cases e : pa env with
  | ok t =>
    rw [e] at q
    exact fun F' H' v N x f o => let ⟨r, g⟩ := rel.new x f o; q F' H' v _ r g
  | ex c => rw [e] at q; exact q
  | no => rw [e] at q; exact q
theorem runE {K : PySem.W.Frag} {F H : Hp} {env : Env} {σ : Sg} {M : List Addr} (rel : Rel K F H env σ M) (h : oks ct EX (ma env) H M) :
    tE K ct EX ma σ H fun x H1 => ∃ F1 t env1 N, ma env = .ok (t, env1) ∧ Rel K F1 H1 (some t :: env1) (some x :: σ) N ∧ Go F H M F1 H1 N := by
  refine ⟨F, env, M, rel, ?_⟩
  cases e : ma env with
  | ok t => exact fun F1 H1 v N r g => ⟨F1, t.1, t.2, N, rfl, r, g⟩
  | ex c => rw [e] at h; exact h
  | no => rw [e] at h; exact h
theorem runEs {K : PySem.W.Frag} {F H : Hp} {env : Env} {σ : Sg} {M : List Addr} (rel : Rel K F H env σ M) (h : oks ct EX (ms env) H M) :
    tEs K ct EX ms σ H fun xs H1 => ∃ F1 ts env1 N, ms env = .ok (ts, env1) ∧ Rel K F1 H1 (ts.map some ++ env1) (xs.map some ++ σ) N ∧ ts.length = xs.length ∧ Go F H M F1 H1 N := by
  refine ⟨F, env, M, rel, ?_⟩
  cases e : ms env with
  | ok t => exact fun F1 H1 v N r l g => ⟨F1, t.1, t.2, N, rfl, r, l, g⟩
  | ex c => rw [e] at h; exact h
  | no => rw [e] at h; exact h
theorem tE.mono {K : PySem.W.Frag} {σ : Sg} {H : Hp} {Q Q' : VK} (h : tE K ct EX ma σ H Q) (i : ∀ v H, Q v H → Q' v H) : tE K ct EX ma σ H Q' := by
  obtain ⟨F, env, M, r, q⟩ := h
  refine ⟨F, env, M, r, ?_⟩
  cases e : ma env with
  | ok t => rw [e] at q; exact fun F2 H2 v N y g => i _ _ (q F2 H2 v N y g)
  | ex c => rw [e] at q; exact q
  | no => rw [e] at q; exact q
theorem tEs.mono {K : PySem.W.Frag} {σ : Sg} {H : Hp} {Q Q' : List V → Hp → Prop} (h : tEs K ct EX ms σ H Q) (i : ∀ v H, Q v H → Q' v H) : tEs K ct EX ms σ H Q' := by
  obtain ⟨F, env, M, r, q⟩ := h
  refine ⟨F, env, M, r, ?_⟩
  cases e : ms env with
  | ok t => rw [e] at q; exact fun F2 H2 v N y l g => i _ _ (q F2 H2 v N y l g)
  | ex c => rw [e] at q; exact q
  | no => rw [e] at q; exact q
theorem oks.go {α : Type} {r : Rs α} {F H F1 H1 : Hp} {M N : List Addr} (h : oks ct EX r H M) (g : Go F H M F1 H1 N) : oks ct EX r H1 N := by
  cases r with
  | ok t => exact h
  | ex c => exact exq.go h g
  | no => exact h
theorem oks.imp' {α : Type} {r : Rs α} {H : Hp} {M N : List Addr} (h : oks ct EX r H M) (s : ∀ a ∈ N, a ∈ M) : oks ct EX r H N := by
  cases r with
  | ok t => exact h
  | ex c => exact exq.sub h s
  | no => exact h
theorem atE.fst {α : Type} {K : PySem.W.Frag} {F H : Hp} {σ : Sg} {M : List Addr} {r : Rs α} {g : α → Rs (T × Env)} {Q : VK} (h : atE K ct EX (r.bind g) F H σ M Q) : oks ct EX r H M := by
  cases r with
  | ok t => trivial
  | ex c => exact h
  | no => exact h
theorem atEs.fst {α : Type} {K : PySem.W.Frag} {F H : Hp} {σ : Sg} {M : List Addr} {r : Rs α} {g : α → Rs (List T × Env)} {Q : List V → Hp → Prop} (h : atEs K ct EX (r.bind g) F H σ M Q) : oks ct EX r H M := by
  cases r with
  | ok t => trivial
  | ex c => exact h
  | no => exact h
theorem oks.bind {α β : Type} {r : Rs α} {g : α → Rs β} {H : Hp} {M : List Addr} (h : oks ct EX (r.bind g) H M) : oks ct EX r H M := by
  cases r with
  | ok t => trivial
  | ex c => exact h
  | no => exact h
theorem atE.oks {K : PySem.W.Frag} {F H : Hp} {σ : Sg} {M : List Addr} {r : Rs (T × Env)} {Q : VK} (h : atE K ct EX r F H σ M Q) : oks ct EX r H M := by
  cases r with
  | ok t => trivial
  | ex c => exact h
  | no => exact h
theorem atEs.oks {K : PySem.W.Frag} {F H : Hp} {σ : Sg} {M : List Addr} {r : Rs (List T × Env)} {Q : List V → Hp → Prop} (h : atEs K ct EX r F H σ M Q) : oks ct EX r H M := by
  cases r with
  | ok t => trivial
  | ex c => exact h
  | no => exact h
/-! argument lists -/
def eNil : EMs := fun env => .ok ([], env)
def eCons (m : EM) (ms : EMs) : EMs := fun env => (m env).bind fun p => (ms p.2).bind fun q => .ok (p.1 :: q.1, q.2)
theorem ses_nil : SEs X ct EX [] eNil := PA.imp pa_nil fun σ H Q ⟨F, env, M, rel, q⟩ => q F H [] M rel rfl (Go.refl rel.sub)
theorem ses_cons (ha : SE X ct EX e m) (hr : SEs X ct EX es ms) (hs : starEach (e :: es) X.env = (false, eval e X.env) :: starEach es X.env := by rfl) : SEs X ct EX (e :: es) (eCons m ms) :=
  PA.imp (pa_cons ha hr hs) fun σ H Q ⟨F, env, M, rel, q⟩ => by
    refine tE.mono (runE rel (atEs.fst (g := fun p => (ms p.2).bind fun q => .ok (p.1 :: q.1, q.2)) q)) fun x H1 ⟨F1, t, env1, N, e1, r1, g1⟩ => ?_
    have q1 := q.oks
    unfold eCons at q q1
    simp only [e1, Rs.bind] at q q1
    obtain ⟨A, B, rfl, o, r2, nd, dis, dF⟩ := r1.uncons
    refine tEs.mono (runEs r2 ((oks.bind (r := ms env1) q1).go g1 |>.imp' fun a ha => List.mem_append_right _ ha)) fun xs H2 ⟨F2, ts, env2, N2, e2, r3, hl, g2⟩ => ?_
    simp only [e2, Rs.bind] at q
    obtain ⟨r4, g3⟩ := Rel.framed o nd dis dF g2 r3
    exact q F2 H2 (x :: xs) _ r4 (by simp [hl]) (g1.trans g3)
end
end Mi

set_option maxHeartbeats 200000
namespace Mi
open PySem PySem.Spec PyProof.Rows L2
variable [Tb]

section
variable {K : PySem.W.Frag} {ct : Nat → Addr} {EX : XK} {F H F' H' F1 H1 F2 H2 : Hp} {env env' env1 env2 : Env} {σ σ' : Sg} {M M' N N' N1 A B : List Addr} {t u r : T} {v : V} {Q : VK}
theorem Rel.drops {ts : List T} {vs : List V} (hl : ts.length = vs.length) (r : Rel K F H (ts.map some ++ env) (vs.map some ++ σ) N) : Vws K F H ts vs ∧ ∃ B, Rel K F H env σ B ∧ ∀ a ∈ B, a ∈ N := by
  obtain ⟨A, B, e, o, r1, _, _, _⟩ := r.unconsS hl
  exact ⟨o.vw, B, r1, fun a ha => by rw [e]; exact List.mem_append_right _ ha⟩
theorem fin_out (r1 : Rel K F1 H1 env2 σ N1) (g1 : Go F H M F1 H1 N1) (q : atE K ct EX (.ok (r, env2)) F H σ M Q) : out K F1 H1 r Q := fun F' H' z N x f o => by
  obtain ⟨r2, g2⟩ := r1.new x f o
  exact q F' H' z _ r2 (g1.trans g2)
end
section
variable {X : Cx} {ct : Nat → Addr} {EX : XK} {a b c e : Expr} {es : List Expr} {pa pb pc : PM} {ma mb mc m : EM} {ps : PMs} {ms : EMs} {pos : Pos}
/-- two, one after the other, with what comes of both -/
def e2 {α : Type} (ma mb : EM) (g : T → T → Env → Rs α) : Env → Rs α := fun env => (ma env).bind fun p => (mb p.2).bind fun q => g p.1 q.1 q.2
theorem run2 {α : Type} {K : PySem.W.Frag} {F H : Hp} {env : Env} {σ : Sg} {M : List Addr} {g : T → T → Env → Rs α} (rel : Rel K F H env σ M) (h : oks ct EX (e2 ma mb g env) H M) :
    tE K ct EX ma σ H fun x H1 => tE K ct EX mb σ H1 fun y H2 => ∃ F2 t u env2 N, e2 ma mb g env = g t u env2 ∧ Vw K F2 H2 t x ∧ Vw K F2 H2 u y ∧ Rel K F2 H2 env2 σ N ∧ Go F H M F2 H2 N := by
  have h1 := oks.bind (r := ma env) h
  refine tE.mono (runE rel h1) fun x H1 ⟨F1, t, env1, N, e1, r1, g1⟩ => ?_
  unfold e2 at h
  simp only [e1, Rs.bind] at h
  obtain ⟨A, B, rfl, o, r2, nd, dis, dF⟩ := r1.uncons
  refine tE.mono (runE r2 (((oks.bind (r := mb env1) h).go g1).imp' fun a ha => List.mem_append_right _ ha)) fun y H2 ⟨F2, u, env2, N2, e2', r3, g2⟩ => ?_
  obtain ⟨r4, g3⟩ := Rel.framed o nd dis dF g2 r3
  obtain ⟨A2, B2, hN, o2, r5, _, _, _⟩ := r4.uncons
  obtain ⟨A3, B3, hN3, o3, r6, _, _, _⟩ := r5.uncons
  refine ⟨F2, t, u, env2, B3, ?_, o2.vw, o3.vw, r6, (g1.trans g3).sub fun a ha => ?_⟩
  · unfold e2; simp only [e1, Rs.bind, e2']
  · rw [hN, hN3]; simp [ha]
def eBin (f : T → T → Option T) (ma mb : EM) : EM := e2 ma mb fun t u env => (Rs.of (f t u)).bind fun r => .ok (r, env)
theorem se_bin {op : Operator} {f : T → T → Option T} (ho : OpR X (binaryOp op) (rO X.K f)) (ha : SE X ct EX a ma) (hb : SE X ct EX b mb) : SE X ct EX (.BinOp a op b pos) (eBin f ma mb) :=
  PE.imp (pe_op ho ha hb) fun σ H Q ⟨F, env, M, rel, q⟩ => by
    refine tE.mono (run2 rel (atE.oks q)) fun x H1 h1 => tE.mono h1 fun y H2 ⟨F2, t, u, env2, N, eq, v1, v2, r2, g2⟩ => ?_
    unfold eBin at q
    rw [eq] at q
    cases e : f t u with
    | none => rw [e] at q; exact q.elim
    | some r => rw [e] at q; exact ⟨F2, t, u, r, r2.sub, v1, v2, e, fin_out r2 g2 q⟩
def eCmp (f : T → T → Option Bool) (ma mb : EM) : EM := e2 ma mb fun t u env => (Rs.of (f t u)).bind fun r => .ok (.d (.bool r), env)
theorem se_cmp {op : CmpOp} {f : T → T → Option Bool} (ho : OpR X (compareOp op) (rC X.K f)) (ha : SE X ct EX a ma) (hb : SE X ct EX b mb) (hm : behindInMarks op b = false) : SE X ct EX (.Compare a [op] [b] pos) (eCmp f ma mb) :=
  PE.imp (pe_cmpR ho ha hb hm) fun σ H Q ⟨F, env, M, rel, q⟩ => by
    refine tE.mono (run2 rel (atE.oks q)) fun x H1 h1 => tE.mono h1 fun y H2 ⟨F2, t, u, env2, N, eq, v1, v2, r2, g2⟩ => ?_
    unfold eCmp at q
    rw [eq] at q
    cases e : f t u with
    | none => rw [e] at q; exact q.elim
    | some r => rw [e] at q; exact ⟨F2, t, u, r, r2.sub, v1, v2, e, (fin_out r2 g2 q).bl r2.sub⟩
def eCmpT (f : T → T → Option Bool) (ma mb : EM) : Env → Rs (Bool × Env) := e2 ma mb fun t u env => (Rs.of (f t u)).bind fun r => .ok (r, env)
theorem ste_cmp {op : CmpOp} {f : T → T → Option Bool} (ho : OpR X (compareOp op) (rC X.K f)) (ha : SE X ct EX a ma) (hb : SE X ct EX b mb) (hm : behindInMarks op b = false) : STE X ct EX (.Compare a [op] [b] pos) (eCmpT f ma mb) :=
  PT.imp (pt_cmpR ho ha hb hm) fun σ H Q ⟨F, env, M, rel, q⟩ => by
    have hk : oks ct EX (eCmpT f ma mb env) H M := by
      cases e : eCmpT f ma mb env with
      | ok t => trivial
      | ex c => rw [e] at q; exact q
      | no => rw [e] at q; exact q
    refine tE.mono (run2 rel hk) fun x H1 h1 => tE.mono h1 fun y H2 ⟨F2, t, u, env2, N, eq, v1, v2, r2, g2⟩ => ?_
    unfold eCmpT at q
    rw [eq] at q
    cases e : f t u with
    | none => rw [e] at q; exact q.elim
    | some r => rw [e] at q; exact ⟨F2, t, u, r, r2.sub, v1, v2, e, r, rfl, q F2 H2 N r2 g2⟩
/-! one part, then what comes of it -/
theorem run1 {α : Type} {K : PySem.W.Frag} {F H : Hp} {env : Env} {σ : Sg} {M : List Addr} {g : T × Env → Rs α} (rel : Rel K F H env σ M) (h : oks ct EX ((ma env).bind g) H M) :
    tE K ct EX ma σ H fun x H1 => ∃ F1 t env1 N, ma env = .ok (t, env1) ∧ Vw K F1 H1 t x ∧ Rel K F1 H1 env1 σ N ∧ Go F H M F1 H1 N :=
  tE.mono (runE rel (oks.bind h)) fun x H1 ⟨F1, t, env1, N, e1, r1, g1⟩ => by
    obtain ⟨A, B, rfl, o, r2, _, _, _⟩ := r1.uncons
    exact ⟨F1, t, env1, B, e1, o.vw, r2, g1.sub fun a ha => List.mem_append_right _ ha⟩
def eApp (f : List T → Option T) (ms : EMs) : EM := fun env => (ms env).bind fun p => (Rs.of (f p.1)).bind fun r => .ok (r, p.2)
theorem eapp_core {K : PySem.W.Frag} {F H : Hp} {env : Env} {σ : Sg} {M : List Addr} {Q : VK} {f : List T → Option T} (rel : Rel K F H env σ M) (q : atE K ct EX (eApp f ms env) F H σ M Q) : tEs K ct EX ms σ H fun xs H1 => rA K f xs H1 Q := by
  refine tEs.mono (runEs rel (atE.fst (g := fun p => (Rs.of (f p.1)).bind fun r => .ok (r, p.2)) q)) fun xs H1 ⟨F1, ts, env1, N, e1, r1, hl, g1⟩ => ?_
  unfold eApp at q
  rw [e1] at q
  obtain ⟨v1, B, r2, sB⟩ := r1.drops hl
  cases e : f ts with
  | none => simp only [Rs.bind, e, Rs.of] at q; exact q.elim
  | some r => simp only [Rs.bind, e, Rs.of] at q; exact ⟨F1, ts, r, r2.sub, v1, e, fin_out r2 (g1.sub sB) q⟩
theorem se_callB {x : Str} {id : String} {p : Pos} {f : List T → Option T} (hc : CallR X (.builtin id) (rA X.K f)) (hg : Gl X x) (hm : X.mg x = none) (hv : bootBuiltins x = some (.builtin id)) (ha : SEs X ct EX (e :: es) ms) (hn : x ≠ "__name__" := by decide) (hdb : (x == ("__debug__" : Str)) = false := by decide)
    (hs : starEach (e :: es) X.env = (false, eval e X.env) :: starEach es X.env := by rfl) (hpl : (backTo pos (starEach es X.env)).any (·.1) = false := by rfl) : SE X ct EX (.Call (.Name x p) (e :: es) [] pos) (eApp f ms) :=
  PE.imp (pe_callB hc hg hm hv ha hn hdb hs hpl) fun σ H Q ⟨F, env, M, rel, q⟩ => eapp_core rel q
theorem se_callT {x : Str} {id : String} {p : Pos} {f : List T → Option T} (hc : CallR X (.type id) (rA X.K f)) (hg : Gl X x) (hm : X.mg x = none) (hv : bootBuiltins x = some (.type id)) (ha : SEs X ct EX (e :: es) ms) (hn : x ≠ "__name__" := by decide) (hdb : (x == ("__debug__" : Str)) = false := by decide)
    (hs : starEach (e :: es) X.env = (false, eval e X.env) :: starEach es X.env := by rfl) (hpl : (backTo pos (starEach es X.env)).any (·.1) = false := by rfl) : SE X ct EX (.Call (.Name x p) (e :: es) [] pos) (eApp f ms) :=
  PE.imp (pe_callTy hc hg hm hv ha hn hdb hs hpl) fun σ H Q ⟨F, env, M, rel, q⟩ => eapp_core rel q
/-! displays: what they hold is let in (tuples), or held (lists) -/
def eTupS (ms : EMs) : EM := fun env => (ms env).bind fun p => if p.1.length ≤ sizeLine then .ok (.d (.tuple (T.frzs p.1)), p.2) else .no
def eLstS (ms : EMs) : EM := fun env => (ms env).bind fun p => if p.1.length ≤ sizeLine then .ok (.l p.1, p.2) else .no
/-- cells A of one's own let into the kept heap -/
theorem Rel.letIn {K : PySem.W.Frag} {F H : Hp} {env : Env} {σ : Sg} {A B : List Addr} (r : Rel K F H env σ B) (dis : ∀ a ∈ A, a ∉ B) (th : ∀ a ∈ A, ∃ vs, H a = some (.lst vs)) : Rel K (join F H A) H env σ B :=
  ⟨join_sub r.sub, r.tb.join th, r.own.keep (join_ge r.sub) fun a _ o e => e, r.nd, fun a ha => by rw [join_out (fun z => dis a z ha)]; exact r.dis a ha⟩
theorem Go.letIn {F H F1 H1 : Hp} {M N A : List Addr} (g : Go F H M F1 H1 N) (s : Same F1 H1) (hA : ∀ a ∈ A, a ∈ N) : Go F H M (join F1 H1 A) H1 N :=
  ⟨g.f.trans (join_ge s), g.k, fun a o e => by
    by_cases h : a ∈ A
    · exact .inr (g.m a (hA a h))
    · rw [join_out h] at e; exact g.n a o e, g.m⟩
theorem se_tup {x1} (ha : SEs X ct EX es ms) : SE X ct EX (.Tuple es x1 pos) (eTupS ms) :=
  PE.imp (pe_tup ha) fun σ H Q ⟨F, env, M, rel, q⟩ => by
    refine tEs.mono (runEs rel (atE.fst (g := fun p => if p.1.length ≤ sizeLine then .ok (.d (.tuple (T.frzs p.1)), p.2) else .no) q)) fun xs H1 ⟨F1, ts, env1, N, e1, r1, hl, g1⟩ => ?_
    unfold eTupS at q
    rw [e1] at q
    simp only [Rs.bind] at q
    split at q
    · rename_i hz
      refine ⟨by rw [← hl]; exact hz, fun p np => ?_⟩
      obtain ⟨A, B, rfl, o, r2, nd, dis, dF⟩ := r1.unconsS hl
      have r3 := r2.letIn dis fun a ha => r1.there a (List.mem_append_left _ ha)
      have g3 := (g1.letIn r2.sub (A := A) fun a ha => List.mem_append_left _ ha).sub (N' := B) fun a ha => List.mem_append_right _ ha
      have x := Ext.lay (o := .tup xs) r3.sub np
      have d : DpAll X.K (join F1 H1 A) xs (T.frzs ts) := Ows.frz r2.sub o
      obtain ⟨r4, g4⟩ := r3.new x Fresh.nil (.d (.tup (.inl (.inl upd_same)) (DpAll.mono (Same.upd_new (r3.sub.free np)) d)))
      exact q _ _ (.ref p) _ r4 (g3.trans g4)
    · exact q.elim
theorem se_lst (ha : SEs X ct EX es ms) : SE X ct EX (.List es pos) (eLstS ms) :=
  PE.imp (pe_lst ha) fun σ H Q ⟨F, env, M, rel, q⟩ => by
    refine tEs.mono (runEs rel (atE.fst (g := fun p => if p.1.length ≤ sizeLine then .ok (.l p.1, p.2) else .no) q)) fun xs H1 ⟨F1, ts, env1, N, e1, r1, hl, g1⟩ => ?_
    unfold eLstS at q
    rw [e1] at q
    simp only [Rs.bind] at q
    split at q
    · rename_i hz
      refine ⟨by rw [← hl]; exact hz, fun p np => ?_⟩
      have x := Ext.own (o := .lst xs) r1.sub np
      obtain ⟨A, B, rfl, o, r2, nd, dis, dF⟩ := (r1.ext x).unconsS hl
      have pn : p ∉ A ++ B := fun h => by obtain ⟨vs, e⟩ := r1.there p h; rw [np] at e; cases e
      have r4 := r2.cons (A := p :: A) (.l upd_same o) (List.nodup_cons.mpr ⟨fun h => pn (List.mem_append_left _ h), nd⟩) (fun a ha hb => by
        rcases List.mem_cons.mp ha with z | z
        · subst z; exact pn (List.mem_append_right _ hb)
        · exact dis a z hb) (fun a ha => by
        rcases List.mem_cons.mp ha with z | z
        · subst z; exact r1.sub.free np
        · exact dF a z)
      have g2 := g1.trans (x.go (M := A ++ B))
      refine q _ _ (.ref p) _ r4 ⟨g2.f, g2.k, g2.n, fun a ha => ?_⟩
      rcases List.mem_cons.mp (show a ∈ p :: (A ++ B) from ha) with z | z
      · subst z
        by_cases h : a ∈ M
        · exact .inl h
        · cases e : H a with
          | none => exact .inr rfl
          | some o => rw [g1.k.d a h np] at e; cases e
      · exact g2.m a z
    · exact q.elim
/-! x[i] of new things: what one reads must be kept -/
def tD (t : T) : Rs T := match t with
  | .d x => .ok (.d x)
  | .l _ => .no
def eIx (ma mb : EM) : EM := e2 ma mb fun t u env => (Rs.of (iGet t u)).bind fun r => (tD r).bind fun r => .ok (r, env)
theorem se_ix (ha : SE X ct EX a ma) (hb : SE X ct EX b mb) (hs : PlainIx b) : SE X ct EX (.Subscript a b pos) (eIx ma mb) :=
  PE.imp (pe_ix ixr_get ha hb hs) fun σ H Q ⟨F, env, M, rel, q⟩ => by
    refine tE.mono (run2 rel (atE.oks q)) fun x H1 h1 => tE.mono h1 fun y H2 ⟨F2, t, u, env2, N, eq, v1, v2, r2, g2⟩ => ?_
    unfold eIx at q
    rw [eq] at q
    cases e : iGet t u with
    | none => rw [e] at q; exact q.elim
    | some r =>
      rw [e] at q
      cases r with
      | l _ => exact q.elim
      | d r => exact ⟨F2, t, u, .d r, r2.sub, v1, v2, e, fun z vz => by cases vz with | d dz => exact (fin_out r2 g2 q).dat r2.sub dz⟩
def eUn (f : T → Option T) (ma : EM) : EM := fun env => (ma env).bind fun p => (Rs.of (f p.1)).bind fun r => .ok (r, p.2)
/-! tests -/
theorem atTE.oks {K : PySem.W.Frag} {F H : Hp} {σ : Sg} {M : List Addr} {r : Rs (Bool × Env)} {Q : Bool → Hp → Prop} (h : atTE K ct EX r F H σ M Q) : oks ct EX r H M := by
  cases r with
  | ok t => trivial
  | ex c => exact h
  | no => exact h
def eTest (p : Env → Rs Bool) : Env → Rs (Bool × Env) := fun env => (p env).bind fun k => .ok (k, env)
theorem STt.en {p : Env → Rs Bool} (h : STt X ct EX e p) : STE X ct EX e (eTest p) := PT.imp h fun σ H Q ⟨F, env, M, rel, q⟩ => by
  refine ⟨F, env, M, rel, ?_⟩
  unfold eTest at q
  cases e : p env with
  | ok t => rw [e] at q; exact fun F' H' x => q F' H' M (rel.ext x) x.go
  | ex c => rw [e] at q; exact q
  | no => rw [e] at q; exact q
def eTrue (ma : EM) : Env → Rs (Bool × Env) := fun env => (ma env).bind fun p => (tTrue p.1).bind fun k => .ok (k, p.2)
theorem ste_val (ha : SE X ct EX e ma) (he : ∀ whole, isTrue e X.env whole = (do let v ← whole; standAt e.pos; holding [v] (truthy v)) := by intro _; rfl) : STE X ct EX e (eTrue ma) :=
  PT.imp (pt_val ha he) fun σ H Q ⟨F, env, M, rel, q⟩ => by
    refine tE.mono (run1 rel (atTE.oks q)) fun x H1 ⟨F1, t, env1, N, e1, v1, r1, g1⟩ => ?_
    unfold eTrue at q
    rw [e1] at q
    simp only [Rs.bind] at q
    rcases tTrue_no (t := t) with ⟨b, e⟩ | e
    · rw [e] at q; exact ⟨b, tTrue_inv v1 e, q F1 H1 N r1 g1⟩
    · rw [e] at q; exact q.elim
def eNotT (p : Env → Rs (Bool × Env)) : Env → Rs (Bool × Env) := fun env => (p env).bind fun k => .ok (!k.1, k.2)
def eIf (c : Env → Rs (Bool × Env)) (ma mb : EM) : EM := fun env => (c env).bind fun k => if k.1 then ma k.2 else mb k.2
theorem runTE {K : PySem.W.Frag} {F H : Hp} {env : Env} {σ : Sg} {M : List Addr} {p : Env → Rs (Bool × Env)} (rel : Rel K F H env σ M) (h : oks ct EX (p env) H M) :
    tTE K ct EX p σ H fun k H1 => ∃ F1 env1 N, p env = .ok (k, env1) ∧ Rel K F1 H1 env1 σ N ∧ Go F H M F1 H1 N := by
  refine ⟨F, env, M, rel, ?_⟩
  cases e : p env with
  | ok t => exact fun F1 H1 N r g => ⟨F1, t.2, N, rfl, r, g⟩
  | ex c => rw [e] at h; exact h
  | no => rw [e] at h; exact h
theorem tTE.mono {K : PySem.W.Frag} {σ : Sg} {H : Hp} {p : Env → Rs (Bool × Env)} {Q Q' : Bool → Hp → Prop} (h : tTE K ct EX p σ H Q) (i : ∀ v H, Q v H → Q' v H) : tTE K ct EX p σ H Q' := by
  obtain ⟨F, env, M, r, q⟩ := h
  refine ⟨F, env, M, r, ?_⟩
  cases e : p env with
  | ok t => rw [e] at q; exact fun F2 H2 N y g => i _ _ (q F2 H2 N y g)
  | ex c => rw [e] at q; exact q
  | no => rw [e] at q; exact q
theorem atE.go {K : PySem.W.Frag} {F H F1 H1 : Hp} {σ : Sg} {M N : List Addr} {r : Rs (T × Env)} {Q : VK} (h : atE K ct EX r F H σ M Q) (g : Go F H M F1 H1 N) : atE K ct EX r F1 H1 σ N Q := by
  cases r with
  | ok t => exact fun F2 H2 v N2 y g2 => h F2 H2 v N2 y (g.trans g2)
  | ex c => exact exq.go h g
  | no => exact h
theorem se_if {tc : Env → Rs (Bool × Env)} (hc : STE X ct EX c tc) (ha : SE X ct EX a ma) (hb : SE X ct EX b mb) : SE X ct EX (.IfExp c a b pos) (eIf tc ma mb) :=
  PE.imp (pe_ifExp hc ha hb) fun σ H Q ⟨F, env, M, rel, q⟩ => by
    refine tTE.mono (runTE rel (oks.bind (r := tc env) (atE.oks q))) fun k H1 ⟨F1, env1, N, e1, r1, g1⟩ => ?_
    unfold eIf at q
    rw [e1] at q
    cases k with
    | true => exact ⟨F1, env1, N, r1, q.go g1⟩
    | false => exact ⟨F1, env1, N, r1, q.go g1⟩
end
end Mi

set_option maxHeartbeats 200000
namespace Mi
open PySem PySem.Spec PyProof.Rows L2
variable [Tb]

section
variable {K : PySem.W.Frag} {F H F' H' F1 H1 F2 H2 : Hp} {env env' env1 env2 : Env} {σ σ' : Sg} {M M' N N' N1 A B C : List Addr} {t u r : T} {v : V} {Q : VK}
/-- a slot, and what may be put there (the name still means the same address) -/
theorem Sl.at : ∀ {env : Env} {σ : Sg} {M : List Addr}, Sl K F H env σ M → ∀ {i : Nat} {t : T}, env[i]? = some (some t) → ∃ v A B C, σ[i]? = some (some v) ∧ M = A ++ B ++ C ∧ Ow K F H t v B ∧
    ∀ F' H', Same F F' → (∀ a ∈ A ++ C, ∀ o, H a = some o → H' a = some o) → Sl K F' H' (env.set i none) σ (A ++ C) ∧ ∀ t' N', Ow K F' H' t' v N' → Sl K F' H' (env.set i (some t')) σ (A ++ N' ++ C)
  | _, _, _, .z, _, _, e => by cases e
  | _, _, _, .u h, 0, _, e => by cases e
  | _, _, _, .s (M := M1) (N := N1) h hs, 0, t, e => by
    cases e
    refine ⟨_, [], M1, N1, rfl, rfl, h, fun F' H' sF kp => ?_⟩
    have q := hs.keep sF (H' := H') kp
    exact ⟨.u q, fun t' N' o => .s o q⟩
  | _, _, _, .u h, i + 1, t, e => by
    obtain ⟨v, A, B, C, e1, eM, o, q⟩ := Sl.at h (i := i) (by simpa using e)
    refine ⟨v, A, B, C, by simpa using e1, eM, o, fun F' H' sF kp => ?_⟩
    obtain ⟨q1, q2⟩ := q F' H' sF kp
    exact ⟨.u q1, fun t' N' o => .u (q2 t' N' o)⟩
  | _, _, _, .s (M := M1) h hs, i + 1, t, e => by
    obtain ⟨v, A, B, C, e1, eM, o, q⟩ := Sl.at hs (i := i) (by simpa using e)
    subst eM
    refine ⟨v, M1 ++ A, B, C, by simpa using e1, by simp, o, fun F' H' sF kp => ?_⟩
    obtain ⟨q1, q2⟩ := q F' H' sF (fun a ha o e => kp a (by simp at ha ⊢; rcases ha with z | z <;> simp [z]) o e)
    have h' := h.keep sF (H' := H') (fun a ha o e => kp a (by simp [ha]) o e)
    exact ⟨by rw [List.append_assoc]; exact .s h' q1, fun t' N' o => by
      have := Sl.s h' (q2 t' N' o)
      rw [show M1 ++ A ++ N' ++ C = M1 ++ (A ++ N' ++ C) by simp]; exact this⟩
/-- a slot that is empty here, its name bound -/
theorem Sl.atU : ∀ {env : Env} {σ : Sg} {M : List Addr}, Sl K F H env σ M → ∀ {i : Nat} {v : V}, env[i]? = some none → σ[i]? = some (some v) → ∃ A C, M = A ++ C ∧ ∀ t' N', Ow K F H t' v N' → Sl K F H (env.set i (some t')) σ (A ++ N' ++ C)
  | _, _, _, .z, _, _, e, _ => by cases e
  | _, _, _, .u (M := M1) h, 0, v, e, e2 => by
    cases e2
    exact ⟨[], M1, rfl, fun t' N' o => .s o h⟩
  | _, _, _, .s h hs, 0, _, e, _ => by cases e
  | _, _, _, .u h, i + 1, v, e, e2 => by
    obtain ⟨A, C, eM, q⟩ := Sl.atU h (i := i) (by simpa using e) (by simpa using e2)
    exact ⟨A, C, eM, fun t' N' o => .u (q t' N' o)⟩
  | _, _, _, .s (M := M1) h hs, i + 1, v, e, e2 => by
    obtain ⟨A, C, eM, q⟩ := Sl.atU hs (i := i) (by simpa using e) (by simpa using e2)
    subst eM
    refine ⟨M1 ++ A, C, by simp, fun t' N' o => ?_⟩
    have := Sl.s h (q t' N' o)
    rw [show M1 ++ A ++ N' ++ C = M1 ++ (A ++ N' ++ C) by simp]; exact this
theorem mid {α : Type} {A B C : List α} (h : (A ++ B ++ C).Nodup) : (A ++ C).Nodup ∧ B.Nodup ∧ (∀ a ∈ B, a ∉ A ++ C) := by
  simp only [List.nodup_append, List.mem_append] at h ⊢
  obtain ⟨⟨nA, nB, dAB⟩, nC, dC⟩ := h
  refine ⟨⟨nA, nC, fun a ha b hb => dC a (.inl ha) b hb⟩, nB, fun a ha h => ?_⟩
  rcases h with h | h
  · exact dAB a h a ha rfl
  · exact dC a (.inr ha) a h rfl
theorem mid' {α : Type} {A B C : List α} (h : (A ++ C).Nodup) (n : B.Nodup) (d : ∀ a ∈ B, a ∉ A ++ C) : (A ++ B ++ C).Nodup := by
  simp only [List.nodup_append, List.mem_append] at h d ⊢
  obtain ⟨nA, nC, dAC⟩ := h
  refine ⟨⟨nA, n, fun a ha b hb e => d b hb (.inl (e ▸ ha))⟩, nC, fun a ha b hb e => ?_⟩
  rcases ha with ha | ha
  · exact dAC a ha b hb e
  · exact d a ha (.inr (e ▸ hb))
/-- taken out of its slot -/
theorem Rel.take (r : Rel K F H env σ M) {i : Nat} (e : env[i]? = some (some t)) : ∃ v B M', σ[i]? = some (some v) ∧ Ow K F H t v B ∧ Rel K F H (env.set i none) σ M' ∧ B.Nodup ∧ (∀ a ∈ B, a ∉ M') ∧ (∀ a ∈ B, F a = none) ∧ (∀ a ∈ B, a ∈ M) ∧ ∀ a ∈ M', a ∈ M := by
  obtain ⟨v, A, B, C, e1, rfl, o, q⟩ := r.own.at e
  obtain ⟨q1, q2⟩ := q F H (Same.refl _) fun _ _ _ e => e
  obtain ⟨n1, n2, n3⟩ := mid r.nd
  have sub : ∀ a ∈ A ++ C, a ∈ A ++ B ++ C := fun a ha => by simp at ha ⊢; rcases ha with z | z <;> simp [z]
  exact ⟨v, B, A ++ C, e1, o, ⟨r.sub, r.tb, q1, n1, fun a ha => r.dis a (sub a ha)⟩, n2, n3, fun a ha => r.dis a (by simp [ha]), fun a ha => by simp [ha], sub⟩
/-- put back into an empty slot whose name means it -/
theorem Rel.back (r : Rel K F H env σ M) {i : Nat} (e : env[i]? = some none) (e2 : σ[i]? = some (some v)) (o : Ow K F H t v B) (nd : B.Nodup) (dis : ∀ a ∈ B, a ∉ M) (dF : ∀ a ∈ B, F a = none) : ∃ M', Rel K F H (env.set i (some t)) σ M' ∧ (∀ a ∈ M', a ∈ B ∨ a ∈ M) := by
  obtain ⟨A, C, rfl, q⟩ := r.own.atU e e2
  refine ⟨A ++ B ++ C, ⟨r.sub, r.tb, q t B o, mid' r.nd nd dis, fun a ha => ?_⟩, fun a ha => ?_⟩
  · simp only [List.mem_append] at ha
    rcases ha with (ha | ha) | ha
    · exact r.dis a (by simp [ha])
    · exact dF a ha
    · exact r.dis a (by simp [ha])
  · simp only [List.mem_append] at ha ⊢
    rcases ha with (ha | ha) | ha
    · exact .inr (.inl ha)
    · exact .inl ha
    · exact .inr (.inr ha)
end

section
variable {X : Cx} {ct : Nat → Addr} {EX : XK} {a b c e : Expr} {es : List Expr} {pa pb pc : PM} {ma mb mc m : EM} {ps : PMs} {ms : EMs} {pos : Pos}
/-- a name's list let into the kept heap; the name keeps it -/
def eFrz (i : Nat) : EM := fun env => match env[i]? with
  | some (some t) => .ok (.d t.frz, env.set i (some (.d t.frz)))
  | _ => .no
theorem se_frz (i : Nat) {x : Str} (hN : X.N[i]? = some x := by rfl) (hv : Vis X.env.scope x := by first | exact Or.inl rfl | exact Or.inr (Or.inl rfl) | exact Or.inr (Or.inr rfl)) (hd : (x == ("__debug__" : Str)) = false := by decide)
    (hcd : (x == ("__classdict__" : Str)) = false := by decide) : SE X ct EX (.Name x pos) (eFrz i) := PE.imp (pe_var hN hv hd hcd) fun σ H Q ⟨F, env, M, rel, q⟩ => by
  unfold eFrz at q
  split at q
  · rename_i t e
    obtain ⟨v, A, B, C, e1, eM, o, k⟩ := rel.own.at e
    subst eM
    refine ⟨v, e1, ?_⟩
    obtain ⟨n1, n2, n3⟩ := mid rel.nd
    have s2 := join_sub rel.sub (M := B)
    have d : Dp X.K (join F H B) v t.frz := Ow.frz rel.sub o
    obtain ⟨_, k2⟩ := k (join F H B) H (join_ge rel.sub) fun _ _ _ e => e
    have sl := k2 (.d t.frz) [] (.d d)
    rw [List.append_nil] at sl
    have sub : ∀ a ∈ A ++ C, a ∈ A ++ B ++ C := fun a ha => by simp at ha ⊢; rcases ha with z | z <;> simp [z]
    have r2 : Rel X.K (join F H B) H (env.set i (some (.d t.frz))) σ (A ++ C) := ⟨s2, rel.tb.join fun a ha => rel.there a (by simp [ha]), sl, n1, fun a ha => by rw [join_out (fun z => n3 a z ha)]; exact rel.dis a (sub a ha)⟩
    have g : Go F H (A ++ B ++ C) (join F H B) H (A ++ C) := ((Go.refl rel.sub).letIn rel.sub (A := B) fun a ha => by simp [ha]).sub sub
    exact q _ _ v _ (r2.cons (A := []) (.d d) .nil (fun _ h => nomatch h) fun _ h => nomatch h) g
  · exact q.elim
/-- a name's list taken away (the name is not read again before it is bound anew) -/
def eMov (i : Nat) : EM := fun env => match env[i]? with
  | some (some t) => .ok (t, env.set i none)
  | _ => .no
theorem se_mov (i : Nat) {x : Str} (hN : X.N[i]? = some x := by rfl) (hv : Vis X.env.scope x := by first | exact Or.inl rfl | exact Or.inr (Or.inl rfl) | exact Or.inr (Or.inr rfl)) (hd : (x == ("__debug__" : Str)) = false := by decide)
    (hcd : (x == ("__classdict__" : Str)) = false := by decide) : SE X ct EX (.Name x pos) (eMov i) := PE.imp (pe_var hN hv hd hcd) fun σ H Q ⟨F, env, M, rel, q⟩ => by
  unfold eMov at q
  split at q
  · rename_i t e
    obtain ⟨v, B, M', e1, o, r2, nd, dis, dF, s1, s2⟩ := rel.take e
    exact ⟨v, e1, q F H v _ (r2.cons o nd dis dF) ((Go.refl rel.sub).sub fun a ha => (List.mem_append.mp ha).elim (s1 a) (s2 a))⟩
  · exact q.elim

/-! ### calls of the program's own -/
abbrev FM := List T → Rs (T × List (Option T))
/-- what a def promises: from its parameters' things its result, and its parameters' things as they are behind -/
def spM (K : PySem.W.Frag) (ct : Nat → Addr) (n : Nat) (f : FM) : Sp := fun vs H Q E => ∃ F ts M, vs.length = n ∧ (Same F H ∧ TbOk F H) ∧ Ows K F H ts vs M ∧ M.Nodup ∧ (∀ a ∈ M, F a = none) ∧ match f ts with
  | .ok (r, us) => ∀ F' H' v N, Rel K F' H' (some r :: us) (some v :: vs.map some) N → Go F H M F' H' N → Q v H'
  | .ex c => exq ct E H M c
  | .no => False
def outs (io : List Nat) : Nat → Nat → Env → List (Option T)
  | 0, _, _ => []
  | n + 1, i, o :: env => (if io.contains i then o else none) :: outs io n (i + 1) env
  | n + 1, i, [] => none :: outs io n (i + 1) []
def fnM (nP nL : Nat) (io : List Nat) (body : SM) : FM := fun ts => match body (ts.map some ++ List.replicate nL none) with
  | .ok (.rt r, env) => .ok (r, outs io nP 0 env)
  | .ok (.nx, env) => .ok (.d .none, outs io nP 0 env)
  | .ex c => .ex c
  | .no => .no
theorem outs_len (io : List Nat) : ∀ (n i : Nat) (env : Env), (outs io n i env).length = n
  | 0, _, _ => rfl
  | n + 1, i, o :: env => by rw [outs, List.length_cons, outs_len io n]
  | n + 1, i, [] => by rw [outs, List.length_cons, outs_len io n]
/-- of the slots only the in-out parameters' are looked at behind the call -/
theorem Sl.outs {K : PySem.W.Frag} {F H : Hp} {io : List Nat} : ∀ {n i : Nat} {env : Env} {σ : Sg} {M : List Addr} (σ0 : Sg), Sl K F H env σ M → (∀ j, j < n → io.contains (i + j) = true → σ[j]? = σ0[j]?) → σ0.length = n →
    ∃ M', M'.Sublist M ∧ Sl K F H (Mi.outs io n i env) σ0 M' := by
  intro n
  induction n with
  | zero => intro i env σ M σ0 s hj h1; cases σ0 with
    | nil => exact ⟨[], List.nil_sublist _, .z⟩
    | cons _ _ => cases h1
  | succ n ih =>
    intro i env σ M σ0 s hj h1
    cases σ0 with
    | nil => cases h1
    | cons y σ0 =>
      cases s with
      | z =>
        obtain ⟨M', sM, q⟩ := ih (i := i + 1) (env := []) (σ := []) σ0 .z (fun j hl hc => by have := hj (j + 1) (by omega) (by rw [show i + (j + 1) = i + 1 + j by omega]; exact hc); simpa using this) (by simpa using h1)
        exact ⟨M', sM, by rw [Mi.outs]; exact .u q⟩
      | @u env1 σ1 M1 x s =>
        obtain ⟨M', sM, q⟩ := ih (i := i + 1) σ0 s (fun j hl hc => by have := hj (j + 1) (by omega) (by rw [show i + (j + 1) = i + 1 + j by omega]; exact hc); simpa using this) (by simpa using h1)
        refine ⟨M', sM, ?_⟩
        rw [Mi.outs]
        split <;> exact .u q
      | @s env1 σ1 Ma Mb t v o s =>
        obtain ⟨M', sM, q⟩ := ih (i := i + 1) σ0 s (fun j hl hc => by have := hj (j + 1) (by omega) (by rw [show i + (j + 1) = i + 1 + j by omega]; exact hc); simpa using this) (by simpa using h1)
        rw [Mi.outs]
        split
        · rename_i hc
          have := hj 0 (by omega) hc
          simp at this
          subst this
          exact ⟨Ma ++ M', (List.Sublist.refl _).append sM, .s o q⟩
        · exact ⟨M', sM.trans (List.sublist_append_right _ _), .u q⟩
theorem Sl.emptyL {K : PySem.W.Frag} {F H : Hp} (n : Nat) : Sl K F H (List.replicate n none) (List.replicate n none) [] := by
  induction n with
  | zero => exact .z
  | succ n ih => exact .u ih
theorem Sl.startL {K : PySem.W.Frag} {F H : Hp} {ts : List T} {vs : List V} {M : List Addr} (o : Ows K F H ts vs M) (n : Nat) : Sl K F H (ts.map some ++ List.replicate n none) (vs.map some ++ List.replicate n none) M := by
  induction ts generalizing vs M with
  | nil => cases o; exact Sl.emptyL n
  | cons t ts ih => cases o with | cons o os => exact .s o (ih os)
/-- from the body's walk the def's promise -/
theorem fn_ok {P : Program} {w : World} {K : PySem.W.Frag} {mg : Str → Option Value} {base : Heap} {ct : Nat → Addr} {N ps : List Str} {qual : Str} {sc : Scope} {f : Addr} {cdv : Value} {A : Around} {outer : List PySem.Env} {s : Shared} {H : Hp} {vs : List V} {Q : VK} {E : XK} {io : List Nat} {body : SM} {sts : List Stmt} {nP nL : Nat}
    (hnP : nP = ps.length) (hN : N.length = nP + nL) (hb : SSs (cxOf (L2.CX P w) P w K mg base N qual sc f cdv A outer s H E) ct E io sts body) (hsp : spM K ct nP (fnM nP nL io body) vs H Q E) :
    ∃ t, PSs (cxOf (L2.CX P w) P w K mg base N qual sc f cdv A outer s H E) sts t ∧ t { nx := fun _ H' => Q .non H', rt := Q } (L2.start N vs) H := by
  refine ⟨_, hb, ?_⟩
  obtain ⟨F, ts, M, hl, sub, o, nd, dF, q⟩ := hsp
  have hst : L2.start N vs = vs.map some ++ List.replicate nL none := by unfold L2.start; rw [hN, hl, Nat.add_sub_cancel_left]
  rw [hst]
  have rel : Rel K F H (ts.map some ++ List.replicate nL none) (vs.map some ++ List.replicate nL none) M := ⟨sub.1, sub.2, Sl.startL o nL, nd, dF⟩
  refine ⟨F, _, M, rel, ?_⟩
  unfold fnM at q
  have fin : ∀ {F' H' : Hp} {env' : Env} {σ' : Sg} {N' : List Addr}, Rel K F' H' env' σ' N' → Pn io (vs.map some ++ List.replicate nL none) σ' → ∃ M2, Rel K F' H' (outs io nP 0 env') (vs.map some) M2 ∧ ∀ a ∈ M2, a ∈ N' := fun {F' H' env' σ' N'} r pn => by
    obtain ⟨M2, sM, sl⟩ := Sl.outs (io := io) (i := 0) (vs.map some) r.own (fun j hj hc => by
      rw [Nat.zero_add] at hc
      rw [pn j (by simpa using hc), List.getElem?_append_left (by simpa [hl] using hj)]) (by simp [hl])
    exact ⟨M2, ⟨r.sub, r.tb, sl, r.nd.sublist sM, fun a ha => r.dis a (sM.subset ha)⟩, fun a ha => sM.subset ha⟩
  cases eb : body (ts.map some ++ List.replicate nL none) with
  | ex c => rw [eb] at q; exact q
  | no => rw [eb] at q; exact q
  | ok z =>
    obtain ⟨fl, env'⟩ := z
    rw [eb] at q
    cases fl with
    | nx =>
      intro F' H' σ' N' r g pn
      obtain ⟨M2, r2, s2⟩ := fin r pn
      exact q F' H' .non M2 (r2.cons (A := []) (.d .non) .nil (fun _ h => nomatch h) fun _ h => nomatch h) (g.sub s2)
    | rt t =>
      intro F' H' σ' v N' r g pn
      obtain ⟨A1, B1, rfl, o1, r1, nd1, dis1, dF1⟩ := r.uncons
      obtain ⟨M2, r2, s2⟩ := fin r1 pn
      exact q F' H' v _ (r2.cons o1 nd1 (fun a ha hb => dis1 a ha (s2 a hb)) dF1) (g.sub fun a ha => by
        rcases List.mem_append.mp ha with z | z
        · exact List.mem_append_left _ z
        · exact List.mem_append_right _ (s2 a z))
end
end Mi

set_option maxHeartbeats 200000
namespace Mi
open PySem PySem.Spec PyProof.Rows L2
variable [Tb]
/-! ### a def's promise where nothing is being shown (repr needs to know): the layer's FnOk, the guards told beside -/
structure Fg (P : Program) (w : World) (K : PySem.W.Frag) (mg : Str → Option Value) (base : Heap) (k : Nat) (f : Addr) (fd : FuncData) (ps : List Str) (sp : Sp) : Prop where
  len : ∀ vs H Q E, sp vs H Q E → vs.length = ps.length
  run : ∀ (A : Around) (outer : List PySem.Env) (s : Shared) (H : Hp) (args : Args) (us : List Value) (vs : List V) (Q : VK) (E : XK), Room k A → A.guards = some [] → Env0 P w K mg base A outer s H → BindsTo s fd args (ps.zip us) → Vals vs us → sp vs H Q E →
    codeAny (model P w) A (.call (.ref f) args) (CR (L2.CX P w) outer P w H s Q E) s
theorem Fg.mono {P : Program} {w : World} {K : PySem.W.Frag} {mg : Str → Option Value} {base : Heap} {j k : Nat} {f : Addr} {fd : FuncData} {ps : List Str} {sp : Sp} (F : Fg P w K mg base j f fd ps sp) (h : j ≤ k) : Fg P w K mg base k f fd ps sp :=
  ⟨F.len, fun A outer s H args us vs Q E hr => F.run A outer s H args us vs Q E (hr.mono h)⟩
section
variable {X : Cx} {k : Nat} {f : Addr} {fd : FuncData} {ps : List Str} {sp : Sp} {E : XK} {x : Str} {p pos : Pos} {e : Expr} {es : List Expr} {t : TA}
theorem run_g {pins : List (Addr × Obj)} {σ : L2.St} {H : Hp} {s : Shared} {Q : VK} {us : List Value} {vs : List V} (F : Fg X.prog X.w X.K X.mg X.base k f fd ps sp) (hr : Room k X.A) (hgd : X.A.guards = some []) (hb : Binds X.K fd ps []) (hx : Passes (L2.CX X.prog X.w) X E)
    (I : L2.Inv X pins σ H s) (r : Vals vs us) (h : sp vs H Q E) : wpAny (model X.prog X.w) X.A (call (.ref f) us) (EP X pins σ Q) X.xe s := by
  have hl : us.length = ps.length := by rw [← r.length]; exact F.len _ _ _ _ h
  have b := hb s us I.kIn (by rw [List.append_nil]; exact hl)
  rw [List.append_nil] at b
  refine wpAny_call (codeAny_mono (F.run X.A X.stack s H ⟨us, []⟩ us vs Q E hr hgd I.env0 b r h) fun r s' hq => ?_)
  rcases r with e | fl
  · exact hx pins σ H s e s' I hq
  · cases fl with
    | ret u => exact I.after hq
    | _ => exact False.elim hq
theorem pe_callG (F : Fg X.prog X.w X.K X.mg X.base k f fd ps sp) (hr : Room k X.A) (hgd : X.A.guards = some []) (hg : Gl X x) (hm : X.mg x = some (.ref f)) (hk : PySem.W.keepIn X.K (.ref f) = true) (hb : Binds X.K fd ps []) (hx : Passes (L2.CX X.prog X.w) X E)
    (ha : PA X (e :: es) t) (hdb : (x == ("__debug__" : Str)) = false := by decide) (he : starEach (e :: es) X.env = (false, eval e X.env) :: starEach es X.env := by rfl) (hpl : (backTo pos (starEach es X.env)).any (·.1) = false := by rfl) :
    PE X (.Call (.Name x p) (e :: es) [] pos) (fun σ H Q => t σ H fun vs H1 => sp vs H1 Q E) :=
  ⟨fun pins s σ H Q I h => wpAny_Call_Name_kw (ld_glob I hg hm (PySem.W.callWith_K (h₀ := X.base) I.ok.mod.kin hk (thn (ha.run pos pins s σ H _ I h) fun us s1 ⟨vs, H1, I1, r, q⟩ => ⟨I1.kIn, run_g F hr hgd hb hx I1 r q⟩) he hpl) hdb)⟩
theorem pe_callG0 (F : Fg X.prog X.w X.K X.mg X.base k f fd ps sp) (hr : Room k X.A) (hgd : X.A.guards = some []) (hg : Gl X x) (hm : X.mg x = some (.ref f)) (hk : PySem.W.keepIn X.K (.ref f) = true) (hb : Binds X.K fd ps []) (hx : Passes (L2.CX X.prog X.w) X E)
    (hdb : (x == ("__debug__" : Str)) = false := by decide) : PE X (.Call (.Name x p) [] [] pos) (fun σ H Q => sp [] H Q E) :=
  ⟨fun pins s σ H Q I h => wpAny_Call_Name_kw (ld_glob I hg hm (PySem.W.callWith_K0 I.kIn hk (run_g (us := []) F hr hgd hb hx I .nil h)) hdb)⟩
end
/-- by its body -/
theorem fg_of {P : Program} {w : World} {K : PySem.W.Frag} {mg : Str → Option Value} {base : Heap} {k : Nat} {f : Addr} {name qual : Str} {params : Arguments} {body : List Stmt} {scope : Scope} {dV kV doc pm cdv ct oc : Value} {an od : Option Addr} {osl : Array (Option Value)} {N ps : List Str} {sp : Sp}
    (lk : K.lookup f = some ⟨oc, od, .func (PySem.W.fnOf name qual params body scope dV kV doc pm an cdv ct), osl⟩) (hcd : PySem.W.codeIn K cdv qual = true) (S : FnScope N ps scope) (len : ∀ vs H Q E, sp vs H Q E → vs.length = ps.length)
    (hbody : ∀ (A : Around) (outer : List PySem.Env) (s : Shared) (H : Hp) (vs : List V) (Q : VK) (E : XK), Room k (A.deeper (envOfC qual scope s.heap.objs.size f cdv)) → A.guards = some [] → sp vs H Q E →
      ∃ t, PSs (cxOf (L2.CX P w) P w K mg base N qual scope f cdv A outer s H E) body t ∧ t { nx := fun _ H' => Q .non H', rt := Q } (L2.start N vs) H) :
    Fg P w K mg base (k + 1) f (PySem.W.fnOf name qual params body scope dV kV doc pm an cdv ct) ps sp := by
  refine ⟨len, fun A outer s H args us vs Q E hr hgd e0 hb r hsp => ?_⟩
  have old : ∀ b o, base.get? b = some o → s.heap.get? b = some o := fun b o e => (e0.bs b o e).1
  have lim := e0.mod.nolimit.keeps old
  refine codeAny_call_function hr.depth (e0.mod.kin.keeps old _ _ lk) rfl S.co S.gen rfl (PySem.W.codeRec_of (e0.mod.kin.keeps old) hcd) (hb _ _ _ _ ?_)
  refine wpAny_newFunctionEnv_cells S.kind (fun y hy => ?_) fun env he s1 x => ?_
  · rcases S.par y.1 (List.of_mem_zip hy).1 with q | q
    · exact .inl q
    · exact .inr ⟨q, PySem.W.cellsFrom_some _ _ _ (.inl q)⟩
  subst he
  refine ⟨lim.keeps x.toInCall.keep, codeAny_func ?_⟩
  obtain ⟨t, ht, hq⟩ := hbody A outer s H vs Q E (hr.deeper _) hgd hsp
  refine wpAny_mono (ht.run [] s1 (L2.start N vs) H _ (inv_start S hr.hd e0 (len _ _ _ _ hsp) r x) hq) (fun fl s' hs => ?_) fun e s' hs => hs
  cases fl with
  | ret u =>
    obtain ⟨v, σ', H', J, rv, q⟩ := hs
    exact ⟨v, H', J.os, J.bare, J.base, J.hok, rv, q⟩
  | next =>
    obtain ⟨σ', H', J, q⟩ := hs
    exact ⟨V.non, H', J.os, J.bare, J.base, J.hok, rfl, q⟩
  | brk =>
    obtain ⟨_, _, _, q⟩ := hs
    exact False.elim q
  | cont =>
    obtain ⟨_, _, _, q⟩ := hs
    exact False.elim q
end Mi

set_option maxHeartbeats 200000
namespace Mi
open PySem PySem.Spec PyProof.Rows L2
variable [Tb]

/-! ### arguments, some lent by name -/
def lendOk : List (Option Nat) → Sg → List V → Prop
  | some j :: ls, σ, v :: vs => σ[j]? = some (some v) ∧ lendOk ls σ vs
  | none :: ls, σ, _ :: vs => lendOk ls σ vs
  | [], _, [] => True
  | _, _, _ => False
section
variable (K : PySem.W.Frag) (ct : Nat → Addr) (EX : XK)
def atLs (ls : List (Option Nat)) (r : Rs (List T × Env)) (F H : Hp) (σ : Sg) (M : List Addr) (Q : List V → Hp → Prop) : Prop := match r with
  | .ok (ts, env') => ∀ F' H' vs N, Rel K F' H' (ts.map some ++ env') (vs.map some ++ σ) N → ts.length = vs.length → lendOk ls σ vs → Go F H M F' H' N → Q vs H'
  | .ex c => exq ct EX H M c
  | .no => False
def tLs (ls : List (Option Nat)) (m : EMs) : TA := fun σ H Q => ∃ F env M, Rel K F H env σ M ∧ atLs K ct EX ls (m env) F H σ M Q
end
def SLs (X : Cx) (ct : Nat → Addr) (EX : XK) (es : List Expr) (ls : List (Option Nat)) (m : EMs) : Prop := PA X es (tLs X.K ct EX ls m)
section
variable {X : Cx} {ct : Nat → Addr} {EX : XK} {a b c e : Expr} {es : List Expr} {pa pb pc : PM} {ma mb mc m : EM} {ps : PMs} {ms : EMs} {pos : Pos} {ls : List (Option Nat)}
theorem runLs {K : PySem.W.Frag} {F H : Hp} {env : Env} {σ : Sg} {M : List Addr} (rel : Rel K F H env σ M) (h : oks ct EX (ms env) H M) :
    tLs K ct EX ls ms σ H fun xs H1 => ∃ F1 ts env1 N, ms env = .ok (ts, env1) ∧ Rel K F1 H1 (ts.map some ++ env1) (xs.map some ++ σ) N ∧ ts.length = xs.length ∧ lendOk ls σ xs ∧ Go F H M F1 H1 N := by
  refine ⟨F, env, M, rel, ?_⟩
  cases e : ms env with
  | ok t => exact fun F1 H1 v N r l k g => ⟨F1, t.1, t.2, N, rfl, r, l, k, g⟩
  | ex c => rw [e] at h; exact h
  | no => rw [e] at h; exact h
theorem tLs.mono {K : PySem.W.Frag} {σ : Sg} {H : Hp} {Q Q' : List V → Hp → Prop} (h : tLs K ct EX ls ms σ H Q) (i : ∀ v H, Q v H → Q' v H) : tLs K ct EX ls ms σ H Q' := by
  obtain ⟨F, env, M, r, q⟩ := h
  refine ⟨F, env, M, r, ?_⟩
  cases e : ms env with
  | ok t => rw [e] at q; exact fun F2 H2 v N y l k g => i _ _ (q F2 H2 v N y l k g)
  | ex c => rw [e] at q; exact q
  | no => rw [e] at q; exact q
theorem atLs.oks {K : PySem.W.Frag} {F H : Hp} {σ : Sg} {M : List Addr} {r : Rs (List T × Env)} {Q : List V → Hp → Prop} (h : atLs K ct EX ls r F H σ M Q) : oks ct EX r H M := by
  cases r with
  | ok t => trivial
  | ex c => exact h
  | no => exact h
theorem sls_nil : SLs X ct EX [] [] eNil := PA.imp pa_nil fun σ H Q ⟨F, env, M, rel, q⟩ => q F H [] M rel rfl trivial (Go.refl rel.sub)
theorem sls_cons (ha : SE X ct EX e m) (hr : SLs X ct EX es ls ms) (hs : starEach (e :: es) X.env = (false, eval e X.env) :: starEach es X.env := by rfl) : SLs X ct EX (e :: es) (none :: ls) (eCons m ms) :=
  PA.imp (pa_cons ha hr hs) fun σ H Q ⟨F, env, M, rel, q⟩ => by
    have q1 := q.oks
    refine tE.mono (runE rel (oks.bind (r := m env) q1)) fun x H1 ⟨F1, t, env1, N, e1, r1, g1⟩ => ?_
    unfold eCons at q q1
    simp only [e1, Rs.bind] at q q1
    obtain ⟨A, B, rfl, o, r2, nd, dis, dF⟩ := r1.uncons
    refine tLs.mono (runLs r2 ((oks.bind (r := ms env1) q1).go g1 |>.imp' fun a ha => List.mem_append_right _ ha)) fun xs H2 ⟨F2, ts, env2, N2, e2, r3, hl, hk, g2⟩ => ?_
    simp only [e2, Rs.bind] at q
    obtain ⟨r4, g3⟩ := Rel.framed o nd dis dF g2 r3
    exact q F2 H2 (x :: xs) _ r4 (by simp [hl]) hk (g1.trans g3)
theorem sls_lend (j : Nat) {x : Str} {p : Pos} (hr : SLs X ct EX es ls ms) (hN : X.N[j]? = some x := by rfl) (hv : Vis X.env.scope x := by first | exact Or.inl rfl | exact Or.inr (Or.inl rfl) | exact Or.inr (Or.inr rfl)) (hd : (x == ("__debug__" : Str)) = false := by decide)
    (hcd : (x == ("__classdict__" : Str)) = false := by decide) (hs : starEach (.Name x p :: es) X.env = (false, eval (.Name x p) X.env) :: starEach es X.env := by rfl) : SLs X ct EX (.Name x p :: es) (some j :: ls) (eCons (eMov j) ms) :=
  PA.imp (pa_cons (pe_var hN hv hd hcd) hr hs) fun σ H Q ⟨F, env, M, rel, q⟩ => by
    have q1 := q.oks
    unfold eCons eMov at q q1
    cases e : env[j]? with
    | none => simp only [e, Rs.bind] at q; exact q.elim
    | some o =>
      cases o with
      | none => simp only [e, Rs.bind] at q; exact q.elim
      | some t =>
        simp only [e, Rs.bind] at q q1
        obtain ⟨v, B, M', e1, o, r2, nd, dis, dF, s1, s2⟩ := rel.take e
        refine ⟨v, e1, ?_⟩
        refine tLs.mono (runLs r2 ((oks.bind (r := ms (env.set j none)) q1).imp' s2)) fun xs H2 ⟨F2, ts, env2, N2, e2, r3, hl, hk, g2⟩ => ?_
        simp only [e2, Rs.bind] at q
        obtain ⟨r4, g3⟩ := Rel.framed o nd dis dF g2 r3
        exact q F2 H2 (v :: xs) _ r4 (by simp [hl]) ⟨e1, hk⟩ (g3.up fun a ha => (List.mem_append.mp ha).elim (s1 a) (s2 a))
/-- a lent name whose cells the arguments behind it may still write to: taken behind them -/
def eLend (j : Nat) (ms : EMs) : EMs := fun env => match env[j]? with
  | some (some _) => (ms env).bind fun q => match q.2[j]? with
    | some (some t) => .ok (t :: q.1, q.2.set j none)
    | _ => .no
  | _ => .no
theorem sls_lendL (j : Nat) {x : Str} {p : Pos} (hr : SLs X ct EX es ls ms) (hN : X.N[j]? = some x := by rfl) (hv : Vis X.env.scope x := by first | exact Or.inl rfl | exact Or.inr (Or.inl rfl) | exact Or.inr (Or.inr rfl)) (hd : (x == ("__debug__" : Str)) = false := by decide)
    (hcd : (x == ("__classdict__" : Str)) = false := by decide) (hs : starEach (.Name x p :: es) X.env = (false, eval (.Name x p) X.env) :: starEach es X.env := by rfl) : SLs X ct EX (.Name x p :: es) (some j :: ls) (eLend j ms) :=
  PA.imp (pa_cons (pe_var hN hv hd hcd) hr hs) fun σ H Q ⟨F, env, M, rel, q⟩ => by
    have q1 := q.oks
    unfold eLend at q q1
    split at q
    · rename_i t0 e
      obtain ⟨v, B, M', e1, _⟩ := rel.take e
      refine ⟨v, e1, ?_⟩
      simp only [e] at q1
      refine tLs.mono (runLs rel (oks.bind (r := ms env) q1)) fun xs H2 ⟨F2, ts, env2, N2, e2, r3, hl, hk, g2⟩ => ?_
      simp only [e2, Rs.bind] at q
      split at q
      · rename_i t e3
        have e4 : (ts.map some ++ env2)[ts.length + j]? = some (some t) := by rw [List.getElem?_append_right (by simp), List.length_map, Nat.add_sub_cancel_left]; exact e3
        obtain ⟨v', B', M2, e5, o, r4, nd, dis, dF, s1, s2⟩ := r3.take e4
        rw [hl, List.getElem?_append_right (by simp), List.length_map, Nat.add_sub_cancel_left, e1] at e5
        cases e5
        rw [List.set_append_right _ _ (by simp), List.length_map, Nat.add_sub_cancel_left] at r4
        exact q F2 H2 (v :: xs) _ (r4.cons o nd dis dF) (by simp [hl]) ⟨e1, hk⟩ (g2.sub fun a ha => (List.mem_append.mp ha).elim (s1 a) (s2 a))
      · exact q.elim
    · exact q.elim
theorem Sl.append {K : PySem.W.Frag} {F H : Hp} : ∀ {us env : Env} {xs σ : Sg} {A B : List Addr}, Sl K F H us xs A → Sl K F H env σ B → Sl K F H (us ++ env) (xs ++ σ) (A ++ B)
  | _, _, _, _, _, _, .z, h => h
  | _, _, _, _, _, _, .u h1, h => .u (Sl.append h1 h)
  | _, _, _, _, _, _, .s o h1, h => by rw [List.append_assoc]; exact .s o (Sl.append h1 h)
def putBack : List (Option Nat) → List (Option T) → Env → Option Env
  | [], _, env => some env
  | none :: ls, _ :: us, env => putBack ls us env
  | some j :: ls, some u :: us, env => match env[j]? with
    | some none => putBack ls us (env.set j (some u))
    | _ => none
  | _, _, _ => none
theorem putBack_ok {K : PySem.W.Frag} {F H : Hp} {σ : Sg} : ∀ {ls : List (Option Nat)} {us : List (Option T)} {vs : List V} {env env' : Env} {N : List Addr}, putBack ls us env = some env' → lendOk ls σ vs → us.length = vs.length → Rel K F H (us ++ env) (vs.map some ++ σ) N → ∃ N', Rel K F H env' σ N' ∧ ∀ a ∈ N', a ∈ N := by
  intro ls
  induction ls with
  | nil =>
    intro us vs env env' N e k hl r
    rw [putBack] at e
    cases e
    cases vs with
    | nil => cases us with
      | nil => exact ⟨N, r, fun _ h => h⟩
      | cons _ _ => cases hl
    | cons _ _ => exact k.elim
  | cons l ls ih =>
    intro us vs env env' N e k hl r
    cases us with
    | nil => cases l <;> simp [putBack] at e
    | cons u us => cases vs with
      | nil => cases hl
      | cons v vs =>
        cases l with
        | none =>
          rw [putBack] at e
          have k' : lendOk ls σ vs := k
          cases u with
          | none => exact ih e k' (by simpa using hl) (Rel.unconsU r)
          | some u =>
            obtain ⟨A, B, rfl, o, r1, _, _, _⟩ := Rel.uncons r
            obtain ⟨N', r2, s⟩ := ih e k' (by simpa using hl) r1
            exact ⟨N', r2, fun a ha => List.mem_append_right _ (s a ha)⟩
        | some j =>
          obtain ⟨k1, k2⟩ := k
          cases u with
          | none => simp [putBack] at e
          | some u =>
            rw [putBack] at e
            split at e
            · rename_i ej
              obtain ⟨A, B, rfl, o, r1, nd, dis, dF⟩ := Rel.uncons r
              have r1 : Rel K F H (us ++ env) (vs.map some ++ σ) B := r1
              have ej2 : (us ++ env)[us.length + j]? = some none := by rw [List.getElem?_append_right (by omega), Nat.add_sub_cancel_left]; exact ej
              have es2 : (vs.map some ++ σ)[us.length + j]? = some (some v) := by
                have : us.length = vs.length := by simpa using hl
                rw [List.getElem?_append_right (by simp; omega), List.length_map, this, Nat.add_sub_cancel_left]; exact k1
              obtain ⟨M', r2, s⟩ := r1.back ej2 es2 o nd dis dF
              rw [List.set_append_right _ _ (by omega), Nat.add_sub_cancel_left] at r2
              obtain ⟨N', r3, s3⟩ := ih e k2 (by simpa using hl) r2
              exact ⟨N', r3, fun a ha => by simpa using s a (s3 a ha)⟩
            · cases e
theorem lendOk_len : ∀ {ls : List (Option Nat)} {σ : Sg} {vs : List V}, lendOk ls σ vs → ls.length = vs.length
  | some j :: ls, σ, v :: vs, h => by simp [lendOk_len h.2]
  | none :: ls, σ, _ :: vs, h => by simp [lendOk_len (ls := ls) (σ := σ) (vs := vs) h]
  | [], _, [], _ => rfl
  | [], _, _ :: _, h => h.elim
  | some _ :: _, _, [], h => h.elim
  | none :: _, _, [], h => h.elim
def eCall (f : FM) (ls : List (Option Nat)) (ms : EMs) : EM := fun env => (ms env).bind fun p => (f p.1).bind fun q => (Rs.of (putBack ls q.2 p.2)).bind fun env' => .ok (q.1, env')
theorem call_core {K : PySem.W.Frag} {F H : Hp} {env : Env} {σ : Sg} {M : List Addr} {Q : VK} {f : FM} {n : Nat} (rel : Rel K F H env σ M) (hnl : ls.length = n) (q : atE K ct EX (eCall f ls ms env) F H σ M Q) : tLs K ct EX ls ms σ H fun vs H1 => spM K ct n f vs H1 Q EX := by
  refine tLs.mono (runLs rel (oks.bind (r := ms env) (atE.oks q))) fun xs H1 ⟨F1, ts, env1, N, e1, r1, hl, hk, g1⟩ => ?_
  unfold eCall at q
  simp only [e1, Rs.bind] at q
  obtain ⟨A, B, rfl, o, r2, nd, dis, dF⟩ := r1.unconsS hl
  refine ⟨F1, ts, A, by rw [← lendOk_len hk]; exact hnl, ⟨r2.sub, r2.tb⟩, o, nd, dF, ?_⟩
  cases ef : f ts with
  | no => rw [ef] at q; exact q.elim
  | ex c =>
    rw [ef] at q
    exact (exq.go q g1).sub fun a ha => List.mem_append_left _ ha
  | ok z =>
    obtain ⟨r, us⟩ := z
    rw [ef] at q
    simp only [Rs.bind] at q
    refine fun F2 H2 v N2 r3 g3 => ?_
    cases ep : putBack ls us env1 with
    | none => rw [ep] at q; exact q.elim
    | some env2 =>
      rw [ep] at q
      simp only [Rs.of] at q
      -- the frame's own cells stand apart
      obtain ⟨kB, dnB, frB, g4⟩ := g3.frame (A := B) (fun a ha h => dis a h ha) r2.there
      have rB : Rel K F2 H2 env1 σ B := ⟨r3.sub, r3.tb, r2.own.keep g3.f kB, r2.nd, frB r2.dis⟩
      obtain ⟨Ar, Bu, rfl, or, ru, ndr, disr, dFr⟩ := r3.uncons
      have hul : us.length = xs.length := by simpa using ru.own.length
      have rall : Rel K F2 H2 (us ++ env1) (xs.map some ++ σ) (Bu ++ B) := by
        exact ⟨r3.sub, r3.tb, Sl.append ru.own rB.own, List.nodup_append.mpr ⟨ru.nd, r2.nd, fun a ha b hb e => dnB b hb (by subst e; exact List.mem_append_right _ ha)⟩, fun a ha => (List.mem_append.mp ha).elim (ru.dis a) (rB.dis a)⟩
      obtain ⟨N', rp, sp⟩ := putBack_ok ep hk hul rall
      have rfin := rp.cons or ndr (fun a ha h => by
        rcases List.mem_append.mp (sp a h) with z | z
        · exact disr a ha z
        · exact dnB a z (List.mem_append_left _ ha)) dFr
      refine q F2 H2 v _ rfin (g1.trans ?_)
      have := g4.up (M' := A ++ B) fun a ha => by simp at ha ⊢; rcases ha with z | z <;> simp [z]
      refine this.sub fun a ha => ?_
      rcases List.mem_append.mp ha with z | z
      · simp [z]
      · rcases List.mem_append.mp (sp a z) with z | z <;> simp [z]
theorem se_call {k n : Nat} {fa : Addr} {fd : FuncData} {psn : List Str} {f : FM} {x : Str} {p : Pos} (F : Fg X.prog X.w X.K X.mg X.base k fa fd psn (spM X.K ct n f)) (hr : Room k X.A) (hgd : X.A.guards = some []) (hg : Gl X x) (hm : X.mg x = some (.ref fa)) (hk : PySem.W.keepIn X.K (.ref fa) = true) (hb : Binds X.K fd psn [])
    (hx : Passes (L2.CX X.prog X.w) X EX) (ha : SLs X ct EX (e :: es) ls ms) (hnl : ls.length = n := by rfl) (hdb : (x == ("__debug__" : Str)) = false := by decide) (he : starEach (e :: es) X.env = (false, eval e X.env) :: starEach es X.env := by rfl) (hpl : (backTo pos (starEach es X.env)).any (·.1) = false := by rfl) :
    SE X ct EX (.Call (.Name x p) (e :: es) [] pos) (eCall f ls ms) :=
  PE.imp (pe_callG F hr hgd hg hm hk hb hx ha hdb he hpl) fun σ H Q ⟨F, env, M, rel, q⟩ => call_core rel hnl q
/-! without writing -/
def mCall (f : FM) (ps : PMs) : PM := fun env => (ps env).bind fun ts => (f ts).bind fun p => .ok p.1
theorem pcall_core {K : PySem.W.Frag} {F H : Hp} {env : Env} {σ : Sg} {M : List Addr} {Q : VK} {f : FM} {n : Nat} (rel : Rel K F H env σ M) (q : atP K ct EX (mCall f ps env) F H M Q) (hn : ∀ ts, ps env = .ok ts → ts.length = n) :
    tPs K ct EX ps σ H fun vs H1 => spM K ct n f vs H1 Q EX := by
  refine tPs.mono (runPs rel (atP.fst (g := fun ts => (f ts).bind fun p => .ok p.1) q)) fun xs H1 ⟨F1, ts, N, e1, x1, f1, o1⟩ => ?_
  unfold mCall at q
  simp only [e1, Rs.bind] at q
  refine ⟨F1, ts, N, by rw [← o1.length]; exact hn _ e1, ⟨x1.s, rel.tb.ext x1⟩, o1, f1.nd, f1.dis, ?_⟩
  have newN : ∀ a o, H a = some o → a ∉ N := fun a o e h => by rw [f1.new a h] at e; cases e
  cases ef : f ts with
  | no => rw [ef] at q; exact q.elim
  | ex c =>
    rw [ef] at q
    exact fun H' k => q H' (Kp.trans' (x1.h.up fun _ z => nomatch z) k fun c hc => .inr (f1.new c hc))
  | ok z =>
    obtain ⟨r, us⟩ := z
    rw [ef] at q
    intro F2 H2 v N2 r2 g2
    obtain ⟨A, B, rfl, o, r3, nd, dis, dF⟩ := r2.uncons
    refine q F2 H2 v A ⟨x1.f.trans g2.f, Kp.trans' x1.h g2.k fun c hc => .inr (f1.new c hc), r2.sub, fun a o e => ?_⟩ ⟨nd, fun a ha => ?_, dF⟩ o
    · rcases g2.n a o e with z | z | z
      · exact x1.n a o z
      · exact .inr (f1.new a z)
      · exact .inr (x1.h.free z)
    · rcases g2.m a (List.mem_append_left _ ha) with z | z
      · exact f1.new a z
      · exact x1.h.free z
/-- an argument list's number -/
inductive PmLen : PMs → Nat → Prop
  | nil : PmLen mNil 0
  | cons {p : PM} {ps : PMs} {n : Nat} : PmLen ps n → PmLen (mCons p ps) (n + 1)
theorem PmLen.ok {n : Nat} (h : PmLen ps n) : ∀ {env : Env} {ts : List T}, ps env = .ok ts → ts.length = n := by
  induction h with
  | nil => intro env ts e; cases e; rfl
  | @cons p ps n h ih =>
    intro env ts e
    unfold mCons at e
    cases e1 : p env with
    | ex c => rw [e1] at e; cases e
    | no => rw [e1] at e; cases e
    | ok t =>
      simp only [e1, Rs.bind] at e
      cases e2 : ps env with
      | ex c => rw [e2] at e; cases e
      | no => rw [e2] at e; cases e
      | ok us => rw [e2] at e; cases e; simp [ih e2]
theorem sp_call {k n : Nat} {fa : Addr} {fd : FuncData} {psn : List Str} {f : FM} {x : Str} {p : Pos} (F : Fg X.prog X.w X.K X.mg X.base k fa fd psn (spM X.K ct n f)) (hr : Room k X.A) (hgd : X.A.guards = some []) (hg : Gl X x) (hm : X.mg x = some (.ref fa)) (hk : PySem.W.keepIn X.K (.ref fa) = true) (hb : Binds X.K fd psn [])
    (hx : Passes (L2.CX X.prog X.w) X EX) (ha : SPs X ct EX (e :: es) ps) (hn : PmLen ps n := by repeat constructor) (hdb : (x == ("__debug__" : Str)) = false := by decide) (he : starEach (e :: es) X.env = (false, eval e X.env) :: starEach es X.env := by rfl) (hpl : (backTo pos (starEach es X.env)).any (·.1) = false := by rfl) :
    SP X ct EX (.Call (.Name x p) (e :: es) [] pos) (mCall f ps) :=
  PE.imp (pe_callG F hr hgd hg hm hk hb hx ha hdb he hpl) fun σ H Q ⟨F, env, M, rel, q⟩ => pcall_core rel q fun ts e => hn.ok e
end
end Mi

set_option maxHeartbeats 200000
namespace Mi
open PySem PySem.Spec PyProof.Rows L2
variable [Tb]

section
variable {K : PySem.W.Frag} {ct : Nat → Addr} {EX : XK} {F H F' H' F1 H1 : Hp} {env env' : Env} {σ σ' σ1 : Sg} {M M' N : List Addr} {pn : List Nat} {D D' : Ends} {r : Rs (Fl × Env)}
theorem Pn.refl : Pn pn σ σ := fun _ _ => rfl
theorem Pn.trans {σ2 : Sg} (a : Pn pn σ σ1) (b : Pn pn σ1 σ2) : Pn pn σ σ2 := fun j hj => (b j hj).trans (a j hj)
theorem Pn.set {i : Nat} {x : Option V} (h : i ∉ pn) : Pn pn σ (σ.set i x) := fun j hj => by
  rw [List.getElem?_set_ne]
  intro e; exact h (e ▸ hj)
theorem atS.go (h : atS K ct EX pn r F H σ M D) (g : Go F H M F1 H1 N) (p : Pn pn σ σ1) : atS K ct EX pn r F1 H1 σ1 N D := by
  rcases r with ⟨fl, e⟩ | c | _
  · cases fl with
    | nx => exact fun F2 H2 σ2 N2 r2 g2 p2 => h F2 H2 σ2 N2 r2 (g.trans g2) (p.trans p2)
    | rt t => exact fun F2 H2 σ2 v N2 r2 g2 p2 => h F2 H2 σ2 v N2 r2 (g.trans g2) (p.trans p2)
  · exact exq.go h g
  · exact h
theorem atS.oks (h : atS K ct EX pn r F H σ M D) : oks ct EX r H M := by
  rcases r with ⟨fl, e⟩ | c | _
  · trivial
  · exact h
  · exact h
end

abbrev St0 := SM
def sSkip : SM := fun env => .ok (.nx, env)
def sSeq (m ms : SM) : SM := fun env => match m env with
  | .ok (.nx, env1) => ms env1
  | r => r
def sRet (m : EM) : SM := fun env => (m env).bind fun p => .ok (.rt p.1, p.2)
def sDrop (m : EM) : SM := fun env => (m env).bind fun p => .ok (.nx, p.2)
def sIf (c : Env → Rs (Bool × Env)) (m n : SM) : SM := fun env => (c env).bind fun k => if k.1 then m k.2 else n k.2
def fGo (g : Tg) (b : SM) : List PyData → Env → Rs (Fl × Env)
  | [], env => .ok (.nx, env)
  | x :: xs, env => match g.put x env with
    | none => .no
    | some env1 => match b env1 with
      | .ok (.nx, env2) => fGo g b xs env2
      | r => r
def sFor (im : Env → Rs (List PyData × Env)) (g : Tg) (b : SM) : SM := fun env => (im env).bind fun p => fGo g b p.1 p.2
def wGo (c : Env → Rs (Bool × Env)) (b : SM) (n : Nat) : Env → Rs (Fl × Env) := Nat.rec (fun _ => .no) (fun _ ih env => (c env).bind fun k => if k.1 then (match b k.2 with
    | .ok (.nx, env2) => ih env2
    | r => r) else .ok (.nx, k.2)) n
def sWhile (n : Nat) (c : Env → Rs (Bool × Env)) (b : SM) : SM := wGo c b n
section
variable {X : Cx} {ct : Nat → Addr} {EX : XK} {pn : List Nat} {a b c e tg : Expr} {es : List Expr} {ma mb m : EM} {st : Stmt} {sts sts2 : List Stmt} {sm sn : SM} {pos : Pos} {tc : Env → Rs (Bool × Env)}
theorem sss_nil : SSs X ct EX pn [] sSkip := PSs.imp pss_nil fun D σ H ⟨F, env, M, rel, q⟩ => q F H σ M rel (Go.refl rel.sub) Pn.refl
theorem tSeq_of {σ : Sg} {H : Hp} {D : Ends} (h : tS X.K ct EX pn (sSeq sm sn) D σ H) : tSeq (tS X.K ct EX pn sm) (tS X.K ct EX pn sn) D σ H := by
  obtain ⟨F, env, M, rel, q⟩ := h
  refine ⟨F, env, M, rel, ?_⟩
  unfold sSeq at q
  cases e : sm env with
  | ex c => rw [e] at q; exact q
  | no => rw [e] at q; exact q
  | ok z =>
    obtain ⟨fl, env1⟩ := z
    rw [e] at q
    cases fl with
    | nx => exact fun F1 H1 σ1 N r g p => ⟨F1, env1, N, r, q.go g p⟩
    | rt t => exact q
theorem sss_cons (h1 : SS X ct EX pn st sm) (h2 : SSs X ct EX pn sts sn) : SSs X ct EX pn (st :: sts) (sSeq sm sn) := PSs.imp (pss_cons h1 h2) fun D σ H h => tSeq_of h
theorem sss_one (h1 : SS X ct EX pn st sm) : SSs X ct EX pn [st] sm := pss_one h1
theorem ss_ret (h : SE X ct EX e m) : SS X ct EX pn (.Return (some e) pos) (sRet m) := PS.imp (ps_ret h) fun D σ H ⟨F, env, M, rel, q⟩ => by
  refine ⟨F, env, M, rel, ?_⟩
  unfold sRet at q
  cases e : m env with
  | ex c => rw [e] at q; exact q
  | no => rw [e] at q; exact q
  | ok z => rw [e] at q; exact fun F1 H1 v N r g => q F1 H1 σ v N r g Pn.refl
theorem ss_expr (h : SE X ct EX e m) (hs : swapsWith e none pos.line X.env = pure false := by rfl) : SS X ct EX pn (.Expr e pos) (sDrop m) := PS.imp (ps_expr h hs) fun D σ H ⟨F, env, M, rel, q⟩ => by
  refine ⟨F, env, M, rel, ?_⟩
  unfold sDrop at q
  cases e : m env with
  | ex c => rw [e] at q; exact q
  | no => rw [e] at q; exact q
  | ok z =>
    rw [e] at q
    intro F1 H1 v N r g
    obtain ⟨A, B, rfl, _, r1, _⟩ := r.uncons
    exact q F1 H1 σ B r1 (g.sub fun a ha => List.mem_append_right _ ha) Pn.refl
theorem ss_if (hc : STE X ct EX c tc) (h1 : SSs X ct EX pn sts sm) (h2 : SSs X ct EX pn sts2 sn) : SS X ct EX pn (.If c sts sts2 pos) (sIf tc sm sn) := PS.imp (ps_if hc h1 h2) fun D σ H ⟨F, env, M, rel, q⟩ => by
  refine ⟨F, env, M, rel, ?_⟩
  unfold sIf at q
  cases e : tc env with
  | ex c => rw [e] at q; exact q
  | no => rw [e] at q; exact q
  | ok z =>
    obtain ⟨k, env1⟩ := z
    rw [e] at q
    simp only [Rs.bind] at q
    intro F1 H1 N r g
    cases k with
    | true => exact ⟨F1, env1, N, r, q.go g Pn.refl⟩
    | false => exact ⟨F1, env1, N, r, q.go g Pn.refl⟩
theorem ss_pass : SS X ct EX pn (.Pass pos) sSkip := PS.imp ps_pass fun D σ H ⟨F, env, M, rel, q⟩ => q F H σ M rel (Go.refl rel.sub) Pn.refl

/-! ### stores -/
def atG (K : PySem.W.Frag) (ct : Nat → Addr) (EX : XK) (pn : List Nat) (r : Rs Env) (F H : Hp) (σ : Sg) (M : List Addr) (Q : Sg → Hp → Prop) : Prop := match r with
  | .ok env' => ∀ F' H' σ' M', Rel K F' H' env' σ' M' → Go F H M F' H' M' → Pn pn σ σ' → Q σ' H'
  | .ex c => exq ct EX H M c
  | .no => False
def tGE (K : PySem.W.Frag) (ct : Nat → Addr) (EX : XK) (pn : List Nat) (g : T → Env → Rs Env) : TG := fun v σ H Q => ∃ F env t M, Rel K F H (some t :: env) (some v :: σ) M ∧ atG K ct EX pn (g t env) F H σ M Q
def tGEs (K : PySem.W.Frag) (ct : Nat → Addr) (EX : XK) (pn : List Nat) (g : List T → Env → Rs Env) : TGs := fun vs σ H Q => ∃ F env ts M, Rel K F H (ts.map some ++ env) (vs.map some ++ σ) M ∧ ts.length = vs.length ∧ atG K ct EX pn (g ts env) F H σ M Q
def SGE (X : Cx) (ct : Nat → Addr) (EX : XK) (pn : List Nat) (e : Expr) (g : T → Env → Rs Env) : Prop := PG X e (tGE X.K ct EX pn g)
def SGEs (X : Cx) (ct : Nat → Addr) (EX : XK) (pn : List Nat) (es : List Expr) (g : List T → Env → Rs Env) : Prop := PGs X es (tGEs X.K ct EX pn g)
def gNm (i : Nat) : T → Env → Rs Env := fun t env => Rs.of (env.put i t)
theorem sge_name {i : Nat} {x : Str} (hN : X.N.Nodup) (hi : X.N[i]? = some x := by rfl) (hp : i ∉ pn := by decide) (hx : Loc X.env.scope x := by first | exact .inl rfl | exact .inr rfl) (hf : X.fn x = true ∨ X.env.scope.names.lookup x = some .local := by first | exact .inl rfl | exact .inr rfl | assumption) : SGE X ct EX pn (.Name x pos) (gNm i) :=
  PG.imp (pg_name hN hi hx hf) fun v σ H Q ⟨F, env, t, M, rel, q⟩ => by
    unfold gNm at q
    cases e : Mi.Env.put env i t with
    | none => rw [e] at q; exact q.elim
    | some env' =>
      rw [e] at q
      obtain ⟨A, B, rfl, o, r, nd, dis, dF⟩ := rel.uncons
      obtain ⟨M', r', s⟩ := r.put o nd dis dF e
      refine q F H _ M' r' ((Go.refl rel.sub).sub fun a ha => ?_) (Pn.set hp)
      rcases s a ha with z | z <;> simp [z]
/-- by a pattern of names, the value kept -/
def gPat (g : Tg) : T → Env → Rs Env := fun t env => match t with
  | .d x => Rs.of (g.put x env)
  | .l _ => .no
theorem sge_pat {g : Tg} (h : SG X e g) (hp : ∀ j ∈ pn, j ∉ g.slots) : SGE X ct EX pn e (gPat g) :=
  PG.imp h fun v σ H Q ⟨F, env, t, M, rel, q⟩ => by
    unfold gPat at q
    cases t with
    | l _ => exact q.elim
    | d x =>
      simp only at q
      cases e : g.put x env with
      | none => rw [e] at q; exact q.elim
      | some env' =>
        rw [e] at q
        obtain ⟨A, B, rfl, o, r, nd, dis, dF⟩ := rel.uncons
        cases o with
        | d o => exact ⟨F, env, B, x, env', r, o, e, fun σ' M' r' s l k => q F H σ' M' r' ((Go.refl rel.sub).sub fun a ha => by simp [s a ha]) fun j hj => k j (hp j hj)⟩
def sAsg (m : EM) (g : T → Env → Rs Env) : SM := fun env => (m env).bind fun p => (g p.1 p.2).bind fun env' => .ok (.nx, env')
theorem asg_core {g : T → Env → Rs Env} {σ : Sg} {H : Hp} {D : Ends} (h : tS X.K ct EX pn (sAsg m g) D σ H) : tAsg (tE X.K ct EX m) (tGE X.K ct EX pn g) D σ H := by
  obtain ⟨F, env, M, rel, q⟩ := h
  refine tE.mono (runE rel (oks.bind (r := m env) q.oks)) fun x H1 ⟨F1, t, env1, N, e1, r1, g1⟩ => ?_
  unfold sAsg at q
  simp only [e1, Rs.bind] at q
  refine ⟨F1, env1, t, N, r1, ?_⟩
  cases e : g t env1 with
  | ex c => rw [e] at q; exact exq.go q g1
  | no => rw [e] at q; exact q.elim
  | ok env' => rw [e] at q; exact fun F' H' σ' M' r' g' p' => q F' H' σ' M' r' (g1.trans g') p'
theorem ss_asg {g : T → Env → Rs Env} (he : SE X ct EX e m) (hg : SGE X ct EX pn tg g) (hs : swapsWithSole [tg] e pos.line X.env = pure false := by rfl) (hw : swappedStores [tg] e X.env = pure none := by rfl)
    (h1 : (assignEach [tg] X.env).map (·.2) = [assign tg X.env] := by rfl) : SS X ct EX pn (.Assign [tg] e pos) (sAsg m g) :=
  PS.imp (ps_asg he hg hs hw h1) fun D σ H h => asg_core h
/-- two and three names at once -/
def gTwo (i j : Nat) : List T → Env → Rs Env := fun ts env => match ts with
  | [t, u] => (Rs.of (env.put i t)).bind fun e1 => Rs.of (e1.put j u)
  | _ => .no
def sAsgs (ms : EMs) (g : List T → Env → Rs Env) : SM := fun env => (ms env).bind fun p => (g p.1 p.2).bind fun env' => .ok (.nx, env')
theorem asgs_core {K : PySem.W.Frag} {ms : EMs} {g : List T → Env → Rs Env} {σ : Sg} {H F : Hp} {env : Env} {M : List Addr} {D : Ends} {Q : List V → Hp → Prop} (rel : Rel K F H env σ M) (q : atS K ct EX pn (sAsgs ms g env) F H σ M D)
    (h : ∀ F1 ts env1 N xs H1, ms env = .ok (ts, env1) → Rel K F1 H1 (ts.map some ++ env1) (xs.map some ++ σ) N → ts.length = xs.length → Go F H M F1 H1 N → atS K ct EX pn ((g ts env1).bind fun env' => .ok (.nx, env')) F1 H1 σ N D → Q xs H1) : tEs K ct EX ms σ H Q := by
  refine tEs.mono (runEs rel (oks.bind (r := ms env) q.oks)) fun xs H1 ⟨F1, ts, env1, N, e1, r1, hl, g1⟩ => ?_
  unfold sAsgs at q
  simp only [e1, Rs.bind] at q
  exact h F1 ts env1 N xs H1 e1 r1 hl g1 (q.go g1 Pn.refl)
theorem Rel.app {K : PySem.W.Frag} {F H : Hp} {env : Env} {σ : Sg} {M : List Addr} (r : Rel K F H env σ M) : Rel K F H env σ M := r
theorem putTwo {K : PySem.W.Frag} {F H : Hp} {env env1 env2 : Env} {σ : Sg} {M : List Addr} {t u : T} {v w : V} {i j : Nat} (r : Rel K F H (some t :: some u :: env) (some v :: some w :: σ) M) (e1 : env.put i t = some env1) (e2 : env1.put j u = some env2) :
    ∃ M', Rel K F H env2 ((σ.set i (some v)).set j (some w)) M' ∧ ∀ a ∈ M', a ∈ M := by
  obtain ⟨A, B, rfl, o, r1, nd, dis, dF⟩ := r.uncons
  obtain ⟨A2, B2, rfl, o2, r2, nd2, dis2, dF2⟩ := r1.uncons
  obtain ⟨M1, r3, s3⟩ := r2.put o nd (fun a ha h => dis a ha (by simp [h])) dF e1
  obtain ⟨M2, r4, s4⟩ := r3.put o2 nd2 (fun a ha h => by
    rcases s3 a h with z | z
    · exact dis2 a ha z
    · exact dis a z (by simp [ha])) dF2 e2
  refine ⟨M2, r4, fun a ha => ?_⟩
  rcases s4 a ha with z | z
  · rcases s3 a z with y | y <;> simp [y]
  · simp [z]
theorem ss_par {i j : Nat} {x y : Str} {ms : EMs} {px py pt : Pos} {kt k2 pt2} (hc : X.calm = true) (hN : X.N.Nodup) (ha : SEs X ct EX [a, b] ms)
    (hw : swappedStores [.Tuple [.Name x px, .Name y py] kt pt] (.Tuple [a, b] k2 pt2) X.env = pure (some [x, y])) (hi : X.N[i]? = some x := by rfl) (hj : X.N[j]? = some y := by rfl) (hij : i ≠ j := by decide) (hp : i ∉ pn := by decide) (hq : j ∉ pn := by decide)
    (hx : X.env.scope.names.lookup x = some .local := by rfl) (hy : X.env.scope.names.lookup y = some .local := by rfl)
    (hs : swapsWithSole [.Tuple [.Name x px, .Name y py] kt pt] (.Tuple [a, b] k2 pt2) pos.line X.env = pure false := by rfl) :
    SS X ct EX pn (.Assign [.Tuple [.Name x px, .Name y py] kt pt] (.Tuple [a, b] k2 pt2) pos) (sAsgs ms (gTwo i j)) :=
  PS.imp (ps_par hc hN hi hj hij hx hy ha hw hs) fun D σ H ⟨F, env, M, rel, q⟩ => asgs_core rel q fun F1 ts env1 N xs H1 e1 r1 hl g1 q1 => by
    unfold gTwo at q1
    split at q1
    · rename_i t u
      match xs, hl with
      | [v, w], _ =>
        refine ⟨v, w, rfl, ?_⟩
        cases e2 : env1.put i t with
        | none => rw [e2] at q1; exact q1.elim
        | some env2 =>
          rw [e2] at q1
          simp only [Rs.of, Rs.bind] at q1
          cases e3 : env2.put j u with
          | none => rw [e3] at q1; exact q1.elim
          | some env3 =>
            rw [e3] at q1
            obtain ⟨M', r', s'⟩ := putTwo r1 e2 e3
            exact q1 F1 H1 _ M' r' ((Go.refl r1.sub).sub s') ((Pn.set hp).trans (Pn.set hq))
    · exact q1.elim
def gThree (i j k : Nat) : List T → Env → Rs Env := fun ts env => match ts with
  | [t, u, w] => (Rs.of (env.put i t)).bind fun e1 => (Rs.of (e1.put j u)).bind fun e2 => Rs.of (e2.put k w)
  | _ => .no
theorem putThree {K : PySem.W.Frag} {F H : Hp} {env env1 env2 env3 : Env} {σ : Sg} {M : List Addr} {t u x : T} {v w z : V} {i j k : Nat} (r : Rel K F H (some t :: some u :: some x :: env) (some v :: some w :: some z :: σ) M) (e1 : env.put i t = some env1) (e2 : env1.put j u = some env2) (e3 : env2.put k x = some env3) :
    ∃ M', Rel K F H env3 (((σ.set i (some v)).set j (some w)).set k (some z)) M' ∧ ∀ a ∈ M', a ∈ M := by
  obtain ⟨A, B, rfl, o, r1, nd, dis, dF⟩ := r.uncons
  obtain ⟨A2, B2, rfl, o2, r2, nd2, dis2, dF2⟩ := r1.uncons
  obtain ⟨A3, B3, rfl, o3, r3, nd3, dis3, dF3⟩ := r2.uncons
  have r5 : Rel K F H (some t :: some u :: env) (some v :: some w :: σ) (A ++ (A2 ++ B3)) := (r3.cons o2 nd2 (fun a ha h => dis2 a ha (by simp [h])) dF2).cons o nd (fun a ha h => dis a ha (by simp at h ⊢; rcases h with z | z <;> simp [z])) dF
  obtain ⟨M1, r6, s6⟩ := putTwo r5 e1 e2
  obtain ⟨M2, r7, s7⟩ := r6.put o3 nd3 (fun a ha h => by
    have := s6 a h
    simp only [List.mem_append] at this
    rcases this with z | z | z
    · exact dis a z (by simp [ha])
    · exact dis2 a z (by simp [ha])
    · exact dis3 a ha z) dF3 e3
  refine ⟨M2, r7, fun a ha => ?_⟩
  rcases s7 a ha with z | z
  · have := s6 a z
    simp only [List.mem_append] at this
    rcases this with y | y | y <;> simp [y]
  · simp [z]
theorem ss_par3 {i j k : Nat} {x y z : Str} {ms : EMs} {px py pz pt : Pos} {kt k2 pt2} (hc : X.calm = true) (hN : X.N.Nodup) (ha : SEs X ct EX [a, b, c] ms)
    (hw : swappedStores [.Tuple [.Name x px, .Name y py, .Name z pz] kt pt] (.Tuple [a, b, c] k2 pt2) X.env = pure (some [x, y, z])) (hi : X.N[i]? = some x := by rfl) (hj : X.N[j]? = some y := by rfl) (hk : X.N[k]? = some z := by rfl) (hij : i ≠ j := by decide) (hik : i ≠ k := by decide) (hjk : j ≠ k := by decide)
    (hp : i ∉ pn := by decide) (hq : j ∉ pn := by decide) (hr : k ∉ pn := by decide)
    (hx : X.env.scope.names.lookup x = some .local := by rfl) (hy : X.env.scope.names.lookup y = some .local := by rfl) (hz : X.env.scope.names.lookup z = some .local := by rfl)
    (hs : swapsWithSole [.Tuple [.Name x px, .Name y py, .Name z pz] kt pt] (.Tuple [a, b, c] k2 pt2) pos.line X.env = pure false := by rfl) :
    SS X ct EX pn (.Assign [.Tuple [.Name x px, .Name y py, .Name z pz] kt pt] (.Tuple [a, b, c] k2 pt2) pos) (sAsgs ms (gThree i j k)) :=
  PS.imp (ps_par3 hc hN hi hj hk hij hik hjk hx hy hz ha hw hs) fun D σ H ⟨F, env, M, rel, q⟩ => asgs_core rel q fun F1 ts env1 N xs H1 e1 r1 hl g1 q1 => by
    unfold gThree at q1
    split at q1
    · rename_i t u s
      match xs, hl with
      | [v, w, o], _ =>
        refine ⟨v, w, o, rfl, ?_⟩
        cases e2 : env1.put i t with
        | none => rw [e2] at q1; exact q1.elim
        | some env2 =>
          rw [e2] at q1
          simp only [Rs.of, Rs.bind] at q1
          cases e3 : env2.put j u with
          | none => rw [e3] at q1; exact q1.elim
          | some env3 =>
            rw [e3] at q1
            simp only [Rs.of, Rs.bind] at q1
            cases e4 : env3.put k s with
            | none => rw [e4] at q1; exact q1.elim
            | some env4 =>
              rw [e4] at q1
              obtain ⟨M', r', s'⟩ := putThree r1 e2 e3 e4
              exact q1 F1 H1 _ M' r' ((Go.refl r1.sub).sub s') (((Pn.set hp).trans (Pn.set hq)).trans (Pn.set hr))
    · exact q1.elim

/-! ### loops -/
def atIE (K : PySem.W.Frag) (ct : Nat → Addr) (EX : XK) (r : Rs (List PyData × Env)) (F H : Hp) (σ : Sg) (M : List Addr) (R : It → Hp → Prop) : Prop := match r with
  | .ok (xs, env') => ∀ F' H' N J, Rel K F' H' env' σ N → Go F H M F' H' N → Wk K J xs F' F' → R J H'
  | .ex c => exq ct EX H M c
  | .no => False
def tIE (K : PySem.W.Frag) (ct : Nat → Addr) (EX : XK) (im : Env → Rs (List PyData × Env)) : TI := fun σ H R => ∃ F env M, Rel K F H env σ M ∧ atIE K ct EX (im env) F H σ M R
def SIE (X : Cx) (ct : Nat → Addr) (EX : XK) (tg e : Expr) (im : Env → Rs (List PyData × Env)) : Prop := PI X tg e (tIE X.K ct EX im)
def iP (im : Env → Rs (List PyData)) : Env → Rs (List PyData × Env) := fun env => (im env).bind fun xs => .ok (xs, env)
theorem SI.en {im : Env → Rs (List PyData)} (h : SI X ct EX false tg e im) : SIE X ct EX tg e (iP im) := PI.imp h fun σ H R ⟨F, env, M, rel, q⟩ => by
  refine ⟨F, env, M, rel, ?_⟩
  unfold iP at q
  cases e : im env with
  | ex c => rw [e] at q; exact q
  | no => rw [e] at q; exact q
  | ok xs => rw [e] at q; exact fun F' H' J x k => q F' H' M J (rel.ext x) x.go k
theorem ss_for {g : Tg} {im : Env → Rs (List PyData × Env)} (hp : PassesOwn (model X.prog X.w) X.A X.env X.xe) (hc : X.calm = true) (hi : SIE X ct EX tg e im) (hg : SG X tg g) (hb : SSs X ct EX pn sts sm) (hpn : ∀ j ∈ pn, j ∉ g.slots)
    (hs : ∀ x, foldedSetIterable e X.env x = pure x := by intro _; rfl) : SS X ct EX pn (.For tg e sts [] pos) (sFor im g sm) :=
  PS.imp (ps_for hp hc hi hg hb hs) fun D σ H ⟨F, env, M, rel, q⟩ => by
    refine ⟨F, env, M, rel, ?_⟩
    unfold sFor at q
    cases e1 : im env with
    | ex c => rw [e1] at q; exact q
    | no => rw [e1] at q; exact q
    | ok z =>
      obtain ⟨xs, env0⟩ := z
      rw [e1] at q
      simp only [Rs.bind] at q
      intro F1 H1 N J r1 g1 wk
      refine ⟨fun i m σ2 H2 => ∃ F2 env2 M2, Rel X.K F2 H2 env2 σ2 M2 ∧ Same F1 F2 ∧ i ≤ xs.length ∧ m = xs.length - i ∧ atS X.K ct EX pn (fGo g sm (xs.drop i) env2) F2 H2 σ2 M2 D,
        ⟨_, F1, env0, N, r1, Same.refl _, Nat.zero_le _, rfl, q.go g1 Pn.refl⟩, ?_⟩
      rintro i m σ2 H2 ⟨F2, env2, M2, r2, s2, hi, rfl, q2⟩
      by_cases hlt : i < xs.length
      · refine .inr ⟨wk.go i H2 hlt (s2.trans r2.sub).n, fun σ' H' => ∃ F2 env2 M2, Rel X.K F2 H' env2 σ' M2 ∧ Same F1 F2 ∧ atS X.K ct EX pn (fGo g sm (xs.drop (i + 1)) env2) F2 H' σ' M2 D, ?_, ?_⟩
        · rintro σ' H' ⟨F3, env3, M3, r3, s3, q3⟩
          exact ⟨_, by omega, F3, env3, M3, r3, s3, hlt, rfl, q3⟩
        · intro v H3 y
          obtain ⟨x, F3, ex, x3, d3⟩ := wk.yld i F2 H2 v H3 hlt s2 r2.sub (s2.trans r2.sub).n y
          have ed : xs.drop i = x :: xs.drop (i + 1) := by
            obtain ⟨_, q⟩ := List.getElem?_eq_some_iff.mp ex
            rw [List.drop_eq_getElem_cons hlt, q]
          rw [ed, fGo] at q2
          cases ep : g.put x env2 with
          | none => rw [ep] at q2; exact q2.elim
          | some env3 =>
            rw [ep] at q2
            simp only at q2
            refine ⟨F3, env2, M2, x, env3, r2.ext x3, d3, ep, fun σ4 M4 r4 s4 l4 k4 => ?_⟩
            refine ⟨F3, env3, M4, r4, ?_⟩
            have g4 : Go F2 H2 M2 F3 H3 M4 := x3.go.sub s4
            have p4 : Pn pn σ2 σ4 := fun j hj => k4 j (hpn j hj)
            cases eb : sm env3 with
            | ex c => rw [eb] at q2; exact exq.go q2 g4
            | no => rw [eb] at q2; exact q2
            | ok z =>
              obtain ⟨fl, env5⟩ := z
              rw [eb] at q2
              cases fl with
              | rt t => exact fun F5 H5 σ5 v N5 r5 g5 p5 => q2 F5 H5 σ5 v N5 r5 (g4.trans g5) (p4.trans p5)
              | nx => exact fun F5 H5 σ5 N5 r5 g5 p5 => ⟨F5, env5, N5, r5, s2.trans (x3.f.trans g5.f), q2.go (g4.trans g5) (p4.trans p5)⟩
      · have e : i = xs.length := by omega
        subst e
        refine .inl ⟨wk.stop H2 (s2.trans r2.sub).n, ?_⟩
        rw [List.drop_length, fGo] at q2
        exact q2 F2 H2 σ2 M2 r2 (Go.refl r2.sub) Pn.refl
theorem wGo_succ (c : Env → Rs (Bool × Env)) (b : SM) (n : Nat) (env : Env) : wGo c b (n + 1) env = (c env).bind fun k => if k.1 then (match b k.2 with
    | .ok (.nx, env2) => wGo c b n env2
    | r => r) else .ok (.nx, k.2) := rfl
theorem ss_while (n : Nat) (hp : PassesOwn (model X.prog X.w) X.A X.env X.xe) (hc : STE X ct EX c tc) (hb : SSs X ct EX pn sts sm) : SS X ct EX pn (.While c sts [] pos) (sWhile n tc sm) :=
  PS.imp (ps_while hp hc hb) fun D σ H ⟨F, env, M, rel, q⟩ => by
    refine ⟨fun m σ2 H2 => ∃ F2 env2 M2, Rel X.K F2 H2 env2 σ2 M2 ∧ atS X.K ct EX pn (wGo tc sm m env2) F2 H2 σ2 M2 D, ⟨n, F, env, M, rel, q⟩, ?_⟩
    rintro m σ2 H2 ⟨F2, env2, M2, r2, q2⟩
    cases m with
    | zero => exact q2.elim
    | succ m =>
      rw [wGo_succ] at q2
      refine ⟨F2, env2, M2, r2, ?_⟩
      cases e : tc env2 with
      | ex c => rw [e] at q2; exact q2
      | no => rw [e] at q2; exact q2
      | ok z =>
        obtain ⟨k, env3⟩ := z
        rw [e] at q2
        simp only [Rs.bind] at q2
        intro F3 H3 N3 r3 g3
        cases k with
        | false =>
          rw [if_neg Bool.false_ne_true]
          exact q2 F3 H3 σ2 N3 r3 g3 Pn.refl
        | true =>
          rw [if_pos rfl]
          simp only [if_true] at q2
          refine ⟨fun σ' H' => ∃ F2 env2 M2, Rel X.K F2 H' env2 σ' M2 ∧ atS X.K ct EX pn (wGo tc sm m env2) F2 H' σ' M2 D, fun σ' H' h => ⟨m, Nat.lt_succ_self m, h⟩, F3, env3, N3, r3, ?_⟩
          cases eb : sm env3 with
          | ex c => rw [eb] at q2; exact exq.go q2 g3
          | no => rw [eb] at q2; exact q2
          | ok z =>
            obtain ⟨fl, env5⟩ := z
            rw [eb] at q2
            cases fl with
            | rt t => exact fun F5 H5 σ5 v N5 r5 g5 p5 => q2 F5 H5 σ5 v N5 r5 (g3.trans g5) p5
            | nx => exact fun F5 H5 σ5 N5 r5 g5 p5 => ⟨F5, env5, N5, r5, q2.go (g3.trans g5) p5⟩
end
end Mi

set_option maxHeartbeats 200000
namespace Mi
open PySem PySem.Spec PyProof.Rows L2
variable [Tb]

section
variable {K : PySem.W.Frag} {F H F' H' F1 H1 : Hp} {env env' : Env} {σ σ' σ1 : Sg} {M M' N : List Addr} {i : Nat} {ts : List T}
theorem Rel.atL (r : Rel K F H env σ M) (e : env[i]? = some (some (.l ts))) : ∃ a vs Mt A C, σ[i]? = some (some (.ref a)) ∧ M = A ++ (a :: Mt) ++ C ∧ H a = some (.lst vs) ∧ Ows K F H ts vs Mt ∧ a ∉ Mt ∧ Mt.Nodup ∧ (∀ b ∈ a :: Mt, b ∉ A ++ C) ∧ (∀ b ∈ Mt, F b = none) ∧
    (∀ ts' vs' N', Ows K F H ts' vs' N' → a ∉ N' → N'.Nodup → (∀ b ∈ N', b ∉ A ++ C) → (∀ b ∈ N', F b = none) → Rel K F (upd H a (.lst vs')) (env.set i (some (.l ts'))) σ (A ++ (a :: N') ++ C)) := by
  obtain ⟨v, A, B, C, e1, rfl, o, q⟩ := r.own.at e
  cases o with
  | @l _ vs a Mt ha os =>
    obtain ⟨n1, n2, n3⟩ := mid r.nd
    obtain ⟨na, nm⟩ := List.nodup_cons.mp n2
    refine ⟨a, vs, Mt, A, C, e1, rfl, ha, os, na, nm, n3, fun b hb => r.dis b (by simp [hb]), fun ts' vs' N' o' a' nd' d' f' => ?_⟩
    have fa : F a = none := r.dis a (by simp)
    have keep : ∀ b, b ≠ a → ∀ o, H b = some o → upd H a (.lst vs') b = some o := fun b hb o e => by rw [upd_ne hb]; exact e
    obtain ⟨_, q2⟩ := q F (upd H a (.lst vs')) (Same.refl _) fun b hb o e => keep b (fun z => n3 a List.mem_cons_self (z ▸ hb)) o e
    have o2 : Ow K F (upd H a (.lst vs')) (.l ts') (.ref a) (a :: N') := .l upd_same (o'.keep (Same.refl _) fun b hb o e => keep b (fun z => a' (z ▸ hb)) o e)
    refine ⟨fun b o e => ?_, r.tb.upd ha, q2 _ _ o2, mid' n1 (List.nodup_cons.mpr ⟨a', nd'⟩) (fun b hb => ?_), fun b hb => ?_⟩
    · exact keep b (ne_of_none e fa) o (r.sub _ _ e)
    · rcases List.mem_cons.mp hb with z | z
      · subst z; exact n3 b List.mem_cons_self
      · exact d' b z
    · simp only [List.mem_append, List.mem_cons] at hb
      rcases hb with (hb | hb | hb) | hb
      · exact r.dis b (by simp [hb])
      · rw [hb]; exact fa
      · exact f' b hb
      · exact r.dis b (by simp [hb])
theorem Go.updA {a : Addr} {vs ws : List V} (e : H a = some (.lst vs)) (ha : a ∈ M) (sub : ∀ b ∈ N, b ∈ M) : Go F H M F (upd H a (.lst ws)) N :=
  ⟨Same.refl _, Kp.upd e ha, fun b u e => .inl e, fun b hb => .inl (sub b hb)⟩
theorem Rel.tyL {a : Addr} (r : Rel K F H env σ M) (e : env[i]? = some (some (.l ts))) (e2 : σ[i]? = some (some (.ref a))) : tyV K "list" (.ref a) H := by
  obtain ⟨a', vs, Mt, A, C, e1, _, ha, _⟩ := r.atL e
  rw [e2] at e1
  cases e1
  exact .inl ⟨rfl, vs, .inl (.inl ha)⟩
end
def eApnd (i : Nat) (m : EM) : EM := fun env => match env[i]? with
  | some (some (.l _)) => (m env).bind fun p => match p.2[i]? with
    | some (some (.l ts)) => if ts.length < sizeLine then .ok (.d .none, p.2.set i (some (.l (ts ++ [p.1])))) else .no
    | _ => .no
  | _ => .no
def eExtd (i : Nat) (m : EM) : EM := fun env => match env[i]? with
  | some (some (.l _)) => (m env).bind fun p => match p.2[i]?, p.1 with
    | some (some (.l ts)), .l us => if ts.length + us.length ≤ sizeLine then .ok (.d .none, p.2.set i (some (.l (ts ++ us)))) else .no
    | _, _ => .no
  | _ => .no
def ePop (i : Nat) : EM := fun env => match env[i]? with
  | some (some (.l ts)) => match ts[ts.length - 1]? with
    | some t => .ok (t, env.set i (some (.l ts.dropLast)))
    | none => .no
  | _ => .no
def ePopAt (i : Nat) (m : EM) : EM := fun env => match env[i]? with
  | some (some (.l _)) => (m env).bind fun p => match p.2[i]?, p.1 with
    | some (some (.l ts)), .d (.int k) => if -(2 ^ 63) ≤ k ∧ k < 2 ^ 63 then match seqIndex? k ts.length with
        | some j => match ts[j]? with
          | some t => .ok (t, p.2.set i (some (.l (ts.eraseIdx j))))
          | none => .no
        | none => .no
      else .no
    | _, _ => .no
  | _ => .no
section
variable {X : Cx} {ct : Nat → Addr} {EX : XK} {pn : List Nat} {a b c e tg : Expr} {es : List Expr} {ma mb m : EM} {pos apos cpos : Pos}
/-- a list's own items but one; that one -/
theorem Ows.erase {K : PySem.W.Frag} {F H : Hp} : ∀ {ts : List T} {vs : List V} {M : List Addr} (_ : Ows K F H ts vs M) {j : Nat} {t : T}, ts[j]? = some t → ∃ v A B C, vs[j]? = some v ∧ M = A ++ B ++ C ∧ Ow K F H t v B ∧ Ows K F H (ts.eraseIdx j) (vs.eraseIdx j) (A ++ C) ∧ ∀ t' v' B', Ow K F H t' v' B' → Ows K F H (ts.set j t') (vs.set j v') (A ++ B' ++ C)
  | _, _, _, .nil, _, _, e => by cases e
  | _, _, _, .cons (M := M1) (N := N1) o os, 0, t, e => by
    cases e
    exact ⟨_, [], M1, N1, rfl, rfl, o, os, fun t' v' B' o' => .cons o' os⟩
  | _, _, _, .cons (M := M1) o os, j + 1, t, e => by
    obtain ⟨v, A, B, C, e1, rfl, o1, os1, st⟩ := Ows.erase os (j := j) (by simpa using e)
    refine ⟨v, M1 ++ A, B, C, by simpa using e1, by simp, o1, ?_, fun t' v' B' o' => ?_⟩
    · rw [List.append_assoc]; exact .cons o os1
    · have := Ows.cons o (st t' v' B' o')
      rw [show M1 ++ A ++ B' ++ C = M1 ++ (A ++ B' ++ C) by simp]; exact this
theorem se_apnd (i : Nat) {x : Str} {p : Pos} (hN : X.N[i]? = some x := by rfl) (ha : SEs X ct EX [e] (eCons m eNil)) (hv : Vis X.env.scope x := by first | exact Or.inl rfl | exact Or.inr (Or.inl rfl) | exact Or.inr (Or.inr rfl)) (hd : (x == ("__debug__" : Str)) = false := by decide)
    (hcd : (x == ("__classdict__" : Str)) = false := by decide)
    (hbase : attributeBase (.Name x p) "append" X.env (eval (.Name x p) X.env) = eval (.Name x p) X.env := by rfl)
    (hfew : ((backTo cpos (starEach [e] X.env)).all (fun x => !x.1) && (backToKw cpos (keywordEach [] X.env)).all (fun x => x.1.isSome)
      && decide ([e].length + ([] : List Keyword).length + (if ([] : List Keyword).isEmpty then 0 else 1) < 30)) = true := by rfl)
    (hline : (apos.endLine == cpos.line) = true := by rfl) (hs : starEach [e] X.env = (false, eval e X.env) :: starEach [] X.env := by rfl) (hplain : (backTo cpos (starEach [] X.env)).any (·.1) = false := by rfl) :
    SE X ct EX (.Call (.Attribute (.Name x p) "append" apos) [e] [] cpos) (eApnd i m) :=
  PE.imp (pe_bm PySem.F.plainAttrs_list PySem.F.slot_list_append PySem.F.type_list_append mt_append (pe_var hN hv hd hcd) ha hbase hfew hline hs hplain) fun σ H Q ⟨F, env, M, rel, q⟩ => by
    unfold eApnd at q
    split at q
    · rename_i ts0 e0
      obtain ⟨v0, A0, B0, C0, eσ, _, o0, _⟩ := rel.own.at e0
      obtain ⟨l, hl0⟩ : ∃ l, v0 = .ref l := by cases o0; exact ⟨_, rfl⟩
      subst hl0
      refine ⟨.ref l, eσ, rel.tyL e0 eσ, ?_⟩
      have hk : oks ct EX (eCons m eNil env) H M := by
        have := oks.bind (r := m env) (atE.oks q)
        unfold eCons eNil
        cases em : m env with
        | ok z => trivial
        | ex c => rw [em] at this; exact this
        | no => rw [em] at this; exact this
      refine tEs.mono (runEs rel hk) fun xs H1 ⟨F1, ts1, env1, N, e1, r1, hl, g1⟩ => ?_
      unfold eCons eNil at e1
      cases em : m env with
      | ex c => rw [em] at e1; cases e1
      | no => rw [em] at e1; cases e1
      | ok z =>
        obtain ⟨t, env2⟩ := z
        rw [em] at e1 q
        simp only [Rs.bind] at e1 q
        cases e1
        match xs, hl with
        | [y], _ =>
          split at q
          · rename_i ts e2
            split at q
            · rename_i hz
              obtain ⟨At, B, rfl, o, r2, nd, dis, dF⟩ := Rel.uncons r1
              obtain ⟨a, vs, Mt, A, C, eσ2, rfl, hHa, os, na, nm, n3, fM, upd1⟩ := r2.atL e2
              have : l = a := by
                have z : (σ[i]?) = some (some (V.ref a)) := eσ2
                rw [eσ] at z; cases z; rfl
              subst this
              refine ⟨l, vs, y, rfl, rfl, hHa, by rw [← os.length]; exact hz, ?_⟩
              have os1 : Ows X.K F1 H1 (ts ++ [t]) (vs ++ [y]) (Mt ++ At) := by
                have := os.append (Ows.cons o Ows.nil)
                rwa [List.append_nil] at this
              have r3 := upd1 _ _ _ os1 (fun h => (List.mem_append.mp h).elim na fun z => dis l z (by simp)) (List.nodup_append.mpr ⟨nm, nd, fun a ha b hb z => dis b hb (by subst z; simp [ha])⟩) (fun b hb h => by
                rcases List.mem_append.mp hb with z | z
                · exact n3 b (List.mem_cons_of_mem _ z) h
                · exact dis b z (by simp at h ⊢; rcases h with h | h <;> simp [h])) fun b hb => (List.mem_append.mp hb).elim (fM b) (dF b)
              have g3 : Go F1 H1 (At ++ (A ++ l :: Mt ++ C)) F1 (upd H1 l (.lst (vs ++ [y]))) (A ++ l :: (Mt ++ At) ++ C) := Go.updA hHa (by simp) fun b hb => by
                simp at hb ⊢
                rcases hb with h | h | h | h | h <;> simp [h]
              exact q _ _ .non _ (r3.cons (A := []) (.d .non) .nil (fun _ h => nomatch h) fun _ h => nomatch h) (g1.trans g3)
            · exact q.elim
          · exact q.elim
    · exact q.elim
theorem se_extd (i : Nat) {x : Str} {p : Pos} (hN : X.N[i]? = some x := by rfl) (ha : SEs X ct EX [e] (eCons m eNil)) (hv : Vis X.env.scope x := by first | exact Or.inl rfl | exact Or.inr (Or.inl rfl) | exact Or.inr (Or.inr rfl)) (hd : (x == ("__debug__" : Str)) = false := by decide)
    (hcd : (x == ("__classdict__" : Str)) = false := by decide)
    (hbase : attributeBase (.Name x p) "extend" X.env (eval (.Name x p) X.env) = eval (.Name x p) X.env := by rfl)
    (hfew : ((backTo cpos (starEach [e] X.env)).all (fun x => !x.1) && (backToKw cpos (keywordEach [] X.env)).all (fun x => x.1.isSome)
      && decide ([e].length + ([] : List Keyword).length + (if ([] : List Keyword).isEmpty then 0 else 1) < 30)) = true := by rfl)
    (hline : (apos.endLine == cpos.line) = true := by rfl) (hs : starEach [e] X.env = (false, eval e X.env) :: starEach [] X.env := by rfl) (hplain : (backTo cpos (starEach [] X.env)).any (·.1) = false := by rfl) :
    SE X ct EX (.Call (.Attribute (.Name x p) "extend" apos) [e] [] cpos) (eExtd i m) :=
  PE.imp (pe_bm PySem.F.plainAttrs_list PySem.F.slot_list_extend PySem.F.type_list_extend mt_extend (pe_var hN hv hd hcd) ha hbase hfew hline hs hplain) fun σ H Q ⟨F, env, M, rel, q⟩ => by
    unfold eExtd at q
    split at q
    · rename_i ts0 e0
      obtain ⟨v0, A0, B0, C0, eσ, _, o0, _⟩ := rel.own.at e0
      obtain ⟨l, hl0⟩ : ∃ l, v0 = .ref l := by cases o0; exact ⟨_, rfl⟩
      subst hl0
      refine ⟨.ref l, eσ, rel.tyL e0 eσ, ?_⟩
      have hk : oks ct EX (eCons m eNil env) H M := by
        have := oks.bind (r := m env) (atE.oks q)
        unfold eCons eNil
        cases em : m env with
        | ok z => trivial
        | ex c => rw [em] at this; exact this
        | no => rw [em] at this; exact this
      refine tEs.mono (runEs rel hk) fun xs H1 ⟨F1, ts1, env1, N, e1, r1, hl, g1⟩ => ?_
      unfold eCons eNil at e1
      cases em : m env with
      | ex c => rw [em] at e1; cases e1
      | no => rw [em] at e1; cases e1
      | ok z =>
        obtain ⟨t, env2⟩ := z
        rw [em] at e1 q
        simp only [Rs.bind] at e1 q
        cases e1
        match xs, hl with
        | [y], _ =>
          split at q
          · rename_i ts us e2 _
            split at q
            · rename_i hz
              obtain ⟨At0, B, rfl, o, r2, nd, dis, dF⟩ := Rel.uncons r1
              cases o with
              | @l _ ws b At hb osu =>
                obtain ⟨nb, nAt⟩ := List.nodup_cons.mp nd
                obtain ⟨a, vs, Mt, A, C, eσ2, rfl, hHa, os, na, nm, n3, fM, upd1⟩ := r2.atL e2
                have : l = a := by
                  have z : (σ[i]?) = some (some (V.ref a)) := eσ2
                  rw [eσ] at z; cases z; rfl
                subst this
                refine ⟨l, b, vs, ws, rfl, rfl, hHa, hb, by rw [← os.length, ← osu.length]; exact hz, ?_⟩
                have os1 := os.append osu
                have r3 := upd1 _ _ _ os1 (fun h => (List.mem_append.mp h).elim na fun z => dis l (by simp [z]) (by simp)) (List.nodup_append.mpr ⟨nm, nAt, fun a ha b hb z => dis b (by simp [hb]) (by subst z; simp [ha])⟩) (fun c hc h => by
                  rcases List.mem_append.mp hc with z | z
                  · exact n3 c (List.mem_cons_of_mem _ z) h
                  · exact dis c (by simp [z]) (by simp at h ⊢; rcases h with h | h <;> simp [h])) fun c hc => (List.mem_append.mp hc).elim (fM c) fun z => dF c (by simp [z])
                have g3 : Go F1 H1 (b :: At ++ (A ++ l :: Mt ++ C)) F1 (upd H1 l (.lst (vs ++ ws))) (A ++ l :: (Mt ++ At) ++ C) := Go.updA hHa (by simp) fun c hc => by
                  simp at hc ⊢
                  rcases hc with h | h | h | h | h <;> simp [h]
                exact q _ _ .non _ (r3.cons (A := []) (.d .non) .nil (fun _ h => nomatch h) fun _ h => nomatch h) (g1.trans g3)
            · exact q.elim
          · exact q.elim
    · exact q.elim
theorem se_pop (i : Nat) {x : Str} {p : Pos} (hN : X.N[i]? = some x := by rfl) (hv : Vis X.env.scope x := by first | exact Or.inl rfl | exact Or.inr (Or.inl rfl) | exact Or.inr (Or.inr rfl)) (hd : (x == ("__debug__" : Str)) = false := by decide)
    (hcd : (x == ("__classdict__" : Str)) = false := by decide)
    (hbase : attributeBase (.Name x p) "pop" X.env (eval (.Name x p) X.env) = eval (.Name x p) X.env := by rfl) (hline : (apos.endLine == cpos.line) = true := by rfl) :
    SE X ct EX (.Call (.Attribute (.Name x p) "pop" apos) [] [] cpos) (ePop i) :=
  PE.imp (pe_bm0 PySem.F.plainAttrs_list PySem.F.slot_list_pop PySem.F.type_list_pop mt_pop (pe_var hN hv hd hcd) hbase hline) fun σ H Q ⟨F, env, M, rel, q⟩ => by
    unfold ePop at q
    split at q
    · rename_i ts e0
      split at q
      · rename_i t et
        obtain ⟨l, vs, Mt, A, C, eσ, rfl, hHa, os, na, nm, n3, fM, upd1⟩ := rel.atL e0
        refine ⟨.ref l, eσ, rel.tyL e0 eσ, ?_⟩
        obtain ⟨v, A1, B1, C1, ev, rfl, o1, os1, _⟩ := os.erase et
        have hlen := os.length
        obtain ⟨nAC, nB, dB⟩ := mid nm
        refine ⟨l, vs, v, rfl, rfl, hHa, by rw [← hlen]; exact ev, ?_⟩
        have os2 : Ows X.K F H ts.dropLast vs.dropLast (A1 ++ C1) := by
          rw [← List.eraseIdx_length_sub_one, ← List.eraseIdx_length_sub_one, ← hlen]
          exact os1
        have r3 := upd1 _ _ _ os2 (fun h => na (by simp at h ⊢; rcases h with h | h <;> simp [h])) nAC (fun b hb => n3 b (by simp at hb ⊢; rcases hb with h | h <;> simp [h])) fun b hb => fM b (by simp at hb ⊢; rcases hb with h | h <;> simp [h])
        have o2 : Ow X.K F (upd H l (.lst vs.dropLast)) t v B1 := o1.keep (Same.refl _) fun b hb o e => by
          rw [upd_ne (fun z => na (by subst z; simp [hb]))]; exact e
        have r4 := r3.cons o2 nB (fun b hb h => by
          simp only [List.mem_append, List.mem_cons] at h
          rcases h with (h | h | h | h) | h
          · exact n3 b (by simp [hb]) (by simp [h])
          · exact na (by subst h; simp [hb])
          · exact dB b hb (by simp [h])
          · exact dB b hb (by simp [h])
          · exact n3 b (by simp [hb]) (by simp [h])) fun b hb => fM b (by simp [hb])
        refine q _ _ v _ r4 (Go.updA hHa (by simp) fun b hb => ?_)
        simp at hb ⊢
        rcases hb with h | h | h | h | h | h <;> simp [h]
      · exact q.elim
    · exact q.elim
theorem se_popAt (i : Nat) {x : Str} {p : Pos} (hN : X.N[i]? = some x := by rfl) (ha : SEs X ct EX [e] (eCons m eNil)) (hv : Vis X.env.scope x := by first | exact Or.inl rfl | exact Or.inr (Or.inl rfl) | exact Or.inr (Or.inr rfl)) (hd : (x == ("__debug__" : Str)) = false := by decide)
    (hcd : (x == ("__classdict__" : Str)) = false := by decide)
    (hbase : attributeBase (.Name x p) "pop" X.env (eval (.Name x p) X.env) = eval (.Name x p) X.env := by rfl)
    (hfew : ((backTo cpos (starEach [e] X.env)).all (fun x => !x.1) && (backToKw cpos (keywordEach [] X.env)).all (fun x => x.1.isSome)
      && decide ([e].length + ([] : List Keyword).length + (if ([] : List Keyword).isEmpty then 0 else 1) < 30)) = true := by rfl)
    (hline : (apos.endLine == cpos.line) = true := by rfl) (hs : starEach [e] X.env = (false, eval e X.env) :: starEach [] X.env := by rfl) (hplain : (backTo cpos (starEach [] X.env)).any (·.1) = false := by rfl) :
    SE X ct EX (.Call (.Attribute (.Name x p) "pop" apos) [e] [] cpos) (ePopAt i m) :=
  PE.imp (pe_bm PySem.F.plainAttrs_list PySem.F.slot_list_pop PySem.F.type_list_pop mt_popAt (pe_var hN hv hd hcd) ha hbase hfew hline hs hplain) fun σ H Q ⟨F, env, M, rel, q⟩ => by
    unfold ePopAt at q
    split at q
    · rename_i ts0 e0
      obtain ⟨v0, A0, B0, C0, eσ, _, o0, _⟩ := rel.own.at e0
      obtain ⟨l, hl0⟩ : ∃ l, v0 = .ref l := by cases o0; exact ⟨_, rfl⟩
      subst hl0
      refine ⟨.ref l, eσ, rel.tyL e0 eσ, ?_⟩
      have hk : oks ct EX (eCons m eNil env) H M := by
        have := oks.bind (r := m env) (atE.oks q)
        unfold eCons eNil
        cases em : m env with
        | ok z => trivial
        | ex c => rw [em] at this; exact this
        | no => rw [em] at this; exact this
      refine tEs.mono (runEs rel hk) fun xs H1 ⟨F1, ts1, env1, N, e1, r1, hl, g1⟩ => ?_
      unfold eCons eNil at e1
      cases em : m env with
      | ex c => rw [em] at e1; cases e1
      | no => rw [em] at e1; cases e1
      | ok z =>
        obtain ⟨t, env2⟩ := z
        rw [em] at e1 q
        simp only [Rs.bind] at e1 q
        cases e1
        match xs, hl with
        | [y], _ =>
          split at q
          · rename_i ts k e2 _
            split at q
            · rename_i hz
              split at q
              · rename_i j ej
                split at q
                · rename_i t et
                  obtain ⟨At0, B, rfl, o, r2, nd, dis, dF⟩ := Rel.uncons r1
                  have : y = .int k := by cases o with | d o => cases o; rfl
                  subst this
                  obtain ⟨a, vs, Mt, A, C, eσ2, rfl, hHa, os, na, nm, n3, fM, upd1⟩ := r2.atL e2
                  have : l = a := by
                    have z : (σ[i]?) = some (some (V.ref a)) := eσ2
                    rw [eσ] at z; cases z; rfl
                  subst this
                  obtain ⟨v, A1, B1, C1, ev, rfl, o1, os1, _⟩ := os.erase et
                  obtain ⟨nAC, nB, dB⟩ := mid nm
                  refine ⟨l, vs, k, j, v, rfl, rfl, hHa, hz.1, hz.2, by rw [← os.length]; exact ej, ev, ?_⟩
                  have r3 := upd1 _ _ _ os1 (fun h => na (by simp at h ⊢; rcases h with h | h <;> simp [h])) nAC (fun b hb => n3 b (by simp at hb ⊢; rcases hb with h | h <;> simp [h])) fun b hb => fM b (by simp at hb ⊢; rcases hb with h | h <;> simp [h])
                  have o2 : Ow X.K F1 (upd H1 l (.lst (vs.eraseIdx j))) t v B1 := o1.keep (Same.refl _) fun b hb o e => by
                    rw [upd_ne (fun z => na (by subst z; simp [hb]))]; exact e
                  have r4 := r3.cons o2 nB (fun b hb h => by
                    simp only [List.mem_append, List.mem_cons] at h
                    rcases h with (h | h | h | h) | h
                    · exact n3 b (by simp [hb]) (by simp [h])
                    · exact na (by subst h; simp [hb])
                    · exact dB b hb (by simp [h])
                    · exact dB b hb (by simp [h])
                    · exact n3 b (by simp [hb]) (by simp [h])) fun b hb => fM b (by simp [hb])
                  refine q _ _ v _ r4 (g1.trans (Go.updA hHa (by simp) fun b hb => ?_))
                  simp at hb ⊢
                  rcases hb with h | h | h | h | h | h <;> simp [h]
                · exact q.elim
              · exact q.elim
            · exact q.elim
          · exact q.elim
    · exact q.elim
end
end Mi

set_option maxHeartbeats 200000
namespace Mi
open PySem PySem.Spec PyProof.Rows L2
variable [Tb]

/-- one place of a list, its value the same address -/
theorem Ows.at {K : PySem.W.Frag} {F H : Hp} : ∀ {ts : List T} {vs : List V} {M : List Addr} (_ : Ows K F H ts vs M) {j : Nat} {t : T}, ts[j]? = some t → ∃ v A B C, vs[j]? = some v ∧ M = A ++ B ++ C ∧ Ow K F H t v B ∧
    ∀ F' H', Same F F' → (∀ a ∈ A ++ C, ∀ o, H a = some o → H' a = some o) → ∀ t' N', Ow K F' H' t' v N' → Ows K F' H' (ts.set j t') vs (A ++ N' ++ C)
  | _, _, _, .nil, _, _, e => by cases e
  | _, _, _, .cons (M := M1) (N := N1) o os, 0, t, e => by
    cases e
    exact ⟨_, [], M1, N1, rfl, rfl, o, fun F' H' sF kp t' N' o' => .cons o' (os.keep sF kp)⟩
  | _, _, _, .cons (M := M1) o os, j + 1, t, e => by
    obtain ⟨v, A, B, C, e1, rfl, o1, k⟩ := Ows.at os (j := j) (by simpa using e)
    refine ⟨v, M1 ++ A, B, C, by simpa using e1, by simp, o1, fun F' H' sF kp t' N' o' => ?_⟩
    have := Ows.cons (o.keep sF fun a ha o e => kp a (by simp [ha]) o e) (k F' H' sF (fun a ha o e => kp a (by simp at ha ⊢; rcases ha with z | z <;> simp [z]) o e) t' N' o')
    rw [show M1 ++ A ++ N' ++ C = M1 ++ (A ++ N' ++ C) by simp]; exact this
theorem ixN_lt {n : Nat} {k : Int} {j : Nat} (h : ixN n k = some j) : j < n := (ixN_seq h).2.1
section
variable {K : PySem.W.Frag} {F H F' H' F1 H1 : Hp} {env env' : Env} {σ σ' σ1 : Sg} {M M' N : List Addr} {i : Nat} {ts : List T}
/-- one place of a slot's list gets t (that stood beside) -/
theorem Rel.setAt {t : T} {v : V} {l : Addr} (r : Rel K F H (some t :: env) (some v :: σ) N) (e : env[i]? = some (some (.l ts))) (eσ : σ[i]? = some (some (.ref l))) {j : Nat} (hj : j < ts.length) :
    ∃ vs, H l = some (.lst vs) ∧ ts.length = vs.length ∧ ∃ M', Rel K F (upd H l (.lst (vs.set j v))) (env.set i (some (.l (ts.set j t)))) σ M' ∧ Go F H N F (upd H l (.lst (vs.set j v))) M' := by
  obtain ⟨At, B, rfl, o, r2, nd, dis, dF⟩ := r.uncons
  obtain ⟨a, vs, Mt, A, C, eσ2, rfl, hHa, os, na, nm, n3, fM, upd1⟩ := r2.atL e
  have : l = a := by rw [eσ] at eσ2; cases eσ2; rfl
  subst this
  obtain ⟨w, A1, B1, C1, ev, rfl, o1, _, st⟩ := os.erase (List.getElem?_eq_getElem hj)
  obtain ⟨nAC, nB, dB⟩ := mid nm
  have os1 := st t v At o
  refine ⟨vs, hHa, os.length, _, upd1 _ _ _ os1 (fun h => ?_) (mid' nAC nd fun b hb h => dis b hb ?_) (fun b hb h => ?_) (fun b hb => ?_), Go.updA hHa (by simp) fun b hb => ?_⟩
  · simp only [List.mem_append] at h
    rcases h with (h | h) | h
    · exact na (by simp [h])
    · exact dis l h (by simp)
    · exact na (by simp [h])
  · simp at h ⊢; rcases h with h | h <;> simp [h]
  · simp only [List.mem_append] at hb
    rcases hb with (hb | hb) | hb
    · exact n3 b (by simp [hb]) h
    · exact dis b hb (by simp at h ⊢; rcases h with h | h <;> simp [h])
    · exact n3 b (by simp [hb]) h
  · simp only [List.mem_append] at hb
    rcases hb with (hb | hb) | hb
    · exact fM b (by simp [hb])
    · exact dF b hb
    · exact fM b (by simp [hb])
  · simp at hb ⊢
    rcases hb with h | h | h | h | h | h <;> simp [h]
end
def gIx (i : Nat) (pi : PM) : T → Env → Rs Env := fun t env => match env[i]? with
  | some (some (.l ts)) => (pi env).bind fun u => (tInt u).bind fun k => match ixN ts.length k with
    | some j => .ok (env.set i (some (.l (ts.set j t))))
    | none => .no
  | _ => .no
/-- far[i][j] -/
def gIx2 (i : Nat) (pi pj : PM) : T → Env → Rs Env := fun t env => match env[i]? with
  | some (some (.l ts)) => (pi env).bind fun u => (tInt u).bind fun k => match ixN ts.length k with
    | some h => match ts[h]? with
      | some (.l us) => (pj env).bind fun w => (tInt w).bind fun k2 => match ixN us.length k2 with
        | some j => .ok (env.set i (some (.l (ts.set h (.l (us.set j t))))))
        | none => .no
      | _ => .no
    | none => .no
  | _ => .no
section
variable {X : Cx} {ct : Nat → Addr} {EX : XK} {pn : List Nat} {a b c e tg ix : Expr} {es : List Expr} {ma mb m : EM} {pi pj : PM} {pos apos cpos : Pos}
theorem sge_ix (i : Nat) {x : Str} {p : Pos} (hi : SV X ct EX ix pi) (hN : X.N[i]? = some x := by rfl) (hv : Vis X.env.scope x := by first | exact Or.inl rfl | exact Or.inr (Or.inl rfl) | exact Or.inr (Or.inr rfl)) (hd : (x == ("__debug__" : Str)) = false := by decide)
    (hcd : (x == ("__classdict__" : Str)) = false := by decide)
    (ha : ∀ v, assign (.Subscript (.Name x p) ix pos) X.env v = (do
      let ov ← holding [v] (eval (.Name x p) X.env)
      let iv ← holding [v, ov] (eval ix X.env)
      standAt pos
      holding [v, ov, iv] (setItem ov iv v)
      release [v, ov, iv] []) := by intro _; rfl) : SGE X ct EX pn (.Subscript (.Name x p) ix pos) (gIx i pi) :=
  PG.imp (pg_sub (pe_var hN hv hd hcd) hi set_list ha) fun v σ H Q ⟨F, env, t, M, rel, q⟩ => by
    obtain ⟨At, B, rfl, o, r1, nd, dis, dF⟩ := rel.uncons
    unfold gIx at q
    split at q
    · rename_i ts e0
      obtain ⟨l, vs0, _, _, _, eσ, _, _, _⟩ := r1.atL e0
      refine ⟨.ref l, eσ, ?_⟩
      have hk : oks ct EX (pi env) H B := by
        cases e1 : pi env with
        | ok u => trivial
        | ex c => rw [e1] at q; exact exq.sub q fun a ha => List.mem_append_right _ ha
        | no => rw [e1] at q; exact q
      refine tV.mono (runV r1 hk) fun y H1 ⟨F1, u, e1, x1, v1⟩ => ?_
      simp only [e1, Rs.bind] at q
      rcases tInt_no (t := u) with ⟨k, e2⟩ | e2
      · rw [e2] at q
        simp only [Rs.bind] at q
        cases tInt_inv v1 e2
        split at q
        · rename_i j ej
          have rel1 : Rel X.K F1 H1 (some t :: env) (some v :: σ) (At ++ B) := rel.ext x1
          obtain ⟨vs, hH, hl, M', r', g'⟩ := rel1.setAt e0 eσ (ixN_lt ej)
          refine ⟨l, vs, k, j, rfl, rfl, hH, by rw [← hl]; exact ej, q F1 _ σ M' r' (x1.go.trans g') Pn.refl⟩
        · exact q.elim
      · rw [e2] at q; exact q.elim
    · exact q.elim
/-- the inner list of a list of one's own lists -/
theorem sge_ix2 (i : Nat) {x : Str} {p ps : Pos} {iy : Expr} (hi : SV X ct EX ix pi) (hj : SV X ct EX iy pj) (hN : X.N[i]? = some x := by rfl) (hs : PlainIx ix := by intro _ _; rfl) (hv : Vis X.env.scope x := by first | exact Or.inl rfl | exact Or.inr (Or.inl rfl) | exact Or.inr (Or.inr rfl)) (hd : (x == ("__debug__" : Str)) = false := by decide)
    (hcd : (x == ("__classdict__" : Str)) = false := by decide)
    (ha : ∀ v, assign (.Subscript (.Subscript (.Name x p) ix ps) iy pos) X.env v = (do
      let ov ← holding [v] (eval (.Subscript (.Name x p) ix ps) X.env)
      let iv ← holding [v, ov] (eval iy X.env)
      standAt pos
      holding [v, ov, iv] (setItem ov iv v)
      release [v, ov, iv] []) := by intro _; rfl) : SGE X ct EX pn (.Subscript (.Subscript (.Name x p) ix ps) iy pos) (gIx2 i pi pj) :=
  PG.imp (pg_sub (pe_ix ix_list (pe_var hN hv hd hcd) hi hs) hj set_list ha) fun v σ H Q ⟨F, env, t, M, rel, q⟩ => by
    obtain ⟨At, B, rfl, o, r1, nd, dis, dF⟩ := rel.uncons
    unfold gIx2 at q
    split at q
    · rename_i ts e0
      obtain ⟨l, vs0, Mt0, A0, C0, eσ, _, hHl, os0, _⟩ := r1.atL e0
      refine ⟨.ref l, eσ, ?_⟩
      have hk : oks ct EX (pi env) H B := by
        cases e1 : pi env with
        | ok u => trivial
        | ex c => rw [e1] at q; exact exq.sub q fun a ha => List.mem_append_right _ ha
        | no => rw [e1] at q; exact q
      refine tV.mono (runV r1 hk) fun y H1 ⟨F1, u, e1, x1, v1⟩ => ?_
      simp only [e1, Rs.bind] at q
      rcases tInt_no (t := u) with ⟨k, e2⟩ | e2
      · rw [e2] at q
        simp only [Rs.bind] at q
        cases tInt_inv v1 e2
        split at q
        · rename_i h eh
          split at q
          · rename_i us eu
            have rel1 : Rel X.K F1 H1 (some t :: env) (some v :: σ) (At ++ B) := rel.ext x1
            have r2 : Rel X.K F1 H1 env σ B := r1.ext x1
            obtain ⟨l', vs, Mt, A, C, eσ2, eB, hHa, os, na, nm, n3, fM, upd1⟩ := r2.atL e0
            have : l = l' := by rw [eσ] at eσ2; cases eσ2; rfl
            subst this
            obtain ⟨w, A1, B1, C1, ev, eMt, o1, _, st⟩ := os.erase eu
            cases o1 with
            | @l _ ws b Mu hb osu =>
              refine ⟨l, vs, k, .ref b, rfl, rfl, .inl (.inl hHa), ?_, ?_⟩
              · show (ixN vs.length k).bind (fun j => vs[j]?) = some (V.ref b); rw [← os.length, eh]; exact ev
              have hk2 : oks ct EX (pj env) H1 B := by
                cases e3 : pj env with
                | ok u => trivial
                | ex c => rw [e3] at q; exact (exq.ext q x1.h).sub fun a ha => List.mem_append_right _ ha
                | no => rw [e3] at q; exact q
              refine tV.mono (runV r2 hk2) fun y2 H2 ⟨F2, u2, e3, x2, v2⟩ => ?_
              simp only [e3, Rs.bind] at q
              rcases tInt_no (t := u2) with ⟨k2, e4⟩ | e4
              · rw [e4] at q
                simp only [Rs.bind] at q
                cases tInt_inv v2 e4
                split at q
                · rename_i j ej
                  have rel2 : Rel X.K F2 H2 (some t :: env) (some v :: σ) (At ++ B) := rel1.ext x2
                  clear st
                  obtain ⟨At', B', eAB, o', r3, nd', dis', dF'⟩ := rel2.uncons
                  obtain ⟨l2, A3, B3, C3, eσ3, eB3, o3, k3⟩ := r3.own.at e0
                  have : l2 = .ref l := by rw [eσ] at eσ3; cases eσ3; rfl
                  subst this
                  cases o3 with
                  | @l _ vs3 _ Mt3 hl3 os3 =>
                    have hl1 : H2 l = some (.lst vs) := x2.h.at hHa nt_lst
                    have : vs3 = vs := by rw [hl1] at hl3; cases hl3; rfl
                    subst this
                    obtain ⟨w3, A4, B4, C4, ev4, eMt4, o4, st4⟩ := os3.at eu
                    have : w3 = .ref b := by rw [ev] at ev4; cases ev4; rfl
                    subst this
                    cases o4 with
                    | @l _ ws3 _ Mu3 hb3 osu3 =>
                      have hb1 : H2 b = some (.lst ws) := x2.h.at hb nt_lst
                      have : ws3 = ws := by rw [hb1] at hb3; cases hb3; rfl
                      subst this
                      refine ⟨b, ws3, k2, j, rfl, rfl, hb1, by rw [← osu3.length]; exact ej, ?_⟩
                      obtain ⟨w5, A5, B5, C5, ev5, eMu5, o5, _, st5⟩ := osu3.erase (List.getElem?_eq_getElem (ixN_lt ej))
                      subst eMu5 eMt4 eB3
                      have nB3 := r3.nd
                      obtain ⟨nAC3, nB3', dB3⟩ := mid nB3
                      obtain ⟨nl, nMt⟩ := List.nodup_cons.mp nB3'
                      obtain ⟨nAC4, nB4, dB4⟩ := mid nMt
                      obtain ⟨nb4, nMu⟩ := List.nodup_cons.mp nB4
                      obtain ⟨nAC5, nB5, dB5⟩ := mid nMu
                      have hbl : b ≠ l := fun z => nl (by subst z; simp)
                      have kp : ∀ c, c ≠ b → ∀ o, H2 c = some o → upd H2 b (.lst (ws3.set j v)) c = some o := fun c hc o e => by rw [upd_ne hc]; exact e
                      have fb : F2 b = none := r3.dis b (by simp)
                      have dAt : ∀ c ∈ At', c ∉ A3 ++ (l :: (A4 ++ (b :: (A5 ++ B5 ++ C5)) ++ C4)) ++ C3 := dis'
                      have oin : Ow X.K F2 (upd H2 b (.lst (ws3.set j v))) (.l (us.set j t)) (.ref b) (b :: (A5 ++ At' ++ C5)) := .l upd_same ((st5 t v At' o').keep (Same.refl _) fun c hc o e => kp c (fun z => by
                        subst z
                        simp only [List.mem_append] at hc
                        rcases hc with (h | h) | h
                        · exact nb4 (by simp [h])
                        · exact dAt c h (by simp)
                        · exact nb4 (by simp [h])) o e)
                      have oout := st4 F2 (upd H2 b (.lst (ws3.set j v))) (Same.refl _) (fun c hc o e => kp c (fun z => dB4 b (by simp) (by rw [← z]; exact hc)) o e) _ _ oin
                      have olst : Ow X.K F2 (upd H2 b (.lst (ws3.set j v))) (.l (ts.set h (.l (us.set j t)))) (.ref l) (l :: (A4 ++ (b :: (A5 ++ At' ++ C5)) ++ C4)) := .l (kp l (fun z => hbl z.symm) _ hl1) oout
                      obtain ⟨_, k4⟩ := k3 F2 (upd H2 b (.lst (ws3.set j v))) (Same.refl _) fun c hc o e => kp c (fun z => dB3 b (by simp) (by rw [← z]; exact hc)) o e
                      have sl := k4 _ _ olst
                      refine q F2 _ σ _ ⟨fun c o e => kp c (ne_of_none e fb) o (r3.sub _ _ e), r3.tb.upd hb1, sl, ?_, fun c hc => ?_⟩ ((x1.trans x2).go.trans (eAB ▸ Go.updA hb1 (by simp) fun c hc => ?_)) Pn.refl
                      · refine mid' nAC3 (List.nodup_cons.mpr ⟨fun hc => ?_, mid' nAC4 (List.nodup_cons.mpr ⟨fun hc => ?_, mid' nAC5 nd' fun c hc z => dAt c hc (by simp at z ⊢; rcases z with z | z <;> simp [z])⟩) fun c hc z => ?_⟩) fun c hc z => ?_
                        · simp only [List.mem_append, List.mem_cons] at hc
                          rcases hc with (hc | hc | (hc | hc) | hc) | hc
                          · exact nl (by simp [hc])
                          · exact hbl hc.symm
                          · exact nl (by simp [hc])
                          · exact dAt l hc (by simp)
                          · exact nl (by simp [hc])
                          · exact nl (by simp [hc])
                        · simp only [List.mem_append] at hc
                          rcases hc with (hc | hc) | hc
                          · exact nb4 (by simp [hc])
                          · exact dAt b hc (by simp)
                          · exact nb4 (by simp [hc])
                        · simp only [List.mem_append, List.mem_cons] at hc
                          rcases hc with hc | (hc | hc) | hc
                          · exact dB4 c (by simp [hc]) z
                          · exact dB4 c (by simp [hc]) z
                          · exact dAt c hc (by simp at z ⊢; rcases z with z | z <;> simp [z])
                          · exact dB4 c (by simp [hc]) z
                        · simp only [List.mem_append, List.mem_cons] at hc
                          rcases hc with hc | (hc | hc | (hc | hc) | hc) | hc
                          · exact dB3 c (by simp [hc]) z
                          · exact dB3 c (by simp [hc]) z
                          · exact dB3 c (by simp [hc]) z
                          · exact dB3 c (by simp [hc]) z
                          · exact dAt c hc (by simp at z ⊢; rcases z with z | z <;> simp [z])
                          · exact dB3 c (by simp [hc]) z
                          · exact dB3 c (by simp [hc]) z
                      · simp only [List.mem_append, List.mem_cons] at hc
                        rcases hc with (hc | hc | (hc | hc | (hc | hc) | hc) | hc) | hc
                        · exact r3.dis c (by simp [hc])
                        · exact r3.dis c (by simp [hc])
                        · exact r3.dis c (by simp [hc])
                        · exact r3.dis c (by simp [hc])
                        · exact r3.dis c (by simp [hc])
                        · exact dF' c hc
                        · exact r3.dis c (by simp [hc])
                        · exact r3.dis c (by simp [hc])
                        · exact r3.dis c (by simp [hc])
                      · simp only [List.mem_append, List.mem_cons] at hc ⊢
                        rcases hc with (hc | hc | (hc | hc | (hc | hc) | hc) | hc) | hc <;> simp [hc]
                · exact q.elim
              · rw [e4] at q; exact q.elim
          · exact q.elim
        · exact q.elim
      · rw [e2] at q; exact q.elim
    · exact q.elim
end
end Mi

set_option maxHeartbeats 200000
namespace Mi
open PySem PySem.Spec PyProof.Rows L2
variable [Tb]

section
variable {K : PySem.W.Frag} {F H F' H' F1 H1 : Hp} {env env' : Env} {σ σ' σ1 : Sg} {M M' N : List Addr} {i : Nat} {ts : List T} {vs : List V} {t : T} {v : V}
/-- the first of several brought next to the slots, the others framed -/
theorem Rel.first (hl : ts.length = vs.length) (r : Rel K F H (some t :: (ts.map some ++ env)) (some v :: (vs.map some ++ σ)) N) :
    ∃ A B, Rel K F H (some t :: env) (some v :: σ) B ∧ Ows K F H ts vs A ∧ A.Nodup ∧ (∀ a ∈ A, a ∉ B) ∧ (∀ a ∈ A, F a = none) ∧ (∀ a ∈ A ++ B, a ∈ N) := by
  obtain ⟨A1, B1, rfl, o, r1, nd, dis, dF⟩ := r.uncons
  obtain ⟨A2, B2, rfl, os, r2, nd2, dis2, dF2⟩ := r1.unconsS hl
  refine ⟨A2, A1 ++ B2, r2.cons o nd (fun a ha h => dis a ha (by simp [h])) dF, os, nd2, fun a ha h => ?_, dF2, fun a ha => ?_⟩
  · rcases List.mem_append.mp h with z | z
    · exact dis a z (by simp [ha])
    · exact dis2 a ha z
  · simp at ha ⊢; rcases ha with h | h | h <;> simp [h]
end
section
variable {X : Cx} {ct : Nat → Addr} {EX : XK} {pn : List Nat} {a b c e tg ix : Expr} {es tgs : List Expr} {ma mb m : EM} {pi pj : PM} {pos apos cpos : Pos} {ms : EMs} {D : Ends}
theorem atG.ok {K : PySem.W.Frag} {F H : Hp} {σ : Sg} {M : List Addr} {r : Rs Env} {Q : Sg → Hp → Prop} (h : atG K ct EX pn r F H σ M Q) : oks ct EX r H M := by
  cases r with
  | ok t => trivial
  | ex c => exact h
  | no => exact h
def gsNil : List T → Env → Rs Env := fun ts env => match ts with
  | [] => .ok env
  | _ => .no
def gsCons (g : T → Env → Rs Env) (gs : List T → Env → Rs Env) : List T → Env → Rs Env := fun ts env => match ts with
  | t :: ts => (g t env).bind fun env1 => gs ts env1
  | [] => .no
theorem sges_nil : SGEs X ct EX pn [] gsNil := PGs.imp pgs_nil fun vs σ H Q ⟨F, env, ts, M, rel, hl, q⟩ => by
  unfold gsNil at q
  split at q
  · cases vs with
    | nil => exact ⟨rfl, q F H σ M rel (Go.refl rel.sub) Pn.refl⟩
    | cons _ _ => cases hl
  · exact q.elim
theorem sges_cons {g : T → Env → Rs Env} {gs : List T → Env → Rs Env} (h1 : SGE X ct EX pn e g) (h2 : SGEs X ct EX pn es gs) (hs : (assignEach (e :: es) X.env).map (·.2) = assign e X.env :: (assignEach es X.env).map (·.2) := by rfl) : SGEs X ct EX pn (e :: es) (gsCons g gs) :=
  PGs.imp (pgs_cons h1 h2 hs) fun vs σ H Q ⟨F, env, ts, M, rel, hl, q⟩ => by
    unfold gsCons at q
    split at q
    · rename_i t ts
      cases vs with
      | nil => cases hl
      | cons v vs =>
        have hl' : ts.length = vs.length := by simpa using hl
        obtain ⟨A, B, r1, os, nd, dis, dF, sub⟩ := Rel.first hl' rel
        refine ⟨v, vs, rfl, F, env, t, B, r1, ?_⟩
        cases e1 : g t env with
        | ex c => rw [e1] at q; exact exq.sub q fun a ha => sub a (List.mem_append_right _ ha)
        | no => rw [e1] at q; exact q
        | ok env1 =>
          rw [e1] at q
          simp only [Rs.bind] at q
          intro F1 H1 σ1 M1 r2 g2 p2
          obtain ⟨r3, g3⟩ := Rel.framedS os nd dis dF g2 r2
          have g4 := g3.up sub
          refine ⟨F1, env1, ts, A ++ M1, r3, hl', ?_⟩
          cases e2 : gs ts env1 with
          | ex c => rw [e2] at q; exact exq.go q g4
          | no => rw [e2] at q; exact q
          | ok env2 => rw [e2] at q; exact fun F5 H5 σ5 M5 r5 g5 p5 => q F5 H5 σ5 M5 r5 (g4.trans g5) (p2.trans p5)
    · exact q.elim
/-- the things of a display one by one into targets -/
theorem ss_tupAsg {gs : List T → Env → Rs Env} {k k2 : Nat} {pt p2 : Pos} (hc : X.calm = true) (ha : SEs X ct EX es ms) (hg : SGEs X ct EX pn tgs gs) (hn : (assignEach tgs X.env).length = es.length := by rfl) (hz : es.length ≤ sizeLine := by decide) (hst : (assignEach tgs X.env).findIdx? (·.1) = none := by rfl)
    (hs : swapsWithSole [.Tuple tgs k pt] (.Tuple es k2 p2) pos.line X.env = pure false := by rfl) (hw : swappedStores [.Tuple tgs k pt] (.Tuple es k2 p2) X.env = pure none := by rfl)
    (h1 : (assignEach [.Tuple tgs k pt] X.env).map (·.2) = [assign (.Tuple tgs k pt) X.env] := by rfl) (hlen : ∀ env ts env1, ms env = .ok (ts, env1) → ts.length = es.length) :
    SS X ct EX pn (.Assign [.Tuple tgs k pt] (.Tuple es k2 p2) pos) (sAsgs ms gs) :=
  PS.imp (ps_asg (pe_tup ha) (pg_tup hc hg hn hst) hs hw h1) fun D σ H ⟨F, env, M, rel, q⟩ => asgs_core rel q fun F1 ts env1 N xs H1 e1 r1 hl g1 q1 => by
    have hxl : xs.length = es.length := by rw [← hl]; exact hlen _ _ _ e1
    refine ⟨by rw [hxl]; exact hz, fun p np => ⟨p, xs, rfl, .inl (.inl upd_same), hxl, ?_⟩⟩
    have x := Ext.own (o := .tup xs) r1.sub np
    refine ⟨F1, env1, ts, N, r1.ext x, hl, ?_⟩
    cases e2 : gs ts env1 with
    | ex c => rw [e2] at q1; exact exq.ext q1 x.h
    | no => rw [e2] at q1; exact q1
    | ok env2 => rw [e2] at q1; exact fun F5 H5 σ5 M5 r5 g5 p5 => q1 F5 H5 σ5 M5 r5 (x.go.trans g5) p5
/-- an argument list's number -/
inductive EmLen : EMs → Nat → Prop
  | nil : EmLen eNil 0
  | cons {p : EM} {ps : EMs} {n : Nat} : EmLen ps n → EmLen (eCons p ps) (n + 1)
theorem EmLen.ok {n : Nat} (h : EmLen ms n) : ∀ (env : Env) (ts : List T) (env1 : Env), ms env = .ok (ts, env1) → ts.length = n := by
  induction h with
  | nil => intro env ts env1 e; cases e; rfl
  | @cons p ps n h ih =>
    intro env ts env1 e
    unfold eCons at e
    cases e1 : p env with
    | ex c => rw [e1] at e; cases e
    | no => rw [e1] at e; cases e
    | ok t =>
      simp only [e1, Rs.bind] at e
      cases e2 : ps t.2 with
      | ex c => rw [e2] at e; cases e
      | no => rw [e2] at e; cases e
      | ok us => rw [e2] at e; cases e; simp [ih _ _ _ e2]
/-! ### += -/
def oIAdd (t u : T) : Option T := match t, u with
  | .d (.int i), .d (.int j) => some (.d (.int (i + j)))
  | .d (.str x), .d (.str y) => if x.length + y.length ≤ sizeLine then some (.d (.str (x ++ y))) else none
  | _, _ => none
def sAug (i : Nat) (m : EM) : SM := fun env => match env[i]? with
  | some (some (.d x)) => (m env).bind fun p => (Rs.of (oIAdd (.d x) p.1)).bind fun r => (Rs.of (p.2.put i r)).bind fun env' => .ok (.nx, env')
  | _ => .no
theorem ip_iadd {K : PySem.W.Frag} {F H : Hp} {t u r : T} {x y : V} {pins : List (Addr × Obj)} {s : Shared} {σ : Sg} {v w : Value} {Q : VK} (I : L2.Inv X pins σ H s) (sub : Same F H) (rx : RelV x v) (ry : RelV y w) (v1 : Vw K F H t x) (v2 : Vw K F H u y) (e : oIAdd t u = some r)
    (h : ∀ z, (∀ F' : Hp, Dp K F' z r.frz) → (∃ d, r = .d d) → Q z H) : wpAny (model X.prog X.w) X.A (inplaceOp .Add v w) (EP X pins σ Q) X.xe s := by
  match t, u, v1, v2, e with
  | .d (.int i), .d (.int j), v1, v2, e =>
    have e : some (T.d (.int (i + j))) = some r := e
    cases e
    cases Vw_int v1
    cases Vw_int v2
    exact ip_add pins s σ H _ _ v w Q I rx ry ⟨_, _, rfl, rfl, h _ (fun _ => by rw [T.frz]; exact .int _) ⟨_, rfl⟩⟩
  | .d (.str a), .d (.str b), v1, v2, e =>
    have e : (if a.length + b.length ≤ sizeLine then some (T.d (.str (a ++ b))) else none) = some r := e
    by_cases hz : a.length + b.length ≤ sizeLine
    · rw [if_pos hz] at e
      cases e
      cases v1 with | d v1 => cases v1 with | str => cases v2 with | d v2 => cases v2 with | str =>
        exact iop_add_str pins s σ H _ _ v w Q I rx ry ⟨_, _, rfl, rfl, hz, h _ (fun _ => by rw [T.frz]; exact .str _) ⟨_, rfl⟩⟩
    · rw [if_neg hz] at e; cases e
def rIAdd (K : PySem.W.Frag) : TIp := fun x y H Q => ∃ F t u r, Same F H ∧ Vw K F H t x ∧ Vw K F H u y ∧ oIAdd t u = some r ∧ ∀ z, (∀ F' : Hp, Dp K F' z r.frz) → (∃ d, r = .d d) → Q z H
theorem ip_iaddR : PIp X .Add (rIAdd X.K) := fun pins s σ H x y v w Q I rx ry ⟨F, t, u, r, sub, v1, v2, e, h⟩ => ip_iadd I sub rx ry v1 v2 e h
theorem ss_aug (i : Nat) {x : Str} {p : Pos} (hN : X.N.Nodup) (he : SE X ct EX e m) (hi : X.N[i]? = some x := by rfl) (hp : i ∉ pn := by decide) (hx : Loc X.env.scope x := by first | exact .inl rfl | exact .inr rfl) (hf : X.fn x = true ∨ X.env.scope.names.lookup x = some .local := by first | exact .inl rfl | exact .inr rfl | assumption) :
    SS X ct EX pn (.AugAssign (.Name x p) .Add e pos) (sAug i m) :=
  PS.imp (ps_aug hN hi hx he ip_iaddR hf) fun D σ H ⟨F, env, M, rel, q⟩ => by
    unfold sAug at q
    split at q
    · rename_i y ey
      obtain ⟨v, N0, ev, o, _⟩ := rel.own.get ey
      refine ⟨v, ev, ?_⟩
      have dv : Dp X.K F v y := by cases o with | d o => exact o
      refine tE.mono (runE rel (oks.bind (r := m env) q.oks)) fun z H1 ⟨F1, t, env1, N, e1, r1, g1⟩ => ?_
      simp only [e1, Rs.bind] at q
      obtain ⟨A, B, rfl, o1, r2, nd, dis, dF⟩ := r1.uncons
      cases e2 : oIAdd (.d y) t with
      | none => rw [e2] at q; exact q.elim
      | some r =>
        rw [e2] at q
        refine ⟨F1, .d y, t, r, r1.sub, .d (Dp.mono g1.f dv), o1.vw, e2, fun w dw ⟨d, er⟩ => ?_⟩
        subst er
        simp only [Rs.of] at q
        cases e3 : Env.put env1 i (.d d) with
        | none => rw [e3] at q; exact q.elim
        | some env2 =>
          rw [e3] at q
          obtain ⟨M', r', s'⟩ := r2.putD (by have := dw F1; rwa [T.frz] at this) e3
          exact q F1 H1 _ M' r' (g1.sub fun a ha => List.mem_append_right _ (s' a ha)) (Pn.set hp)
    · exact q.elim
/-- o[i] of a list, by values -/
theorem get_list : PGet X (rIxL X.K) := by
  intro pins s σ H x y v u Q I rx ry h
  obtain ⟨p, xs, i, z, rfl, rfl, hq, he, q⟩ := h
  cases rx
  obtain ⟨t, rfl⟩ := ry
  obtain ⟨its, r, pl, hz⟩ := I.list hq
  obtain ⟨j, h1, h2, h3, h4, h5⟩ := atI_get he
  obtain ⟨w, ew, rw'⟩ := r.get h2
  have hl := r.length
  have hn := line63
  have fin : EP X pins σ Q w s := ⟨z, H, I, rw', q⟩
  by_cases h0 : 0 ≤ i
  · have hj : i.toNat = j := by
      rw [seqIndex_of h0 h5] at h1
      exact Option.some.inj h1
    exact wpAny_getItem_list pl.isList h0 (by omega) (by rw [hj]; simpa using ew) fin
  · have hj : (i + (its.toArray.size : Int)).toNat = j := by
      rw [seqIndex_neg (by omega) h4] at h1
      rw [List.size_toArray, ← hl]
      exact Option.some.inj h1
    exact wpAny_getItem_list_neg pl.isList (by omega) (by rw [List.size_toArray] <;> omega) (by omega) (by rw [hj]; simpa using ew) fin
def sAugI (i : Nat) (pi pe : PM) : SM := fun env => match env[i]? with
  | some (some (.l ts)) => (pi env).bind fun u => (tInt u).bind fun k => match ixN ts.length k with
    | some j => match ts[j]? with
      | some (.d x) => (pe env).bind fun w => (Rs.of (oIAdd (.d x) w)).bind fun r => .ok (.nx, env.set i (some (.l (ts.set j r))))
      | _ => .no
    | none => .no
  | _ => .no
theorem ss_augI (i : Nat) {x : Str} {p tp : Pos} {pe : PM} (hi : SV X ct EX ix pi) (he : SV X ct EX e pe) (hN : X.N[i]? = some x := by rfl) (hv : Vis X.env.scope x := by first | exact Or.inl rfl | exact Or.inr (Or.inl rfl) | exact Or.inr (Or.inr rfl)) (hd : (x == ("__debug__" : Str)) = false := by decide)
    (hcd : (x == ("__classdict__" : Str)) = false := by decide)
    (ha : ∀ ov iv new, augStore ix ov iv new = (do holding [new, ov, iv] (setItem ov iv new); release [new, ov, iv] []; pure .next) := by intros; rfl) : SS X ct EX pn (.AugAssign (.Subscript (.Name x p) ix tp) .Add e pos) (sAugI i pi pe) :=
  PS.imp (ps_augS (pe_var hN hv hd hcd) hi get_list he ip_iaddR set_list ha) fun D σ H ⟨F, env, M, rel, q⟩ => by
    unfold sAugI at q
    split at q
    · rename_i ts e0
      obtain ⟨l, vs0, _, _, _, eσ, _, _, _⟩ := rel.atL e0
      refine ⟨.ref l, eσ, ?_⟩
      refine tV.mono (runV rel (oks.bind (r := pi env) q.oks)) fun y H1 ⟨F1, u, e1, x1, v1⟩ => ?_
      simp only [e1, Rs.bind] at q
      rcases tInt_no (t := u) with ⟨k, e2⟩ | e2
      · rw [e2] at q
        simp only [Rs.bind] at q
        cases tInt_inv v1 e2
        split at q
        · rename_i j ej
          split at q
          · rename_i d0 ed
            have rel1 := rel.ext x1
            obtain ⟨l', vs, Mt, A, C, eσ2, eM, hHa, os, _⟩ := rel1.atL e0
            have : l = l' := by rw [eσ] at eσ2; cases eσ2; rfl
            subst this
            obtain ⟨w0, A1, B1, C1, ev, _, o1, _⟩ := os.erase ed
            refine ⟨l, vs, k, w0, rfl, rfl, .inl (.inl hHa), ?_, ?_⟩
            · show (ixN vs.length k).bind (fun j => vs[j]?) = some w0; rw [← os.length, ej]; exact ev
            have q0 := q
            refine tV.mono (runV rel1 ((oks.bind (r := pe env) q.oks).ext x1.h)) fun y2 H2 ⟨F2, w, e3, x2, v2⟩ => ?_
            simp only [e3, Rs.bind] at q
            cases e4 : oIAdd (.d d0) w with
            | none => rw [e4] at q; exact q.elim
            | some r =>
              rw [e4] at q
              have d1 : Dp X.K F1 w0 d0 := by cases o1 with | d o => exact o
              refine ⟨F2, .d d0, w, r, x2.s, .d (Dp.mono x2.f d1), v2, e4, fun z dz ⟨d, er⟩ => ?_⟩
              subst er
              have rel2 : Rel X.K F2 H2 (some (.d d) :: env) (some z :: σ) ([] ++ M) := (rel1.ext x2).cons (A := []) (.d (by have := dz F2; rwa [T.frz] at this)) .nil (fun _ h => nomatch h) fun _ h => nomatch h
              obtain ⟨vs', hH, hl, M', r', g'⟩ := rel2.setAt e0 eσ (ixN_lt ej)
              refine ⟨l, vs', k, j, rfl, rfl, hH, by rw [← hl]; exact ej, q F2 _ σ M' r' ((x1.trans x2).go.trans g') Pn.refl⟩
          · exact q.elim
        · exact q.elim
      · rw [e2] at q; exact q.elim
    · exact q.elim
end
end Mi

set_option maxHeartbeats 200000
namespace Mi
open PySem PySem.Spec PyProof.Rows L2
variable [Tb]

theorem Rel.updD {K : PySem.W.Frag} {F H : Hp} {env : Env} {σ : Sg} {M : List Addr} {D : Addr} {o : HO} (r : Rel K F H env σ M) (d : D ∉ M) (f : F D = none) {ys : List V} (eD : H D = some (.lst ys)) : Rel K F (upd H D o) env σ M := by
  have kp : ∀ a, a ≠ D → ∀ u, H a = some u → upd H D o a = some u := fun a ha u e => by rw [upd_ne ha]; exact e
  exact ⟨fun a u e => kp a (ne_of_none e f) u (r.sub _ _ e), r.tb.upd eD, r.own.keep (Same.refl _) fun a ha u e => kp a (fun z => d (by rw [← z]; exact ha)) u e, r.nd, r.dis⟩
def lcGo2 (g : Tg) (tt : Env → Rs Bool) (im1 : Env → Rs (List PyData)) (g1 : Tg) (tt1 : Env → Rs Bool) (te : PM) (vs1 : List Nat) (env : Env) : List PyData → Rs (List T)
  | [] => .ok []
  | x :: xs => match g.put x env with
    | none => .no
    | some env1 => match tt env1 with
      | .ok true => match im1 env1 with
        | .ok ys => match lcGo g1 tt1 te (wipeE env1 vs1) ys with
          | .ok us => match lcGo2 g tt im1 g1 tt1 te vs1 env xs with
            | .ok ts => .ok (us ++ ts)
            | _ => .no
          | _ => .no
        | _ => .no
      | .ok false => lcGo2 g tt im1 g1 tt1 te vs1 env xs
      | _ => .no
def mLc2 (im : Env → Rs (List PyData)) (g : Tg) (tt : Env → Rs Bool) (im1 : Env → Rs (List PyData)) (g1 : Tg) (tt1 : Env → Rs Bool) (te : PM) (vs vs1 : List Nat) : PM := fun env => (im env).bind fun xs =>
  match lcGo2 g tt im1 g1 tt1 te vs1 (wipeE env vs) xs with
    | .ok ts => if ts.length ≤ sizeLine then .ok (.l ts) else .no
    | _ => .no
section
variable {K : PySem.W.Frag} {ct : Nat → Addr} {EX : XK}
theorem tLc2_of {im im1 : Env → Rs (List PyData)} {g g1 : Tg} {tt tt1 : Env → Rs Bool} {te : PM} {vs vs1 : List Nat} {σ : Sg} {H : Hp} {Q : VK} (hv : ∀ j ∈ g.slots, j ∈ vs) (hv1 : ∀ j ∈ g1.slots, j ∈ vs1) (h : tP K ct EX (mLc2 im g tt im1 g1 tt1 te vs vs1) σ H Q) :
    tLc2 (tI K ct EX true im) (gG K g) (tT K ct E0 tt) (tI K ct E0 false im1) (gG K g1) (tT K ct E0 tt1) (tP K ct E0 te) vs vs1 σ H Q := by
  obtain ⟨F, env, M, rel, h⟩ := h
  refine ⟨F, env, M, rel, ?_⟩
  unfold mLc2 at h
  cases ei : im env with
  | ex c => rw [ei] at h; exact h
  | no => rw [ei] at h; exact h
  | ok xs =>
    rw [ei] at h
    simp only [Rs.bind] at h
    cases eg : lcGo2 g tt im1 g1 tt1 te vs1 (wipeE env vs) xs with
    | ex c => rw [eg] at h; exact h.elim
    | no => rw [eg] at h; exact h.elim
    | ok out =>
      rw [eg] at h
      simp only at h
      split at h
      · rename_i hsz
        intro F1 H1 J x1 wk D hD
        obtain ⟨Mw, sM, relw⟩ := (rel.ext x1).wipe vs
        have thM := (rel.ext x1).there
        have dMw : D ∉ Mw := fun hm => by obtain ⟨zs, e⟩ := thM D (sM.subset hm); rw [hD] at e; cases e
        refine ⟨fun i m H2 => ∃ F2 ts ws N r, LI K F1 H1 D ts F2 H2 ws N ∧ i ≤ xs.length ∧ m = xs.length - i ∧ lcGo2 g tt im1 g1 tt1 te vs1 (wipeE env vs) (xs.drop i) = .ok r ∧ ts ++ r = out,
          ⟨_, F1, [], [], [], out, LI.start x1.s hD, Nat.zero_le _, rfl, eg, rfl⟩, ?_⟩
        rintro i m H2 ⟨F2, ts, ws, N, r, L, hi, rfl, er, eo⟩
        by_cases hlt : i < xs.length
        · refine .inr ⟨wk.go i H2 hlt L.x.h, fun H' => ∃ F2 ts ws N r, LI K F1 H1 D ts F2 H' ws N ∧ lcGo2 g tt im1 g1 tt1 te vs1 (wipeE env vs) (xs.drop (i + 1)) = .ok r ∧ ts ++ r = out, ?_, ?_⟩
          · rintro H' ⟨F3, ts3, ws3, N3, r3, L3, e3, o3⟩
            exact ⟨_, by omega, F3, ts3, ws3, N3, r3, L3, hlt, rfl, e3, o3⟩
          · intro v H3 y
            obtain ⟨x, F3, ex, x3, d3⟩ := wk.yld i F2 H2 v H3 hlt L.x.f L.x.s L.x.h y
            have ed : xs.drop i = x :: xs.drop (i + 1) := by
              obtain ⟨_, q⟩ := List.getElem?_eq_some_iff.mp ex
              rw [List.drop_eq_getElem_cons hlt, q]
            rw [ed, lcGo2] at er
            cases ep : g.put x (wipeE env vs) with
            | none => rw [ep] at er; cases er
            | some env1 =>
              rw [ep] at er
              simp only at er
              have L3 := L.ext x3
              refine ⟨F3, wipeE env vs, Mw, x, env1, relw.ext (L3.x), d3, ep, fun σ1 M1 rel1 s1 hl1 k1 => ?_⟩
              refine ⟨(wipe_eq hl1 fun j hj => k1 j fun z => hj (hv j z)).trans (wipe_idem fun _ h => h), F3, env1, M1, rel1, ?_⟩
              have dM1 : D ∉ M1 := fun hm => dMw (s1 D hm)
              cases et : tt env1 with
              | ex c => rw [et] at er; cases er
              | no => rw [et] at er; cases er
              | ok b =>
                rw [et] at er
                intro F4 H4 x4
                have L4 := L3.ext x4
                cases b with
                | false =>
                  rw [if_neg Bool.false_ne_true]
                  exact ⟨F4, ts, ws, N, r, L4, er, eo⟩
                | true =>
                  rw [if_pos rfl]
                  simp only at er
                  refine ⟨F4, env1, M1, rel1.ext x4, ?_⟩
                  cases eim : im1 env1 with
                  | ex c => rw [eim] at er; cases er
                  | no => rw [eim] at er; cases er
                  | ok ys =>
                    rw [eim] at er
                    simp only at er
                    cases e5 : lcGo g1 tt1 te (wipeE env1 vs1) ys with
                    | ex c => rw [e5] at er; cases er
                    | no => rw [e5] at er; cases er
                    | ok us =>
                      rw [e5] at er
                      simp only at er
                      cases e6 : lcGo2 g tt im1 g1 tt1 te vs1 (wipeE env vs) (xs.drop (i + 1)) with
                      | ex c => rw [e6] at er; cases er
                      | no => rw [e6] at er; cases er
                      | ok r2 =>
                        rw [e6] at er
                        simp only at er
                        cases er
                        intro F5 H5 J1 x5 wk1
                        have L5 := L4.ext x5
                        have wkB : Wk K J1 ys F5 F5 := wk1
                        refine ⟨fun j k H6 => ∃ F6 ts6 ws6 N6 r6, LI K F1 H1 D ts6 F6 H6 ws6 N6 ∧ Same F5 F6 ∧ Rel K F6 H6 env1 σ1 M1 ∧ j ≤ ys.length ∧ k = ys.length - j ∧ lcGo g1 tt1 te (wipeE env1 vs1) (ys.drop j) = .ok r6 ∧ ts6 ++ r6 ++ r2 = out,
                          ⟨_, F5, ts, ws, N, us, L5, Same.refl _, (rel1.ext x4).ext x5, Nat.zero_le _, rfl, e5, by rw [List.append_assoc]; exact eo⟩, ?_⟩
                        rintro j k H6 ⟨F6, ts6, ws6, N6, r6, L6, sF6, rel6, hj, rfl, er6, eo6⟩
                        have sB : SameN F5 H6 := (sF6.trans L6.x.s).n
                        by_cases hlt1 : j < ys.length
                        · refine .inr ⟨wkB.go j H6 hlt1 sB, fun H' => ∃ F6 ts6 ws6 N6 r6, LI K F1 H1 D ts6 F6 H' ws6 N6 ∧ Same F5 F6 ∧ Rel K F6 H' env1 σ1 M1 ∧ lcGo g1 tt1 te (wipeE env1 vs1) (ys.drop (j + 1)) = .ok r6 ∧ ts6 ++ r6 ++ r2 = out, ?_, ?_⟩
                          · rintro H' ⟨F7, ts7, ws7, N7, r7, L7, s7, q7, e7, o7⟩
                            exact ⟨_, by omega, F7, ts7, ws7, N7, r7, L7, s7, q7, hlt1, rfl, e7, o7⟩
                          · intro v1 H7 y1
                            obtain ⟨x', F7, ex', x7, d7⟩ := wkB.yld j F6 H6 v1 H7 hlt1 sF6 L6.x.s sB y1
                            have ed' : ys.drop j = x' :: ys.drop (j + 1) := by
                              obtain ⟨_, q⟩ := List.getElem?_eq_some_iff.mp ex'
                              rw [List.drop_eq_getElem_cons hlt1, q]
                            rw [ed', lcGo] at er6
                            cases ep1 : g1.put x' (wipeE env1 vs1) with
                            | none => rw [ep1] at er6; cases er6
                            | some env2 =>
                              rw [ep1] at er6
                              simp only at er6
                              have L7 := L6.ext x7
                              have rel7 := rel6.ext x7
                              obtain ⟨M2, sM2, relw2⟩ := rel7.wipe vs1
                              refine ⟨F7, wipeE env1 vs1, M2, x', env2, relw2, d7, ep1, fun σ3 M3 rel3 s3 hl3 k3 => ?_⟩
                              refine ⟨(wipe_eq hl3 fun j hj => k3 j fun z => hj (hv1 j z)).trans (wipe_idem fun _ h => h), F7, env2, M3, rel3, ?_⟩
                              cases et1 : tt1 env2 with
                              | ex c => rw [et1] at er6; cases er6
                              | no => rw [et1] at er6; cases er6
                              | ok b =>
                                rw [et1] at er6
                                intro F8 H8 x8
                                have L8 := L7.ext x8
                                cases b with
                                | false =>
                                  rw [if_neg Bool.false_ne_true]
                                  exact ⟨F8, ts6, ws6, N6, r6, L8, sF6.trans (x7.f.trans x8.f), rel7.ext x8, er6, eo6⟩
                                | true =>
                                  rw [if_pos rfl]
                                  simp only at er6
                                  refine ⟨F8, env2, M3, rel3.ext x8, ?_⟩
                                  cases ee : te env2 with
                                  | ex c => rw [ee] at er6; cases er6
                                  | no => rw [ee] at er6; cases er6
                                  | ok t =>
                                    rw [ee] at er6
                                    simp only at er6
                                    intro F9 H9 u N9 x9 f9 o9
                                    cases e10 : lcGo g1 tt1 te (wipeE env1 vs1) (ys.drop (j + 1)) with
                                    | ex c => rw [e10] at er6; cases er6
                                    | no => rw [e10] at er6; cases er6
                                    | ok r10 =>
                                      rw [e10] at er6
                                      cases er6
                                      have L9 := L8.ext x9
                                      refine ⟨ws6, L9.h, ?_, F9, ts6 ++ [t], _, _, r10, L8.push x9 f9 o9, sF6.trans (x7.f.trans (x8.f.trans x9.f)), Rel.updD ((rel7.ext x8).ext x9) dM1 L9.f L9.h, rfl, by rw [← eo6]; simp⟩
                                      rw [← L8.o.length]
                                      have : out.length = (ts6 ++ t :: r10 ++ r2).length := by rw [eo6]
                                      simp at this
                                      omega
                        · have e : j = ys.length := by omega
                          subst e
                          rw [List.drop_length, lcGo] at er6
                          cases er6
                          refine .inl ⟨wkB.stop H6 sB, F6, ts6, ws6, N6, r2, L6, rfl, by rw [List.append_nil] at eo6; exact eo6⟩
        · have e : i = xs.length := by omega
          subst e
          refine .inl ⟨wk.stop H2 L.x.h, ?_⟩
          rw [List.drop_length, lcGo2] at er
          cases er
          rw [List.append_nil] at eo
          subst eo
          exact h F2 H2 (.ref D) (D :: N) (L.x |> fun y => ⟨x1.f.trans y.f, x1.h.trans y.h, y.s, fun a o e => by
            rcases y.n a o e with z | z
            · exact x1.n a o z
            · exact .inr (x1.h.free z)⟩) (L.fresh.back x1) L.ow
      · exact h.elim
end
section
variable {X : Cx} {ct : Nat → Addr} {EX : XK} {elt tg iter c tg1 iter1 c1 : Expr} {pe : PM} {tt tt1 : Env → Rs Bool} {im im1 : Env → Rs (List PyData)} {g g1 : Tg} {scope : Scope} {own : List (Str × Nat)} {pos : Pos} {vs1 : List Nat}
/-- [.. for .. for ..] without tests -/
theorem sp_lc2 (hc : X.calm = true) (hN : X.N.Nodup) (hi : SI X ct EX true tg iter im) (ok : BlkOk X.N X.env.scope scope own)
    (hg : ∀ (s : Shared) (H : Hp) (C : Addr) (cl : List (Str × Addr)) (fp : List Addr), SG (X.blk s H scope (compEnvC scope cl C X.env) fp) tg g)
    (hi1 : ∀ (s : Shared) (H : Hp) (C : Addr) (cl : List (Str × Addr)) (fp : List Addr), SI (X.blk s H scope (compEnvC scope cl C X.env) fp) ct E0 false tg1 iter1 im1)
    (hg1 : ∀ (s : Shared) (H : Hp) (C : Addr) (cl : List (Str × Addr)) (fp : List Addr), SG (X.blk s H scope (compEnvC scope cl C X.env) fp) tg1 g1)
    (he : ∀ (s : Shared) (H : Hp) (C : Addr) (cl : List (Str × Addr)) (fp : List Addr), SP (X.blk s H scope (compEnvC scope cl C X.env) fp) ct E0 elt pe) (vs1 : List Nat) (hv : ∀ j ∈ g.slots, j ∈ own.map (·.2)) (hv1 : ∀ j ∈ g1.slots, j ∈ vs1) (hvv : ∀ i ∈ vs1, i ∈ own.map (·.2)) (hs : ∀ x, foldedSetIterable iter X.env x = pure x := by intro _; rfl) (hs1 : ∀ env x, foldedSetIterable iter1 env x = pure x := by intro _ _; rfl) :
    SP X ct EX (.ListComp elt [⟨tg, iter, [], 0⟩, ⟨tg1, iter1, [], 0⟩] scope pos) (mLc2 im g mYes im1 g1 mYes pe (own.map (·.2)) vs1) :=
  PE.imp (pe_lc2 (g := gG X.K g) (g1 := gG X.K g1) (te := tP X.K ct E0 pe) (tt := tT X.K ct E0 mYes) (tt1 := tT X.K ct E0 mYes) (wi1 := tI X.K ct E0 false im1) hc hN hi ok hvv hg (fun s H C cl fp => ⟨fun pins s σ H Q I ⟨F, env, M, rel, q⟩ => pts_nil.run pins s σ H Q I (q F H (Ext.refl rel.sub))⟩) hi1 hg1 (fun s H C cl fp => ⟨fun pins s σ H Q I ⟨F, env, M, rel, q⟩ => pts_nil.run pins s σ H Q I (q F H (Ext.refl rel.sub))⟩) he hs hs1) fun σ H Q h => tLc2_of hv hv1 h
theorem sp_lc2If (hc : X.calm = true) (hN : X.N.Nodup) (hi : SI X ct EX true tg iter im) (ok : BlkOk X.N X.env.scope scope own)
    (hg : ∀ (s : Shared) (H : Hp) (C : Addr) (cl : List (Str × Addr)) (fp : List Addr), SG (X.blk s H scope (compEnvC scope cl C X.env) fp) tg g)
    (hi1 : ∀ (s : Shared) (H : Hp) (C : Addr) (cl : List (Str × Addr)) (fp : List Addr), SI (X.blk s H scope (compEnvC scope cl C X.env) fp) ct E0 false tg1 iter1 im1)
    (hg1 : ∀ (s : Shared) (H : Hp) (C : Addr) (cl : List (Str × Addr)) (fp : List Addr), SG (X.blk s H scope (compEnvC scope cl C X.env) fp) tg1 g1)
    (ht1 : ∀ (s : Shared) (H : Hp) (C : Addr) (cl : List (Str × Addr)) (fp : List Addr), STt (X.blk s H scope (compEnvC scope cl C X.env) fp) ct E0 c1 tt1)
    (he : ∀ (s : Shared) (H : Hp) (C : Addr) (cl : List (Str × Addr)) (fp : List Addr), SP (X.blk s H scope (compEnvC scope cl C X.env) fp) ct E0 elt pe) (vs1 : List Nat) (hv : ∀ j ∈ g.slots, j ∈ own.map (·.2)) (hv1 : ∀ j ∈ g1.slots, j ∈ vs1) (hvv : ∀ i ∈ vs1, i ∈ own.map (·.2)) (hs : ∀ x, foldedSetIterable iter X.env x = pure x := by intro _; rfl) (hs1 : ∀ env x, foldedSetIterable iter1 env x = pure x := by intro _ _; rfl) :
    SP X ct EX (.ListComp elt [⟨tg, iter, [], 0⟩, ⟨tg1, iter1, [c1], 0⟩] scope pos) (mLc2 im g mYes im1 g1 tt1 pe (own.map (·.2)) vs1) :=
  PE.imp (pe_lc2 (g := gG X.K g) (g1 := gG X.K g1) (te := tP X.K ct E0 pe) (tt := tT X.K ct E0 mYes) (tt1 := tT X.K ct E0 tt1) (wi1 := tI X.K ct E0 false im1) hc hN hi ok hvv hg (fun s H C cl fp => ⟨fun pins s σ H Q I ⟨F, env, M, rel, q⟩ => pts_nil.run pins s σ H Q I (q F H (Ext.refl rel.sub))⟩) hi1 hg1 (fun s H C cl fp => pts_one (ht1 s H C cl fp)) he hs hs1) fun σ H Q h => tLc2_of hv hv1 h
/-! name = [..] on one line -/
variable {i : Nat} {y : Str} {py spos : Pos} {pn : List Nat}
theorem lcAsg {i : Nat} {K : PySem.W.Frag} {p : PM} {σ : Sg} {H : Hp} {D : Ends} (hp : i ∉ pn) (h : tS K ct EX pn (sAsg (eP p) (gNm i)) D σ H) : tP K ct EX p σ H fun x H1 => gName i x σ H1 D.nx := by
  obtain ⟨F, env, M, rel, q⟩ := h
  refine ⟨F, env, M, rel, ?_⟩
  unfold sAsg eP gNm at q
  cases e : p env with
  | ex c => rw [e] at q; exact q
  | no => rw [e] at q; exact q
  | ok t =>
    rw [e] at q
    simp only [Rs.bind] at q
    intro F1 H1 v N x f o
    cases ep : Mi.Env.put env i t with
    | none => rw [ep] at q; exact q.elim
    | some env' =>
      rw [ep] at q
      obtain ⟨r1, g1⟩ := rel.new x f o
      obtain ⟨A, B, e2, o2, r2, nd, dis, dF⟩ := r1.uncons
      obtain ⟨M', r3, s3⟩ := r2.put o2 nd dis dF ep
      refine q F1 H1 _ M' r3 (g1.sub fun a ha => ?_) (Pn.set hp)
      rw [e2]
      rcases s3 a ha with z | z <;> simp [z]
theorem ss_setLc (hc : X.calm = true) (hN : X.N.Nodup) (hi : SI X ct EX true tg iter im) (ok : BlkOk X.N X.env.scope scope own)
    (hg : ∀ (s : Shared) (H : Hp) (C : Addr) (cl : List (Str × Addr)) (fp : List Addr), SG (X.blk s H scope (compEnvC scope cl C X.env) fp) tg g)
    (he : ∀ (s : Shared) (H : Hp) (C : Addr) (cl : List (Str × Addr)) (fp : List Addr), SP (X.blk s H scope (compEnvC scope cl C X.env) fp) ct E0 elt pe) (hv : ∀ j ∈ g.slots, j ∈ own.map (·.2)) (hsw : swapsWith (.ListComp elt [⟨tg, iter, [], 0⟩] scope pos) (some (.Name y py)) spos.line X.env = pure true)
    (hy : X.N[i]? = some y := by rfl) (hp : i ∉ pn := by decide) (hyl : X.env.scope.names.lookup y = some .local := by rfl) (hs : ∀ x, foldedSetIterable iter X.env x = pure x := by intro _; rfl) :
    SS X ct EX pn (.Assign [.Name y py] (.ListComp elt [⟨tg, iter, [], 0⟩] scope pos) spos) (sAsg (eP (mLc im g mYes pe (own.map (·.2)))) (gNm i)) :=
  PS.imp (ps_setLc (g := gG X.K g) (te := tP X.K ct E0 pe) hc hN hy hyl hsw hi ok hg (tt := tT X.K ct E0 mYes) (fun s H C cl fp => ⟨fun pins s σ H Q I ⟨F, env, M, rel, q⟩ => pts_nil.run pins s σ H Q I (q F H (Ext.refl rel.sub))⟩) he hs) fun D σ H h => tLc_of hv (lcAsg hp h)
theorem ss_setLcIf (hc : X.calm = true) (hN : X.N.Nodup) (hi : SI X ct EX true tg iter im) (ok : BlkOk X.N X.env.scope scope own)
    (hg : ∀ (s : Shared) (H : Hp) (C : Addr) (cl : List (Str × Addr)) (fp : List Addr), SG (X.blk s H scope (compEnvC scope cl C X.env) fp) tg g)
    (ht : ∀ (s : Shared) (H : Hp) (C : Addr) (cl : List (Str × Addr)) (fp : List Addr), STt (X.blk s H scope (compEnvC scope cl C X.env) fp) ct E0 c tt)
    (he : ∀ (s : Shared) (H : Hp) (C : Addr) (cl : List (Str × Addr)) (fp : List Addr), SP (X.blk s H scope (compEnvC scope cl C X.env) fp) ct E0 elt pe) (hv : ∀ j ∈ g.slots, j ∈ own.map (·.2)) (hsw : swapsWith (.ListComp elt [⟨tg, iter, [c], 0⟩] scope pos) (some (.Name y py)) spos.line X.env = pure true)
    (hy : X.N[i]? = some y := by rfl) (hp : i ∉ pn := by decide) (hyl : X.env.scope.names.lookup y = some .local := by rfl) (hs : ∀ x, foldedSetIterable iter X.env x = pure x := by intro _; rfl) :
    SS X ct EX pn (.Assign [.Name y py] (.ListComp elt [⟨tg, iter, [c], 0⟩] scope pos) spos) (sAsg (eP (mLc im g tt pe (own.map (·.2)))) (gNm i)) :=
  PS.imp (ps_setLc (g := gG X.K g) (te := tP X.K ct E0 pe) hc hN hy hyl hsw hi ok hg (tt := tT X.K ct E0 tt) (fun s H C cl fp => pts_one (ht s H C cl fp)) he hs) fun D σ H h => tLc_of hv (lcAsg hp h)
end
end Mi

set_option maxHeartbeats 200000
namespace Mi
open PySem PySem.Spec PyProof.Rows L2
variable [Tb]

/-! ### a comprehension whose items write -/
def eYes : Env → Rs (Bool × Env) := fun env => .ok (true, env)
def eLcGo (g : Tg) (tt : Env → Rs (Bool × Env)) (te : EM) (vs : List Nat) : List PyData → Env → Rs (List T × Env)
  | [], env => .ok ([], env)
  | x :: xs, env => match g.put x env with
    | none => .no
    | some env1 => match tt env1 with
      | .ok (true, e2) => match te e2 with
        | .ok (t, e3) => match eLcGo g tt te vs xs (wipeE e3 vs) with
          | .ok (ts, e4) => .ok (t :: ts, e4)
          | _ => .no
        | _ => .no
      | .ok (false, e2) => eLcGo g tt te vs xs (wipeE e2 vs)
      | _ => .no
def plainAt (env : Env) (v : Nat) : Bool := match env[v]? with
  | some (some (.l _)) => false
  | _ => true
def restE (env0 : Env) : List Nat → Env → Env
  | [], e => e
  | v :: vs, e => restE env0 vs (match env0[v]? with
    | some o => e.set v o
    | none => e)
def nodupB : List Nat → Bool
  | [] => true
  | v :: vs => !vs.contains v && nodupB vs
theorem nodupB_spec : ∀ {vs : List Nat}, nodupB vs = true → vs.Nodup
  | [], _ => .nil
  | v :: vs, h => by
    unfold nodupB at h
    rw [Bool.and_eq_true, Bool.not_eq_true'] at h
    exact List.nodup_cons.mpr ⟨by simpa using h.1, nodupB_spec h.2⟩
def eLc (im : Env → Rs (List PyData × Env)) (g : Tg) (tt : Env → Rs (Bool × Env)) (te : EM) (vs : List Nat) : EM := fun env => (im env).bind fun p =>
  if vs.all (plainAt p.2) && nodupB vs && decide (p.1.length ≤ sizeLine) then match eLcGo g tt te vs p.1 (wipeE p.2 vs) with
    | .ok (ts, e4) => .ok (.l ts, restE p.2 vs e4)
    | _ => .no
  else .no
section
variable {K : PySem.W.Frag} {F H F' H' F1 H1 : Hp} {env env' e : Env} {σ σ' s : Sg} {M M' N : List Addr}
theorem Sl.setO {o : Option T} {x : Option V} (ho : o = none ∨ ∃ d w, o = some (.d d) ∧ x = some w ∧ Dp K F w d) : ∀ {env : Env} {σ : Sg} {M : List Addr}, Sl K F H env σ M → ∀ (i : Nat), ∃ M', M'.Sublist M ∧ Sl K F H (env.set i o) (σ.set i x) M'
  | _, _, _, .z, i => ⟨[], .refl _, .z⟩
  | _, _, _, .u h, 0 => by
    rcases ho with rfl | ⟨d, w, rfl, rfl, hd⟩
    · exact ⟨_, .refl _, .u h⟩
    · exact ⟨_, .refl _, Sl.s (M := []) (.d hd) h⟩
  | _, _, _, .s h1 hs, 0 => by
    rcases ho with rfl | ⟨d, w, rfl, rfl, hd⟩
    · exact ⟨_, List.sublist_append_right _ _, .u hs⟩
    · exact ⟨_, List.sublist_append_right _ _, Sl.s (M := []) (.d hd) hs⟩
  | _, _, _, .u h, i + 1 => by
    obtain ⟨M', s, q⟩ := Sl.setO ho h i
    exact ⟨M', s, .u q⟩
  | _, _, _, .s h1 hs, i + 1 => by
    obtain ⟨M', s, q⟩ := Sl.setO ho hs i
    exact ⟨_, (List.Sublist.refl _).append s, .s h1 q⟩
theorem Rel.setO {o : Option T} {x : Option V} (ho : o = none ∨ ∃ d w, o = some (.d d) ∧ x = some w ∧ Dp K F w d) (r : Rel K F H env σ M) (i : Nat) : ∃ M', M'.Sublist M ∧ Rel K F H (env.set i o) (σ.set i x) M' := by
  obtain ⟨M', s, q⟩ := r.own.setO ho i
  exact ⟨M', s, r.sub, r.tb, q, r.nd.sublist s, fun a ha => r.dis a (s.subset ha)⟩
theorem Sl.at2 : ∀ {env : Env} {σ : Sg} {M : List Addr}, Sl K F H env σ M → ∀ (i : Nat), i < σ.length → ∃ o x, env[i]? = some o ∧ σ[i]? = some x ∧ (o = none ∨ (∃ ts, o = some (.l ts)) ∨ ∃ d w, o = some (.d d) ∧ x = some w ∧ Dp K F w d)
  | _, _, _, .z, i, h => absurd h (Nat.not_lt_zero i)
  | _, _, _, .u h, 0, _ => ⟨_, _, rfl, rfl, .inl rfl⟩
  | _, _, _, .s h1 hs, 0, _ => ⟨_, _, rfl, rfl, by
    cases h1 with
    | d h => exact .inr (.inr ⟨_, _, rfl, rfl, h⟩)
    | l _ _ => exact .inr (.inl ⟨_, rfl⟩)⟩
  | _, _, _, .u h, i + 1, l => by
    obtain ⟨o, x, e1, e2, q⟩ := Sl.at2 h i (by simpa using l)
    exact ⟨o, x, by simpa using e1, by simpa using e2, q⟩
  | _, _, _, .s h1 hs, i + 1, l => by
    obtain ⟨o, x, e1, e2, q⟩ := Sl.at2 hs i (by simpa using l)
    exact ⟨o, x, by simpa using e1, by simpa using e2, q⟩
/-- the names of the block out of the way, the frame's own stand again -/
theorem Rel.rest (r0 : Rel K F1 H1 env σ N) (sF : Same F1 F) : ∀ {vs : List Nat} {e : Env} {M : List Addr}, vs.Nodup → (∀ v ∈ vs, plainAt env v = true) → Rel K F H e (L2.wipe σ vs) M → ∃ M', M'.Sublist M ∧ Rel K F H (restE env vs e) σ M'
  | [], e, M, _, _, r => ⟨M, .refl _, r⟩
  | v :: vs, e, M, nd, hp, r => by
    obtain ⟨nv, nd'⟩ := List.nodup_cons.mp nd
    unfold restE
    have hlen : env.length = σ.length := r0.own.length
    by_cases hl : v < σ.length
    · obtain ⟨o, x, e1, e2, q⟩ := Sl.at2 r0.own v hl
      have ho : o = none ∨ ∃ d w, o = some (.d d) ∧ x = some w ∧ Dp K F w d := by
        rcases q with q | ⟨ts, q⟩ | ⟨d, w, q1, q2, q3⟩
        · exact .inl q
        · have := hp v List.mem_cons_self
          unfold plainAt at this
          rw [e1, q] at this
          cases this
        · exact .inr ⟨d, w, q1, q2, Dp.mono sF q3⟩
      obtain ⟨M1, s1, r1⟩ := r.setO ho v
      have ew : (L2.wipe σ (v :: vs)).set v x = L2.wipe σ vs := by
        show ((L2.wipe σ vs).set v none).set v x = L2.wipe σ vs
        rw [List.set_set]
        refine List.ext_getElem? fun j => ?_
        rw [List.getElem?_set]
        split
        · rename_i hj; subst hj
          rw [wipe_length, if_pos hl, wipe_get, if_neg nv, e2]
        · rfl
      rw [ew] at r1
      rw [e1]
      obtain ⟨M2, s2, r2⟩ := Rel.rest r0 sF nd' (fun u hu => hp u (List.mem_cons_of_mem _ hu)) r1
      exact ⟨M2, s2.trans s1, r2⟩
    · have e1 : env[v]? = none := List.getElem?_eq_none (by omega)
      rw [e1]
      have ew : L2.wipe σ (v :: vs) = L2.wipe σ vs := by
        show (L2.wipe σ vs).set v none = L2.wipe σ vs
        refine List.ext_getElem? fun j => ?_
        rw [List.getElem?_set]
        split
        · rename_i hj; subst hj
          rw [wipe_length, if_neg hl, List.getElem?_eq_none (by rw [wipe_length]; omega)]
        · rfl
      rw [ew] at r
      exact Rel.rest r0 sF nd' (fun u hu => hp u (List.mem_cons_of_mem _ hu)) r
end
section
variable {K : PySem.W.Frag} {ct : Nat → Addr} {EX : XK}
/-- the new list at D, the frame's cells apart -/
structure LE (K : PySem.W.Frag) (D : Addr) (ts : List T) (F H : Hp) (vs : List V) (N M : List Addr) : Prop where
  f : F D = none
  h : H D = some (.lst vs)
  o : Ows K F H ts vs N
  d : D ∉ N
  dM : D ∉ M
  nd : N.Nodup
  nM : ∀ a ∈ N, a ∉ M
  nF : ∀ a ∈ N, F a = none
theorem eLc_of {im : Env → Rs (List PyData × Env)} {g : Tg} {tt : Env → Rs (Bool × Env)} {te : EM} {vs : List Nat} {σ : Sg} {H : Hp} {Q : VK} (hv : ∀ j ∈ g.slots, j ∈ vs) (h : tE K ct EX (eLc im g tt te vs) σ H Q) :
    tLc (tIE K ct EX im) (gG K g) (tTE K ct E0 tt) (tE K ct E0 te) vs σ H Q := by
  obtain ⟨F, env, M, rel, h⟩ := h
  refine ⟨F, env, M, rel, ?_⟩
  unfold eLc at h
  cases ei : im env with
  | ex c => rw [ei] at h; exact h
  | no => rw [ei] at h; exact h
  | ok z =>
    obtain ⟨xs, env0⟩ := z
    rw [ei] at h
    simp only [Rs.bind] at h
    split at h
    · rename_i hok
      simp only [Bool.and_eq_true, List.all_eq_true, decide_eq_true_eq] at hok
      obtain ⟨⟨hpl, hnd⟩, hsz⟩ := hok
      cases eg : eLcGo g tt te vs xs (wipeE env0 vs) with
      | ex c => rw [eg] at h; exact h.elim
      | no => rw [eg] at h; exact h.elim
      | ok z2 =>
        obtain ⟨out, e4⟩ := z2
        rw [eg] at h
        intro F1 H1 N0 J r1 g1 wk D hD
        obtain ⟨Mw, sM, relw⟩ := r1.wipe vs
        have th := r1.there
        have dN0 : D ∉ N0 := fun hm => by obtain ⟨zs, e⟩ := th D hm; rw [hD] at e; cases e
        have x0 := Ext.own (o := .lst []) r1.sub hD
        have relw0 := relw.ext x0
        have L0 : LE K D [] F1 (upd H1 D (.lst [])) [] [] Mw := ⟨r1.sub.free hD, upd_same, .nil, (fun h => nomatch h), fun hm => dN0 (sM.subset hm), .nil, (fun _ h => nomatch h), fun _ h => nomatch h⟩
        -- G: what may have changed since H1: the frame's cells, the new ones
        refine ⟨fun i m H2 => ∃ F2 env2 M2 ts ws N r, Rel K F2 H2 env2 (wipe σ vs) M2 ∧ LE K D ts F2 H2 ws N M2 ∧ Same F1 F2 ∧ Go F H M F2 H2 (D :: N ++ M2) ∧ i ≤ xs.length ∧ m = xs.length - i ∧ ts.length ≤ i ∧ eLcGo g tt te vs (xs.drop i) env2 = .ok (r, e4) ∧ ts ++ r = out,
          ⟨_, F1, wipeE env0 vs, Mw, [], [], [], out, relw0, L0, Same.refl _, ?_, Nat.zero_le _, rfl, Nat.le_refl _, eg, rfl⟩, ?_⟩
        · refine (g1.trans (x0.go (M := N0))) |> fun gg => ⟨gg.f, gg.k, gg.n, fun a ha => ?_⟩
          rcases List.mem_cons.mp (show a ∈ D :: Mw from ha) with z | z
          · subst z
            by_cases hm : a ∈ M
            · exact .inl hm
            · exact .inr (g1.k.d a hm hD)
          · exact g1.m a (sM.subset z)
        rintro i m H2 ⟨F2, env2, M2, ts, ws, N, r, rel2, L, sF2, G, hi, rfl, hlen, er, eo⟩
        have sB : SameN F1 H2 := (sF2.trans rel2.sub).n
        by_cases hlt : i < xs.length
        · refine .inr ⟨wk.go i H2 hlt sB, fun H' => ∃ F2 env2 M2 ts ws N r, Rel K F2 H' env2 (wipe σ vs) M2 ∧ LE K D ts F2 H' ws N M2 ∧ Same F1 F2 ∧ Go F H M F2 H' (D :: N ++ M2) ∧ ts.length ≤ i + 1 ∧ eLcGo g tt te vs (xs.drop (i + 1)) env2 = .ok (r, e4) ∧ ts ++ r = out, ?_, ?_⟩
          · rintro H' ⟨F3, env3, M3, ts3, ws3, N3, r3, rel3, L3, s3, G3, l3, e3, o3⟩
            exact ⟨_, by omega, F3, env3, M3, ts3, ws3, N3, r3, rel3, L3, s3, G3, hlt, rfl, l3, e3, o3⟩
          · intro v H3 y
            obtain ⟨x, F3, ex, x3, d3⟩ := wk.yld i F2 H2 v H3 hlt sF2 rel2.sub sB y
            have ed : xs.drop i = x :: xs.drop (i + 1) := by
              obtain ⟨_, q⟩ := List.getElem?_eq_some_iff.mp ex
              rw [List.drop_eq_getElem_cons hlt, q]
            rw [ed, eLcGo] at er
            cases ep : g.put x env2 with
            | none => rw [ep] at er; cases er
            | some env3 =>
              rw [ep] at er
              simp only at er
              refine ⟨F3, env2, M2, x, env3, rel2.ext x3, d3, ep, fun σ4 M4 rel4 s4 l4 k4 => ?_⟩
              have ewp : wipe σ4 vs = wipe σ vs := (wipe_eq l4 fun j hj => k4 j fun z => hj (hv j z)).trans (wipe_idem fun _ h => h)
              -- a step of the frame's own: the new list stands apart
              have step : ∀ {F5 H5 : Hp} {M5 : List Addr}, Go F3 H3 M4 F5 H5 M5 → LE K D ts F5 H5 ws N M5 ∧ Go F H M F5 H5 (D :: N ++ M5) := fun {F5 H5 M5} g5 => by
                have hD3 : H3 D = some (.lst ws) := x3.h.at L.h nt_lst
                have fD3 : F3 D = none := by
                  cases e : F3 D with
                  | none => rfl
                  | some o =>
                    rcases x3.n D o e with z | z
                    · rw [L.f] at z; cases z
                    · rw [L.h] at z; cases z
                have o3 : Ows K F3 H3 ts ws N := L.o.ext x3
                have nF3 : ∀ a ∈ N, F3 a = none := fun a ha => by
                  cases e : F3 a with
                  | none => rfl
                  | some o =>
                    obtain ⟨zs, ez⟩ := L.o.there a ha
                    rcases x3.n a o e with z | z
                    · rw [L.nF a ha] at z; cases z
                    · rw [ez] at z; cases z
                have th : ∀ a ∈ D :: N, ∃ zs, H3 a = some (.lst zs) := fun a ha => by
                  rcases List.mem_cons.mp ha with z | z
                  · rw [z]; exact ⟨_, hD3⟩
                  · exact o3.there a z
                obtain ⟨kp, dN, fN, gg⟩ := g5.frame (A := D :: N) (fun a ha hm => by
                  rcases List.mem_cons.mp ha with z | z
                  · rw [z] at hm; exact L.dM (s4 D hm)
                  · exact L.nM a z (s4 a hm)) th
                have fA := fN (fun a ha => by
                  rcases List.mem_cons.mp ha with z | z
                  · rw [z]; exact fD3
                  · exact nF3 a z)
                refine ⟨⟨fA D List.mem_cons_self, kp D List.mem_cons_self _ hD3, o3.keep g5.f fun a ha => kp a (List.mem_cons_of_mem _ ha), L.d, dN D List.mem_cons_self, L.nd, fun a ha => dN a (List.mem_cons_of_mem _ ha), fun a ha => fA a (List.mem_cons_of_mem _ ha)⟩, ?_⟩
                have gx : Go F2 H2 (D :: N ++ M2) F3 H3 (D :: N ++ M4) := (x3.go (M := D :: N ++ M2)).sub fun a ha => by
                  rcases List.mem_append.mp ha with z | z
                  · exact List.mem_append_left _ z
                  · exact List.mem_append_right _ (s4 a z)
                exact G.trans (gx.trans gg)
              refine ⟨ewp, F3, env3, M4, rel4, ?_⟩
              cases et : tt env3 with
              | ex c => rw [et] at er; cases er
              | no => rw [et] at er; cases er
              | ok z3 =>
                obtain ⟨b, e5⟩ := z3
                rw [et] at er
                intro F5 H5 M5 r5 g5
                cases b with
                | false =>
                  rw [if_neg Bool.false_ne_true]
                  simp only at er
                  obtain ⟨L5, G5⟩ := step g5
                  obtain ⟨M6, s6, r6⟩ := r5.wipe vs
                  rw [ewp] at r6
                  refine ⟨F5, wipeE e5 vs, M6, ts, ws, N, r, r6, ⟨L5.f, L5.h, L5.o, L5.d, fun hm => L5.dM (s6.subset hm), L5.nd, fun a ha hm => L5.nM a ha (s6.subset hm), L5.nF⟩, sF2.trans (x3.f.trans g5.f), G5.sub fun a ha => ?_, by omega, er, eo⟩
                  rcases List.mem_append.mp ha with z | z
                  · exact List.mem_append_left _ z
                  · exact List.mem_append_right _ (s6.subset z)
                | true =>
                  rw [if_pos rfl]
                  simp only at er
                  refine ⟨F5, e5, M5, r5, ?_⟩
                  cases ee : te e5 with
                  | ex c => rw [ee] at er; cases er
                  | no => rw [ee] at er; cases er
                  | ok z4 =>
                    obtain ⟨t, e6⟩ := z4
                    rw [ee] at er
                    simp only at er
                    intro F6 H6 u N6 r6 g6
                    obtain ⟨L6, G6⟩ := step (g5.trans g6)
                    obtain ⟨A6, B6, rfl, o6, r7, nd6, dis6, dF6⟩ := r6.uncons
                    obtain ⟨M7, s7, r8⟩ := r7.wipe vs
                    rw [ewp] at r8
                    cases e10 : eLcGo g tt te vs (xs.drop (i + 1)) (wipeE e6 vs) with
                    | ex c => rw [e10] at er; cases er
                    | no => rw [e10] at er; cases er
                    | ok z5 =>
                      obtain ⟨r10, e11⟩ := z5
                      rw [e10] at er
                      simp only at er
                      cases er
                      have kp : ∀ a, a ≠ D → ∀ o, H6 a = some o → upd H6 D (.lst (ws ++ [u])) a = some o := fun a ha o e => by rw [upd_ne ha]; exact e
                      have dA : D ∉ A6 := fun hm => L6.dM (List.mem_append_left _ hm)
                      have oN : Ows K F6 (upd H6 D (.lst (ws ++ [u]))) (ts ++ [t]) (ws ++ [u]) (N ++ A6) := by
                        have := (L6.o.keep (Same.refl _) fun a ha o e => kp a (fun z => L6.d (by rw [← z]; exact ha)) o e).append (Ows.cons (o6.keep (Same.refl _) fun a ha o e => kp a (fun z => dA (by rw [← z]; exact ha)) o e) Ows.nil)
                        rwa [List.append_nil] at this
                      have dM7 : D ∉ M7 := fun hm => L6.dM (List.mem_append_right _ (s7.subset hm))
                      refine ⟨ws, L6.h, ?_, F6, wipeE e6 vs, M7, ts ++ [t], ws ++ [u], N ++ A6, r10, Rel.updD r8 dM7 L6.f L6.h, ⟨L6.f, upd_same, oN, fun hm => (List.mem_append.mp hm).elim L6.d dA, dM7, List.nodup_append.mpr ⟨L6.nd, nd6, fun a ha b hb e => L6.nM a ha (List.mem_append_left _ (e ▸ hb))⟩, fun a ha hm => ?_, fun a ha => (List.mem_append.mp ha).elim (L6.nF a) (dF6 a)⟩, sF2.trans (x3.f.trans (g5.f.trans g6.f)), ?_, by simp; omega, e10, by rw [List.append_assoc]; exact eo⟩
                      · rw [← L6.o.length]; omega
                      · rcases List.mem_append.mp ha with z | z
                        · exact L6.nM a z (List.mem_append_right _ (s7.subset hm))
                        · exact dis6 a z (s7.subset hm)
                      · refine G6.trans ⟨Same.refl _, Kp.upd L6.h (by simp), fun a o e => .inl e, fun a ha => .inl ?_⟩
                        simp only [List.mem_append, List.mem_cons] at ha ⊢
                        rcases ha with (z | z | z) | z
                        · exact .inl (.inl z)
                        · exact .inl (.inr z)
                        · exact .inr (.inl z)
                        · exact .inr (.inr (s7.subset z))
        · have e : i = xs.length := by omega
          subst e
          refine .inl ⟨wk.stop H2 sB, ?_⟩
          rw [List.drop_length, eLcGo] at er
          cases er
          rw [List.append_nil] at eo
          subst eo
          obtain ⟨M9, s9, r9⟩ := Rel.rest r1 sF2 (nodupB_spec hnd) hpl rel2
          refine h F2 H2 (.ref D) _ (r9.cons (A := D :: N) (.l L.h L.o) (List.nodup_cons.mpr ⟨L.d, L.nd⟩) (fun a ha hm => ?_) fun a ha => ?_) (G.sub fun a ha => ?_)
          · rcases List.mem_cons.mp ha with z | z
            · rw [z] at hm; exact L.dM (s9.subset hm)
            · exact L.nM a z (s9.subset hm)
          · rcases List.mem_cons.mp ha with z | z
            · rw [z]; exact L.f
            · exact L.nF a z
          · rcases List.mem_append.mp ha with z | z
            · exact List.mem_append_left _ z
            · exact List.mem_append_right _ (s9.subset z)
    · exact h.elim
end
section
variable {X : Cx} {ct : Nat → Addr} {EX : XK} {elt tg iter c : Expr} {m : EM} {tt : Env → Rs (Bool × Env)} {im : Env → Rs (List PyData × Env)} {g : Tg} {scope : Scope} {own : List (Str × Nat)} {pos : Pos}
theorem se_lc (hc : X.calm = true) (hN : X.N.Nodup) (hi : SIE X ct EX tg iter im) (ok : BlkOk X.N X.env.scope scope own)
    (hg : ∀ (s : Shared) (H : Hp) (C : Addr) (cl : List (Str × Addr)) (fp : List Addr), SG (X.blk s H scope (compEnvC scope cl C X.env) fp) tg g)
    (he : ∀ (s : Shared) (H : Hp) (C : Addr) (cl : List (Str × Addr)) (fp : List Addr), SE (X.blk s H scope (compEnvC scope cl C X.env) fp) ct E0 elt m) (hv : ∀ j ∈ g.slots, j ∈ own.map (·.2)) (hs : ∀ x, foldedSetIterable iter X.env x = pure x := by intro _; rfl) :
    SE X ct EX (.ListComp elt [⟨tg, iter, [], 0⟩] scope pos) (eLc im g eYes m (own.map (·.2))) :=
  PE.imp (pe_lc (g := gG X.K g) (te := tE X.K ct E0 m) (wi := tIE X.K ct EX im) hc hN hi ok hg (tt := tTE X.K ct E0 eYes) (fun s H C cl fp => ⟨fun pins s σ H Q I ⟨F, env, M, rel, q⟩ => pts_nil.run pins s σ H Q I (q F H M rel (Go.refl rel.sub))⟩) he hs) fun σ H Q h => eLc_of hv h
theorem se_lcIf (hc : X.calm = true) (hN : X.N.Nodup) (hi : SIE X ct EX tg iter im) (ok : BlkOk X.N X.env.scope scope own)
    (hg : ∀ (s : Shared) (H : Hp) (C : Addr) (cl : List (Str × Addr)) (fp : List Addr), SG (X.blk s H scope (compEnvC scope cl C X.env) fp) tg g)
    (ht : ∀ (s : Shared) (H : Hp) (C : Addr) (cl : List (Str × Addr)) (fp : List Addr), STE (X.blk s H scope (compEnvC scope cl C X.env) fp) ct E0 c tt)
    (he : ∀ (s : Shared) (H : Hp) (C : Addr) (cl : List (Str × Addr)) (fp : List Addr), SE (X.blk s H scope (compEnvC scope cl C X.env) fp) ct E0 elt m) (hv : ∀ j ∈ g.slots, j ∈ own.map (·.2)) (hs : ∀ x, foldedSetIterable iter X.env x = pure x := by intro _; rfl) :
    SE X ct EX (.ListComp elt [⟨tg, iter, [c], 0⟩] scope pos) (eLc im g tt m (own.map (·.2))) :=
  PE.imp (pe_lc (g := gG X.K g) (te := tE X.K ct E0 m) (tt := tTE X.K ct E0 tt) (wi := tIE X.K ct EX im) hc hN hi ok hg (fun s H C cl fp => pts_one (ht s H C cl fp)) he hs) fun σ H Q h => eLc_of hv h
end
end Mi

set_option maxHeartbeats 200000
namespace Mi
open PySem PySem.Spec PyProof.Rows L2
variable [Tb]
section
variable {X : Cx} {ct : Nat → Addr} {EX : XK} {pn : List Nat} {C : Addr} {bmB : List Value} {B newId initId : String} {x : Str} {p pos cpos : Pos}
/-- C() of an own exception class without its own __init__ -/
theorem pmk_own0 (F : ExcBaseFacts B newId initId bmB) (q : PySem.W.excIn X.K C bmB newId = true) (gC : X.mg x = some (.ref C)) (kC : PySem.W.keepIn X.K (.ref C) = true) (r : Raises X (.ref C)) (hg : Gl X x) (hdb : (x == ("__debug__" : Str)) = false := by decide) :
    PMk X (.Call (.Name x p) [] [] cpos) (fun _ H Q => Q (.ref C) none H) := by
  intro pins s σ H Q I h
  refine wpAny_Call_Name_kw (ld_glob I hg gC ?_ hdb)
  refine PySem.W.callWith_K0 I.kIn kC ?_
  obtain ⟨bm, N, nm, qn, bs, hdct, sn, sub, ab, col, dd, k0, k1, k2, k3, k5, mN, hC, hN, hni, T⟩ := exc_obj I.kIn q
  exact wpAny_call_exc_subT (rest := []) F T hC hN hni (fun h' e hm => mk_of I hm r h (I.hok.gone hm.new)) (Nat.zero_le _)
def sRaise (c : Nat) : SM := fun _ => .ex c
theorem ss_raise (c : Nat) (hc : X.calm = true) (tk : Takes X fun cls d _ H => EX cls d H) (F : ExcBaseFacts B newId initId bmB) (q : PySem.W.excIn X.K (ct c) bmB newId = true) (gC : X.mg x = some (.ref (ct c))) (kC : PySem.W.keepIn X.K (.ref (ct c)) = true) (r : Raises X (.ref (ct c))) (hg : Gl X x) (hdb : (x == ("__debug__" : Str)) = false := by decide) :
    SS X ct EX pn (.Raise (some (.Call (.Name x p) [] [] cpos)) none pos) (sRaise c) :=
  PS.imp (ps_raise hc tk (pmk_own0 F q gC kC r hg hdb)) fun D σ H ⟨F, env, M, rel, q⟩ => q H Kp.refl
def sNo : SM := fun _ => .no
theorem ss_no {st : Stmt} : SS X ct EX pn st sNo := PS.imp ps_never fun D σ H ⟨F, env, M, rel, q⟩ => q
theorem sss_no {sts : List Stmt} : SSs X ct EX pn sts sNo := PSs.imp pss_never fun D σ H ⟨F, env, M, rel, q⟩ => q
end
end Mi

set_option maxHeartbeats 200000
namespace Mi
open PySem PySem.Spec PyProof.Rows L2
variable [Tb]

/-! ### sorting, by insertion -/
section
variable {α : Type} (le : α → α → Bool)
def ins (x : α) : List α → List α
  | [] => [x]
  | y :: ys => if le x y then x :: y :: ys else y :: ins x ys
def isort : List α → List α
  | [] => []
  | x :: xs => ins le x (isort xs)
theorem ins_split {x : α} : ∀ {l₁ l₂ : List α}, (∀ b ∈ l₁, (!le x b) = true) → (∀ b, l₂.head? = some b → le x b = true) → ins le x (l₁ ++ l₂) = l₁ ++ x :: l₂
  | [], [], _, _ => rfl
  | [], b :: l₂, _, h => by
    show (if le x b then _ else _) = _
    rw [if_pos (h b rfl)]; rfl
  | a :: l₁, l₂, h, h2 => by
    have := h a List.mem_cons_self
    show (if le x a then _ else _) = _
    rw [if_neg (by simpa using this)]
    show a :: ins le x (l₁ ++ l₂) = _
    rw [ins_split (fun b hb => h b (List.mem_cons_of_mem _ hb)) h2]; rfl
theorem isort_eq (trans : ∀ a b c : α, le a b = true → le b c = true → le a c = true) (total : ∀ a b : α, (le a b || le b a) = true) : ∀ xs : List α, xs.mergeSort le = isort le xs
  | [] => by simp [isort]
  | x :: xs => by
    obtain ⟨l₁, l₂, e1, e2, h⟩ := List.mergeSort_cons trans total x xs
    have hs := List.pairwise_mergeSort trans total (x :: xs)
    rw [e1] at hs ⊢
    rw [isort, ← isort_eq trans total xs, e2, ins_split le h]
    intro b hb
    cases l₂ with
    | nil => cases hb
    | cons c l₂ =>
      cases hb
      rw [List.pairwise_append] at hs
      exact (List.pairwise_cons.mp hs.2.1).1 _ List.mem_cons_self
end
def dle (a b : PyData) : Bool := !PySem.W.dataLt b a
theorem dle_eq : PySem.W.dataLe false (fun d : PyData => d) = dle := rfl
theorem dle_trans : ∀ a b c : PyData, dle a b = true → dle b c = true → dle a c = true := (PySem.W.sortLe_total (PyProof.Rows.listOrd PyProof.Rows.itemOrd) false fun d : PyData => PySem.W.keyToks d).trans
theorem dle_total : ∀ a b : PyData, (dle a b || dle b a) = true := fun a b => Bool.or_eq_true _ _ ▸ (PySem.W.sortLe_total (PyProof.Rows.listOrd PyProof.Rows.itemOrd) false fun d : PyData => PySem.W.keyToks d).total a b
def alikesB (xs : List PyData) : Bool := xs.all fun a => xs.all fun b => PySem.W.alike a b
def isTup1 (d : PyData) : Bool := match d with
  | .tuple (_ :: _) => true
  | _ => false
def notTup (d : PyData) : Bool := match d with
  | .none => false
  | .tuple _ => false
  | _ => true
def sortOk (xs : List PyData) : Bool := alikesB xs && (xs.all isTup1 || xs.all notTup) && decide (xs.length ≤ sizeLine) && xs.all fun d => decide (d.depth ≤ 60)
def bSorted : List T → Option T
  | [t] => t.seq.bind fun xs => if sortOk xs then some (.l ((isort dle xs).map .d)) else none
  | _ => none
section
variable {prog : Program} {w : World} {A : Around} {E : Value → Shared → Prop} {s : Shared}
open PyProof.Rows Builtin in
theorem collect_tuple {l : Addr} {vs : List Value} {Q : List Value → Shared → Prop} (hl : s.heap.IsTuple l vs.toArray)
    (h : Q vs { s with heap := (s.heap.push (seqObj "list" #[] 0)).update s.heap.objs.size (Obj.mapSeq (· ++ vs.toArray)) }) (hsz : vs.length ≤ sizeLine := by size_fits) :
    wpAny (model prog w) A (collect (.ref l)) Q E s := by
  obtain ⟨o, ho, hc, n, hd⟩ := id hl
  unfold collect
  refine wpAny_bind (wpAny_runValue (codeAny_builtin entry_proto_collect' ?_))
  show wpAny _ _ (do again (.builtin "list.__iadd__" ⟨[← newList [], .ref l], []⟩)) _ _ s
  refine wpAny_bind (wpAny_newList (wpAny_pure ⟨Code.quiet_builtin _ (by decide +kernel), codeAny_builtin entry_list_iadd' ?_⟩))
  show wpAny _ _ (Builtin.List.listExtendWith (.ref s.heap.objs.size) (.ref l) (.ref s.heap.objs.size)) _ _ { s with heap := s.heap.push (seqObj "list" #[] 0) }
  unfold Builtin.List.listExtendWith
  have ho' : (s.heap.push (seqObj "list" #[] 0)).get? l = some o := Heap.get?_push_of_some _ ho
  refine wpAny_bind (wpAny_typeOf (T := "tuple") ⟨o, ho', hc⟩ ?_)
  have ht : (Value.type "tuple" == Value.type "tuple") = true := by rfl
  rw [if_pos (by rw [ht]; simp)]
  refine wpAny_bind (listItems_at ho' hd ?_)
  refine wpAny_bind (listItems_at (xs := #[]) (n := 0) (Heap.get?_push_size _ rfl) rfl ?_)
  rw [if_neg (by simp)]
  refine wpAny_bind (listUpdate_at (xs := #[]) (n := 0) (Heap.get?_push_size _ rfl) rfl ?_ (Nat.zero_le _) (by show (#[] ++ vs.toArray).size ≤ sizeLine + 1; simp only [Array.size_append, List.size_toArray, List.length_nil]; omega))
  refine wpAny_pure ?_
  show wpAny (model prog w) A (do
      let o ← load s.heap.objs.size
      match o.data with
      | .seq xs _ => pure xs.toList
      | _ => unsupported "internal:collect") Q E { s with heap := (s.heap.push (seqObj "list" #[] 0)).update s.heap.objs.size (Obj.mapSeq (· ++ vs.toArray)) }
  refine wpAny_bind (wpAny_load (get?_update_seq (Heap.get?_push_size _ rfl) _) ?_)
  show wpAny _ _ (pure ((#[] : Array Value) ++ vs.toArray).toList) Q E _
  rw [show ((#[] : Array Value) ++ vs.toArray).toList = vs by simp]
  exact wpAny_pure h
open PySem.W PySem.Calls PyProof.Rows in
theorem sorted_of_sortT {l : Addr} {vs : List Value} {Q : Value → Shared → Prop} (hl : s.heap.IsTuple l vs.toArray) (hL : vs.length ≤ sizeLine)
    (body : ∀ E' : Value → Shared → Prop, wpAny (model prog w) A.in1.in1 (Builtin.«list.sort» ⟨[.ref (s.heap.objs.size + 1)], []⟩) (fun f s' => f = .done (.ret .none) ∧ Q (.ref (s.heap.objs.size + 1)) s') E' { s with heap := copyHeap s.heap vs }) :
    wpAny (model prog w) A (call (.builtin "sorted") [.ref l]) Q E s := by
  refine call_function_entry_kw kind_sorted plain_sorted entry_sorted (args_sorted1 _) ?_
  unfold Builtin.«sorted»
  refine wpAny_bind (m := checkCount "sorted" 1 1 _) (wpAny_pure ?_)
  refine wpAny_bind (collect_tuple hl ?_ hL)
  refine wpAny_bind (wpAny_newList ?_ hL)
  have hsz : ((s.heap.push (seqObj "list" #[] 0)).update s.heap.objs.size (Obj.mapSeq (· ++ vs.toArray))).objs.size = s.heap.objs.size + 1 := by
    rw [Heap.size_update, size_push']
  show wpAny _ _ _ _ _ { s with heap := copyHeap s.heap vs }
  rw [hsz]
  refine wpAny_bind (wpAny_holding (wpAny_call_entry_kw slot_list_sort ⟨_, copyHeap_at s.heap vs, rfl⟩ entry_list_sort ?body (args_list_sort _)))
  case body =>
    show wpAny (model prog w) A.in1.in1 (Builtin.«list.sort» ⟨[.ref (s.heap.objs.size + 1)], []⟩) _ _ _
    refine wpAny_mono (body _) (fun f s' hf => ?_) fun _ _ e => e
    obtain ⟨rfl, hq⟩ := hf
    exact ⟨_, rfl, wpAny_pure ⟨_, rfl, hq⟩⟩
open PySem.W PySem.Calls PyProof.Rows in
theorem sorted_dataT {β : Type} {vs : List Value} {bs : List β} {enc : β → PyData} {R : Value → β → Prop} {l : Addr} {Q : Value → Shared → Prop} (hl : s.heap.IsTuple l vs.toArray) (e : PySem.W.EachIs R vs bs) (er : PySem.W.EachIs (fun v b => ∃ as, Reads s.heap v (enc b) as) vs bs) (hal : AllAlike (bs.map enc)) (hk : Sortable (bs.map enc)) (hL : bs.length ≤ sizeLine)
    (hu : ∀ b, b ∈ bs → A.units + 2 + (enc b).depth < cLine) (h : ∀ out, out.length = bs.length → PySem.W.EachIs R out (bs.mergeSort (dataLe false enc)) → Q (.ref (s.heap.objs.size + 1)) { s with heap := sortedAll s.heap vs (List.toArray out) }) :
    wpAny (model prog w) A (call (.builtin "sorted") [.ref l]) Q E s := by
  have er' : PySem.W.EachIs (fun v b => ∃ as, Reads (sortingHeap (copyHeap s.heap vs) (s.heap.objs.size + 1) vs) v (enc b) as) vs bs := er.mono fun _ _ ⟨as, r⟩ => ⟨as, PyProof.Rows.Reads.keeps (fun _ _ => sorting_copy_old) r⟩
  refine sorted_of_sortT hl (by rw [e.length]; exact hL) fun E' => list_sort_vals (s := { s with heap := copyHeap s.heap vs }) (copyHeap_at s.heap vs) (SortsAt.data (s := { s with heap := sortingHeap (copyHeap s.heap vs) (s.heap.objs.size + 1) vs }) (each_map (R := fun v d => ∃ as, Reads (sortingHeap (copyHeap s.heap vs) (s.heap.objs.size + 1) vs) v d as) enc er') hal hk (bound_map hu)) (by rw [e.length]; exact hL) ⟨rfl, ?_⟩
  exact h _ (by rw [sortVals_length false rfl]; exact e.length) (sortVals_data false e er' hal)
end
section
variable {X : Cx} {pins : List (Addr × Obj)} {σ : Sg} {F H : Hp} {s : Shared}
theorem each_zip {K : PySem.W.Frag} : ∀ {xs : List PyData} {vs : List V} {us : List Value}, DpAll K F vs xs → Vals vs us → PySem.W.EachIs (fun (u : Value) (p : V × PyData) => RelV p.1 u ∧ Dp K F p.1 p.2) us (vs.zip xs)
  | _, _, _, .nil, .nil => .nil
  | _, _, _, .cons d ds, .cons r rs => .cons ⟨r, d⟩ (each_zip ds rs)
theorem of_each {K : PySem.W.Frag} : ∀ {ps : List (V × PyData)} {us : List Value}, PySem.W.EachIs (fun (u : Value) (p : V × PyData) => RelV p.1 u ∧ Dp K F p.1 p.2) us ps → Vals (ps.map (·.1)) us ∧ DpAll K F (ps.map (·.1)) (ps.map (·.2))
  | _, _, .nil => ⟨.nil, .nil⟩
  | _, _, .cons h t => ⟨.cons h.1 (of_each t).1, .cons h.2 (of_each t).2⟩
theorem sortOk_spec {xs : List PyData} (h : sortOk xs = true) : PySem.W.AllAlike xs ∧ PySem.W.Sortable xs ∧ xs.length ≤ sizeLine ∧ ∀ d ∈ xs, d.depth ≤ 60 := by
  unfold sortOk alikesB at h
  simp only [Bool.and_eq_true, List.all_eq_true, decide_eq_true_eq, Bool.or_eq_true] at h
  obtain ⟨⟨⟨h1, h2⟩, h3⟩, h4⟩ := h
  refine ⟨fun d hd d' hd' => h1 d hd d' hd', ?_, h3, h4⟩
  rcases h2 with h2 | h2
  · left
    intro d hd
    have := h2 d hd
    unfold isTup1 at this
    split at this
    · exact ⟨_, _, rfl⟩
    · cases this
  · right
    intro d hd
    have := h2 d hd
    unfold notTup at this
    split at this
    · cases this
    · cases this
    · rename_i a b; exact ⟨a, fun xs e => b xs e⟩
theorem cal_sorted {k : Nat} (hr : Room k X.A) : CallR X (.builtin "sorted") (rA X.K bSorted) := by
  intro pins s σ H xs us Q I r ⟨F, ts, t, sub, vs, e, o⟩
  unfold bSorted at e
  split at e
  · rename_i t0
    cases es : t0.seq with
    | none => rw [es] at e; cases e
    | some ys =>
      rw [es] at e
      simp only [Option.bind] at e
      split at e
      · rename_i hok
        cases e
        obtain ⟨v, e1, w1⟩ := Vws1 vs
        subst e1
        obtain ⟨p, ws, ev, hq, hd, _⟩ := Vw.seq sub w1 es
        subst ev
        obtain ⟨u, rfl, ru⟩ := vals1 r
        cases ru
        obtain ⟨h1, h2, h3, h4⟩ := sortOk_spec hok
        have dH : DpAll X.K H ws ys := DpAll.mono sub hd
        have fin : ∀ {its : List Value}, Vals ws its → ∀ out, out.length = (ws.zip ys).length → PySem.W.EachIs (fun (u : Value) (p : V × PyData) => RelV p.1 u ∧ Dp X.K F p.1 p.2) out ((ws.zip ys).mergeSort (PySem.W.dataLe false fun p : V × PyData => p.2)) → EP X pins σ Q (.ref (s.heap.objs.size + 1)) { s with heap := PyProof.Rows.sortedAll s.heap its (List.toArray out) } := fun {its} rv out hl he => by
          obtain ⟨rv2, d2⟩ := of_each he
          obtain ⟨c, hc⟩ := PyProof.Rows.sortedAll_at s.heap its out.toArray
          have hlen := hd.length
          have zl : (ws.zip ys).length = ys.length := by rw [List.length_zip]; omega
          have I1 := I.laid (a := s.heap.objs.size + 1) (o := .lst (((ws.zip ys).mergeSort (PySem.W.dataLe false fun p : V × PyData => p.2)).map (·.1))) (t' := s.toks) (h' := PyProof.Rows.sortedAll s.heap its (List.toArray out)) (fun _ _ q => PyProof.Rows.sortedAll_old q) (Nat.le_succ _) ⟨by rw [List.length_map, List.length_mergeSort, zl]; exact h3, out, c, rv2, hc⟩
          have np : H (s.heap.objs.size + 1) = none := I.hok.fresh (Nat.le_succ _)
          have ed : ((ws.zip ys).mergeSort (PySem.W.dataLe false fun p : V × PyData => p.2)).map (·.2) = isort dle ys := by
            refine (List.map_mergeSort (f := Prod.snd) (s := dle) (fun a _ b _ => rfl)).trans ?_
            rw [isort_eq dle dle_trans dle_total]
            congr 1
            exact List.map_snd_zip (by omega)
          rw [ed] at d2
          exact ⟨V.ref _, _, I1, rfl, o.lst sub np d2⟩
        have hb : ∀ b, b ∈ ws.zip ys → X.A.units + 2 + (b.2).depth < cLine := fun b hb => by
          have := h4 b.2 (List.of_mem_zip hb).2
          have := hr.units
          omega
        have em : (ws.zip ys).map (fun p : V × PyData => p.2) = ys := List.map_snd_zip (by have := hd.length; omega)
        have hzl : (ws.zip ys).length ≤ sizeLine := by rw [List.length_zip]; omega
        rcases hq with hq | hq
        · obtain ⟨its, rv, pl, hz⟩ := I.list hq
          have e0 := each_zip hd rv
          have er : PySem.W.EachIs (fun v (b : V × PyData) => ∃ as, Reads s.heap v b.2 as) its (ws.zip ys) := e0.mono fun v b ⟨r1, d1⟩ => Dp.reads I b.2 b.1 v (Dp.mono sub d1) r1
          exact PySem.W.sorted_data pl.isList e0 er (by rw [em]; exact h1) (by rw [em]; exact h2) hzl hb (fin rv)
        · obtain ⟨its, rv, pl, hz⟩ := I.tuple hq
          have e0 := each_zip hd rv
          have er : PySem.W.EachIs (fun v (b : V × PyData) => ∃ as, Reads s.heap v b.2 as) its (ws.zip ys) := e0.mono fun v b ⟨r1, d1⟩ => Dp.reads I b.2 b.1 v (Dp.mono sub d1) r1
          exact sorted_dataT pl e0 er (by rw [em]; exact h1) (by rw [em]; exact h2) hzl hb (fin rv)
      · cases e
  · cases e
end
end Mi

set_option maxHeartbeats 200000
namespace Mi
open PySem PySem.Spec PyProof.Rows L2
variable [Tb]

/-! ### repr -/
def bRepr : List T → Option T
  | [t] => if t.frz.showable && !t.frz.hasDict && decide (t.frz.depth ≤ 60) && decide (t.frz.shown.length ≤ sizeLine) then some (.d (.str t.frz.shown)) else none
  | _ => none
section
variable {X : Cx} {k : Nat}
theorem cal_repr (hr : Room k X.A) (hgd : X.A.guards = some []) : CallR X (.builtin "repr") (rA X.K bRepr) := by
  intro pins s σ H xs us Q I rx ⟨F, ts, r, sub, h, e, q⟩
  unfold bRepr at e
  split at e
  · rename_i t
    split at e
    · rename_i hok
      cases e
      simp only [Bool.and_eq_true, decide_eq_true_eq, Bool.not_eq_true'] at hok
      obtain ⟨⟨⟨h1, h2⟩, h3⟩, h4⟩ := hok
      obtain ⟨v, rfl, h0⟩ := Vws1 h
      obtain ⟨u, rfl, ru⟩ := vals1 rx
      have dH : Dp X.K H v t.frz := Vw.dp sub h0
      have hun := hr.un
      have qq := q.str sub
      generalize t.frz = d at *
      obtain ⟨as, rd⟩ := Dp.reads I d v u dH ru
      cases dH with
      | non => cases (show u = Value.none from ru); exact PySem.P.repr_of_none ⟨.str _, H, I.tok _, ⟨_, rfl⟩, qq⟩
      | bl b => cases (show u = Value.bool b from ru); exact PySem.P.repr_of_bool ⟨.str _, H, I.tok _, ⟨_, by cases b <;> rfl⟩, qq⟩
      | int i =>
        obtain ⟨t, rfl⟩ := ru
        exact PySem.P.repr_of_int (by simpa [PyData.showable] using h1) ⟨.str _, H, I.tok _, ⟨_, rfl⟩, qq⟩
      | str x =>
        obtain ⟨t, rfl⟩ := ru
        exact PySem.P.repr_of_str ⟨.str _, H, I.tok _, ⟨_, rfl⟩, qq⟩ (by simpa [PyData.shown] using h4)
      | lst hq ha =>
        cases ru
        exact repr_of_reads' rd h1 (fun z => by rw [h2] at z; cases z) hgd (by omega) (fun _ _ e => e) (fun h' u tk hk => ⟨.str _, H, I.kept (t' := tk) hk, ⟨u, rfl⟩, qq⟩) h4
      | tup hq ha =>
        cases ru
        exact repr_of_reads' rd h1 (fun z => by rw [h2] at z; cases z) hgd (by omega) (fun _ _ e => e) (fun h' u tk hk => ⟨.str _, H, I.kept (t' := tk) hk, ⟨u, rfl⟩, qq⟩) h4
    · cases e
  · cases e
/-! ### isinstance of data -/
def mIsa (f : PyData → Bool) (p : PM) : PM := fun env => (p env).bind fun t => .ok (.d (.bool (f t.frz)))
def IsaRule (T : String) (f : PyData → Bool) : Prop := ∀ (prog : Program) (w : World) (A : Around) (E : Value → Shared → Prop) (s : Shared) (v : Value) (d : PyData) (as : List Addr) (Q : Value → Shared → Prop), Reads s.heap v d as → (∀ tk, s.toks ≤ tk → Q (.bool (f d)) { s with toks := tk }) →
  wpAny (model prog w) A (call (.builtin "isinstance") [v, .type T]) Q E s
theorem isa_int : IsaRule "int" PyData.isInt := fun _ _ _ _ _ _ _ _ _ r h => PySem.W.isinstance_int_data r h
theorem isa_bool : IsaRule "bool" PyData.isBool := fun _ _ _ _ _ _ _ _ _ r h => PySem.W.isinstance_bool_data r h
theorem isa_str : IsaRule "str" PyData.isStr := fun _ _ _ _ _ _ _ _ _ r h => PySem.W.isinstance_str_data r h
theorem isa_tuple : IsaRule "tuple" PyData.isTuple := fun _ _ _ _ _ _ _ _ _ r h => PySem.W.isinstance_tuple_data r h
theorem isa_list : IsaRule "list" PyData.isList := fun _ _ _ _ _ _ _ _ _ r h => PySem.W.isinstance_list_data r h
def rIsaV (K : PySem.W.Frag) (T : String) (f : PyData → Bool) : List V → Hp → VK → Prop := fun xs H Q => ∃ F t v, Same F H ∧ Vw K F H t v ∧ xs = [v, .ty T] ∧ Q (.bl (f t.frz)) H
theorem cal_isa {T : String} {f : PyData → Bool} (R : IsaRule T f) : CallR X (.builtin "isinstance") (rIsaV X.K T f) := by
  intro pins s σ H xs us Q I rx ⟨F, t, v, sub, h, e, q⟩
  subst e
  obtain ⟨u1, u2, rfl, r1, r2⟩ := vals2 rx
  cases (show u2 = Value.type T from r2)
  obtain ⟨as, rd⟩ := Dp.reads I t.frz v u1 (Vw.dp sub h) r1
  exact R _ _ _ _ _ _ _ _ _ rd fun tk _ => ⟨.bl _, H, I.tok tk, rfl, q⟩
variable {ct : Nat → Addr} {EX : XK} {e : Expr} {pa : PM} {pos : Pos}
theorem sp_isa {T : String} {y : Str} {f : PyData → Bool} {p p2 : Pos} (R : IsaRule T f) (hg : Gl X "isinstance") (hm : X.mg "isinstance" = none) (hg2 : Gl X y) (hm2 : X.mg y = none) (hv : bootBuiltins y = some (.type T)) (ha : SV X ct EX e pa) (hn : y ≠ "__name__" := by decide) (hd : (y == ("__debug__" : Str)) = false := by decide)
    (hs : starEach [e, .Name y p2] X.env = (false, eval e X.env) :: starEach [.Name y p2] X.env := by rfl) (hs2 : starEach [.Name y p2] X.env = (false, eval (.Name y p2) X.env) :: starEach [] X.env := by rfl) (hpl : (backTo pos (starEach [.Name y p2] X.env)).any (·.1) = false := by rfl) :
    SP X ct EX (.Call (.Name "isinstance" p) [e, .Name y p2] [] pos) (mIsa f pa) :=
  PE.imp (pe_callB (cal_isa R) hg hm (by decide +kernel) (pa_cons ha (pa_cons (pe_bltn (v := .ty T) hg2 hm2 hv rfl hn hd) pa_nil hs2) hs) (he := hs) (hpl := hpl)) fun σ H Q ⟨F, env, M, rel, q⟩ => by
    refine tV.mono (bindV (g := fun t => .ok (.d (.bool (f t.frz)))) rel q) fun v H1 ⟨F1, t, x1, v1, _, h1⟩ => ?_
    exact ⟨F1, t, v, x1.s, v1, rfl, h1 F1 H1 _ [] (Ext.refl x1.s) .nil (.d (.bl _))⟩
end
end Mi

set_option maxHeartbeats 200000
namespace Mi
open PySem PySem.Spec PyProof.Rows L2
variable [Tb]

/-! ### methods that write nothing -/
def rM (K : PySem.W.Frag) (c : T → Bool) (f : T → List T → Option T) : V → List V → Hp → VK → Prop := fun x xs H Q => ∃ F t ts r, Same F H ∧ Vw K F H t x ∧ Vws K F H ts xs ∧ c t = true ∧ f t ts = some r ∧ out K F H r Q
def isLs : T → Bool
  | .l _ => true
  | .d (.list _) => true
  | _ => false
def isTp : T → Bool
  | .d (.tuple _) => true
  | _ => false
def isSt : T → Bool
  | .d (.str _) => true
  | _ => false
def tyT (K : PySem.W.Frag) (c : T → Bool) : V → Hp → Prop := fun x H => ∃ F t, Same F H ∧ Vw K F H t x ∧ c t = true
section
variable {X : Cx}
theorem ty_ls : TyOk X "list" (tyT X.K isLs) := by
  intro pins σ H s x v I r ⟨F, t, sub, vw, c⟩
  have : ∃ p xs, x = .ref p ∧ SqL X.K H p xs := by
    unfold isLs at c
    split at c
    · obtain ⟨p, vs, rfl, g1, _⟩ := Vw_list vw; exact ⟨p, vs, rfl, SqL.of g1⟩
    · obtain ⟨p, vs, rfl, g1, _⟩ := Vw_flist vw; exact ⟨p, vs, rfl, SqL.mono sub g1⟩
    · cases c
  obtain ⟨p, xs, rfl, hq⟩ := this
  cases r
  obtain ⟨its, _, pl, _⟩ := I.list hq
  refine ⟨pl.isList.typeIs, fun a e => ?_⟩
  cases e
  obtain ⟨o, n, e, c, hd, _⟩ := pl
  exact ⟨o, e, hd⟩
theorem ty_st : TyOk X "str" (tyT X.K isSt) := by
  intro pins σ H s x v I r ⟨F, t, sub, vw, c⟩
  unfold isSt at c
  split at c
  · cases Vw_str vw
    obtain ⟨t, rfl⟩ := r
    exact ⟨typeIs_str s _ t, fun _ e => nomatch e⟩
  · cases c
variable {ct : Nat → Addr} {EX : XK} {o e : Expr} {es : List Expr} {pa : PM} {ps : PMs} {pos apos cpos : Pos} {name : Str} {T0 id : String}
def mMeth (c : T → Bool) (f : T → List T → Option T) (pa : PM) (ps : PMs) : PM := fun env => (pa env).bind fun t => if c t then (ps env).bind fun ts => Rs.of (f t ts) else .no
theorem sp_meth {c : T → Bool} {f : T → List T → Option T} (ht : TyOk X T0 (tyT X.K c)) (pl : PlainAttrs T0) (slot : Slot T0 name id) (hty : typeOf (.builtin id) = pure (.type "method_descriptor")) (hm : MtR X id (rM X.K c f)) (ho : SV X ct EX o pa) (ha : SVs X ct EX (e :: es) ps)
    (hbase : attributeBase o name X.env (eval o X.env) = eval o X.env := by rfl)
    (hfew : ((backTo cpos (starEach (e :: es) X.env)).all (fun x => !x.1) && (backToKw cpos (keywordEach [] X.env)).all (fun x => x.1.isSome)
      && decide ((e :: es).length + ([] : List Keyword).length + (if ([] : List Keyword).isEmpty then 0 else 1) < 30)) = true := by rfl)
    (hline : (apos.endLine == cpos.line) = true := by rfl) (hs : starEach (e :: es) X.env = (false, eval e X.env) :: starEach es X.env := by rfl) (hplain : (backTo cpos (starEach es X.env)).any (·.1) = false := by rfl) :
    SP X ct EX (.Call (.Attribute o name apos) (e :: es) [] cpos) (mMeth c f pa ps) :=
  PE.imp (pe_mG ht pl slot hty hm ho ha hbase hfew hline hs hplain) fun σ H Q ⟨F, env, M, rel, q⟩ => by
    refine tV.mono (bindV (g := fun t => if c t then (ps env).bind fun ts => Rs.of (f t ts) else .no) rel q) fun x H1 ⟨F1, t, x1, v1, _, h1⟩ => ?_
    cases ec : c t with
    | false => rw [ec] at h1; exact h1.elim
    | true =>
      rw [ec] at h1
      refine ⟨⟨F1, t, x1.s, v1, ec⟩, ?_⟩
      refine tVs.mono (bindVs (g := fun ts => Rs.of (f t ts)) (rel.ext x1) h1) fun xs H2 ⟨F2, ts, x2, v2, _, h2⟩ => ?_
      cases e3 : f t ts with
      | none => rw [e3] at h2; exact h2.elim
      | some r => rw [e3] at h2; exact ⟨F2, t, ts, r, x2.s, v1.mono x2.f x2.h, v2, ec, e3, h2⟩
/-! join -/
def strsD : List PyData → Option (List Str)
  | [] => some []
  | .str z :: xs => (strsD xs).map (z :: ·)
  | _ => none
theorem strs_eq : ∀ {xs : List PyData} {zs : List Str}, strsD xs = some zs → xs = zs.map .str
  | [], _, e => by cases e; rfl
  | .str z :: xs, zs, e => by
    rw [strsD] at e
    cases h : strsD xs with
    | none => rw [h] at e; cases e
    | some ys => rw [h] at e; cases e; rw [strs_eq h]; rfl
  | .none :: _, _, e => by cases e
  | .bool _ :: _, _, e => by cases e
  | .int _ :: _, _, e => by cases e
  | .list _ :: _, _, e => by cases e
  | .tuple _ :: _, _, e => by cases e
  | .dict _ :: _, _, e => by cases e
theorem DpAll.of_strs {K : PySem.W.Frag} {F : Hp} : ∀ {zs : List Str} {vs : List V}, DpAll K F vs (zs.map .str) → vs = zs.map .str
  | [], _, h => by cases h; rfl
  | z :: zs, _, .cons h hs => by cases h; rw [DpAll.of_strs hs]; rfl
def xJoin : T → List T → Option T
  | .d (.str a), [t] => (t.seq.bind strsD).bind fun ys => if (ys.map (·.length)).sum + ys.length * a.length ≤ 16777216 then some (.d (.str (Txt.join a ys))) else none
  | _, _ => none
theorem mtr_join : MtR X "str.join" (rM X.K isSt xJoin) := by
  intro pins s σ H x xs v us Q I rx rxs ⟨F, t, ts, r, sub, v1, v2, _, e, o⟩
  unfold xJoin at e
  split at e
  · rename_i a t0 _
    cases es : t0.seq with
    | none => rw [es] at e; cases e
    | some ds =>
      rw [es] at e
      simp only [Option.bind] at e
      cases ey : strsD ds with
      | none => rw [ey] at e; cases e
      | some ys =>
        rw [ey] at e
        simp only at e
        split at e
        · rename_i hz
          cases e
          obtain ⟨w, rfl, w1⟩ := Vws1 v2
          cases Vw_str v1
          obtain ⟨p, ws, rfl, hq, hd, _⟩ := Vw.seq sub w1 es
          cases strs_eq ey
          cases DpAll.of_strs hd
          exact mt_join pins s σ H _ _ v us Q I rx rxs ⟨a, p, ys, rfl, rfl, hq, hz, o.str sub⟩
        · cases e
  · cases e
/-! count, index -/
def xCountL : T → List T → Option T := fun t ts => match ts with
  | [u] => t.seq.bind fun xs => if min (PyData.depthAll xs) u.frz.depth ≤ 60 then some (.d (.int ((xs.countP fun y => PyData.eqv y u.frz : Nat) : Int))) else none
  | _ => none
variable {k : Nat}
theorem Vw.ls {K : PySem.W.Frag} {F H : Hp} (sub : Same F H) {t : T} {v : V} {xs : List PyData} (h : Vw K F H t v) (c : isLs t = true) (e : t.seq = some xs) : ∃ p vs, v = .ref p ∧ SqL K H p vs ∧ DpAll K F vs xs := by
  obtain ⟨p, vs, rfl, _, hd, hl, _⟩ := Vw.seq sub h e
  refine ⟨p, vs, rfl, hl fun ys z => ?_, hd⟩
  subst z; cases c
theorem mtr_countU (hun : X.A.units + 100 < cLine) : MtR X "list.count" (rM X.K isLs xCountL) := by
  intro pins s σ H x xs v us Q I rx rxs ⟨F, t, ts, r, sub, v1, v2, c, e, o⟩
  unfold xCountL at e
  split at e
  · rename_i u
    cases es : t.seq with
    | none => rw [es] at e; cases e
    | some ds =>
      rw [es] at e
      simp only [Option.bind] at e
      split at e
      · rename_i hd0
        cases e
        obtain ⟨w, rfl, w1⟩ := Vws1 v2
        obtain ⟨p, ws, rfl, hL, hd⟩ := Vw.ls sub v1 c es
        obtain ⟨uu, rfl, ru⟩ := vals1 rxs
        cases rx
        obtain ⟨its, rv, pl, hz⟩ := I.list hL
        have dH : Dp X.K H w u.frz := Vw.dp sub w1
        obtain ⟨bs, r1⟩ := Dp.reads I u.frz w uu dH ru
        have dA : DpAll X.K H ws ds := DpAll.mono sub hd
        obtain ⟨as, h4⟩ := Dp.readsAll I ds ws its dA rv
        exact PySem.SeqAt.count_list_data (vs := its.toArray) pl.isList (by simpa using h4) r1 (DpAll.plain dA) (Dp.plain dH) (by omega) ⟨V.int _, H, I.tok _, ⟨_, rfl⟩, o.int sub⟩
      · cases e
  · cases e
theorem mtr_countL (hr : Room k X.A) : MtR X "list.count" (rM X.K isLs xCountL) := mtr_countU (by have := hr.un; omega)
def firstAt (d : PyData) : List PyData → Option Nat
  | [] => none
  | x :: xs => if PyData.eqv x d then some 0 else (firstAt d xs).map (· + 1)
theorem firstAt_spec {d : PyData} : ∀ {xs : List PyData} {j : Nat}, firstAt d xs = some j → ∃ z, xs[j]? = some z ∧ PyData.eqv z d = true ∧ ∀ (m : Nat) (z' : PyData), m < j → xs[m]? = some z' → PyData.eqv z' d = false
  | x :: xs, j, e => by
    unfold firstAt at e
    split at e
    · rename_i h; cases e; exact ⟨x, rfl, h, fun m _ hm => absurd hm (Nat.not_lt_zero m)⟩
    · rename_i h
      cases e2 : firstAt d xs with
      | none => rw [e2] at e; cases e
      | some i =>
        rw [e2] at e; cases e
        obtain ⟨z, h1, h2, h3⟩ := firstAt_spec e2
        refine ⟨z, by simpa using h1, h2, fun m z' hm hz => ?_⟩
        cases m with
        | zero => cases hz; simpa using h
        | succ m => exact h3 m z' (Nat.lt_of_succ_lt_succ hm) (by simpa using hz)
def xIndex : T → List T → Option T := fun t ts => match ts with
  | [u] => t.seq.bind fun xs => if SeqAt.shaped (.list xs) && SeqAt.shaped u.frz then (firstAt u.frz xs).map fun j => .d (.int (j : Nat)) else none
  | _ => none
theorem mtr_indexU (hun : X.A.units + 100 < cLine) : MtR X "list.index" (rM X.K isLs xIndex) := by
  intro pins s σ H x xs v us Q I rx rxs ⟨F, t, ts, r, sub, v1, v2, c, e, o⟩
  unfold xIndex at e
  split at e
  · rename_i u
    cases es : t.seq with
    | none => rw [es] at e; cases e
    | some ds =>
      rw [es] at e
      simp only [Option.bind] at e
      split at e
      · rename_i hd0
        rw [Bool.and_eq_true] at hd0
        cases ej : firstAt u.frz ds with
        | none => rw [ej] at e; cases e
        | some j =>
          rw [ej] at e; cases e
          obtain ⟨w, rfl, w1⟩ := Vws1 v2
          obtain ⟨p, ws, rfl, hL, hd⟩ := Vw.ls sub v1 c es
          obtain ⟨z, h1, h2, h3⟩ := firstAt_spec ej
          exact mt_indexD (by omega) pins s σ H _ _ v us Q I rx rxs ⟨p, w, u.frz, ds, j, z, rfl, rfl, .lst hL (DpAll.mono sub hd), Vw.dp sub w1, hd0.1, hd0.2, h1, h2, h3, o.int sub⟩
      · cases e
  · cases e
theorem mtr_indexL (hr : Room k X.A) : MtR X "list.index" (rM X.K isLs xIndex) := mtr_indexU (by have := hr.un; omega)
/-! ### a dict of the module with texts as keys and texts as values -/
def mInKD (ks : List Str) (p : PM) : PM := fun env => (p env).bind fun t => match t with
  | .d (.str z) => .ok (.d (.bool (ks.contains z)))
  | _ => .no
end
end Mi

set_option maxHeartbeats 200000
namespace Mi
open PySem PySem.Spec PyProof.Rows L2
variable [Tb]

/-! ### what is new, let in -/
def eFr (m : EM) : EM := fun env => (m env).bind fun p => .ok (.d p.1.frz, p.2)
def eFrs (ms : EMs) : EMs := fun env => (ms env).bind fun p => .ok ((T.frzs p.1).map .d, p.2)
theorem Ows.ofDs {K : PySem.W.Frag} {F H : Hp} : ∀ {xs : List PyData} {vs : List V}, DpAll K F vs xs → Ows K F H (xs.map .d) vs [] := Ows.of_datas
theorem frzs_len : ∀ ts : List T, (T.frzs ts).length = ts.length
  | [] => rfl
  | t :: ts => by rw [T.frzs, List.length_cons, List.length_cons, frzs_len ts]
section
variable {X : Cx} {ct : Nat → Addr} {EX : XK} {a b c e tg : Expr} {es : List Expr} {ma mb m : EM} {ms : EMs} {pos p : Pos} {rest : List Expr}
theorem SE.fr (h : SE X ct EX e m) : SE X ct EX e (eFr m) := PE.imp h fun σ H Q ⟨F, env, M, rel, q⟩ => by
  refine tE.mono (runE rel (oks.bind (r := m env) (atE.oks q))) fun v H1 ⟨F1, t, env1, N, e1, r1, g1⟩ => ?_
  unfold eFr at q
  simp only [e1, Rs.bind] at q
  obtain ⟨A, B, rfl, o, r2, nd, dis, dF⟩ := r1.uncons
  have r3 := r2.letIn dis fun a ha => r1.there a (List.mem_append_left _ ha)
  have g3 := (g1.letIn r2.sub (A := A) fun a ha => List.mem_append_left _ ha).sub (N' := B) fun a ha => List.mem_append_right _ ha
  exact q _ H1 v _ (r3.cons (A := []) (.d (Ow.frz r2.sub o)) .nil (fun _ h => nomatch h) fun _ h => nomatch h) g3
theorem SEs.fr (h : SEs X ct EX es ms) : SEs X ct EX es (eFrs ms) := PA.imp h fun σ H Q ⟨F, env, M, rel, q⟩ => by
  refine tEs.mono (runEs rel (oks.bind (r := ms env) (atEs.oks q))) fun vs H1 ⟨F1, ts, env1, N, e1, r1, hl, g1⟩ => ?_
  unfold eFrs at q
  simp only [e1, Rs.bind] at q
  obtain ⟨A, B, rfl, o, r2, nd, dis, dF⟩ := r1.unconsS hl
  have r3 := r2.letIn dis fun a ha => r1.there a (List.mem_append_left _ ha)
  have g3 := (g1.letIn r2.sub (A := A) fun a ha => List.mem_append_left _ ha).sub (N' := B) fun a ha => List.mem_append_right _ ha
  exact q _ H1 vs _ (r3.consS (A := []) (Ows.ofDs (Ows.frz r2.sub o)) .nil (fun _ h => nomatch h) fun _ h => nomatch h) (by rw [List.length_map, frzs_len, hl]) g3
/-! ### what a loop walks, let in first -/
def iE (f : List T → Option (List PyData)) (ms : EMs) : Env → Rs (List PyData × Env) := fun env => (ms env).bind fun p => (Rs.of (f p.1)).bind fun xs => .ok (xs, p.2)
def allD : List T → Bool
  | [] => true
  | .d _ :: ts => allD ts
  | _ => false
def iOne (m : EM) : EMs := eCons m eNil
def itVal : List T → Option (List PyData)
  | [t] => itemsOf false t
  | _ => none
theorem iE_core {f : List T → Option (List PyData)} {σ : Sg} {H : Hp} {R : It → Hp → Prop} {Q : List V → Hp → Prop} (q : tIE X.K ct EX (iE f ms) σ H R)
    (h : ∀ F1 H1 ts xs vs, Same F1 H1 → Vws X.K F1 H1 ts vs → f ts = some xs → (∀ J, Wk X.K J xs F1 F1 → R J H1) → Q vs H1) : tEs X.K ct EX ms σ H Q := by
  obtain ⟨F, env, M, rel, q⟩ := q
  have hk : oks ct EX (ms env) H M := by
    unfold iE at q
    cases e : ms env with
    | ok z => trivial
    | ex c => rw [e] at q; exact q
    | no => rw [e] at q; exact q
  refine tEs.mono (runEs rel hk) fun vs H1 ⟨F1, ts, env1, N, e1, r1, hl, g1⟩ => ?_
  unfold iE at q
  simp only [e1, Rs.bind] at q
  obtain ⟨v1, B, r2, sB⟩ := r1.drops hl
  cases e2 : f ts with
  | none => rw [e2] at q; exact q.elim
  | some xs =>
    rw [e2] at q
    exact h F1 H1 ts xs vs r2.sub v1 e2 fun J k => q F1 H1 B J r2 (g1.sub sB) k
theorem sie_val (ha : SE X ct EX a m) : SIE X ct EX tg a (iE itVal (iOne (eFr m))) :=
  PI.imp (pi_val ha.fr) fun σ H R ⟨F, env, M, rel, q⟩ => by
    have hk : oks ct EX (eFr m env) H M := by
      unfold iE iOne eCons eNil at q
      cases e : eFr m env with
      | ok z => trivial
      | ex c => rw [e] at q; exact q
      | no => rw [e] at q; exact q
    refine tE.mono (runE rel hk) fun v H1 ⟨F1, t, env1, N, e1, r1, g1⟩ => ?_
    unfold iE iOne eCons eNil at q
    simp only [e1, Rs.bind] at q
    obtain ⟨A, B, rfl, o, r2, nd, dis, dF⟩ := r1.uncons
    cases e2 : itVal [t] with
    | none => rw [e2] at q; exact q.elim
    | some xs =>
      rw [e2] at q
      obtain ⟨k, vs, ev, hk, d⟩ := items_kn (w := false) o.vw r2.sub e2
      exact ⟨k, vs, ev, Kn.mono r2.sub.n hk, q F1 H1 B _ r2 (g1.sub fun a ha => List.mem_append_right _ ha) (wk_kn hk d)⟩
theorem sie_range1 (hg : Gl X "range") (hm : X.mg "range" = none) (ha : SEs X ct EX [a] ms) (hs : starEach [a] X.env = [(false, eval a X.env)] := by rfl) : SIE X ct EX tg (.Call (.Name "range" p) [a] [] pos) (iE rng1 ms) :=
  PI.imp (pi_range1 hg hm ha hs) fun σ H R q => iE_core q fun F1 H1 ts xs vs s v e q => by
    unfold rng1 at e
    split at e
    · rename_i j
      split at e
      · rename_i hj
        cases e
        obtain ⟨v1, e1, w1⟩ := Vws1 v
        have := Vw_int w1
        subst this e1
        obtain ⟨h1, h2⟩ := rngOk_iff hj
        exact ⟨j, rfl, h1, h2, q _ wk_rng⟩
      · cases e
    · cases e
theorem sie_enum {elts : List Expr} {kk : Nat} {tpos : Pos} (hg : Gl X "enumerate") (hm : X.mg "enumerate" = none) (ha : SEs X ct EX [e] ms) (hs : starEach [e] X.env = [(false, eval e X.env)] := by rfl) :
    SIE X ct EX (.Tuple elts kk tpos) (.Call (.Name "enumerate" p) [e] [] pos) (iE (itEnum false) (eFrs ms)) :=
  PI.imp (pi_enumK hg hm ha.fr hs) fun σ H R q => iE_core q fun F1 H1 ts xs vs s v e q => by
    unfold itEnum at e
    split at e
    · rename_i t
      cases e2 : itemsOf false t with
      | none => rw [e2] at e; cases e
      | some ys =>
        rw [e2] at e
        cases e
        obtain ⟨v1, e1, w1⟩ := Vws1 v
        obtain ⟨k, ws, ev, hk, d⟩ := items_kn (w := false) w1 s e2
        subst ev e1
        exact ⟨k, ws, rfl, Kn.mono s.n hk, q _ (wk_enum hk d)⟩
    · cases e
theorem sie_zip {e2 : Expr} {elts : List Expr} {kk : Nat} {tpos : Pos} (hg : Gl X "zip") (hm : X.mg "zip" = none) (ha : SEs X ct EX [e, e2] ms)
    (hs : starEach [e, e2] X.env = (false, eval e X.env) :: starEach [e2] X.env := by rfl) (hpl : (backTo pos (starEach [e2] X.env)).any (·.1) = false := by rfl) :
    SIE X ct EX (.Tuple elts kk tpos) (.Call (.Name "zip" p) [e, e2] [] pos) (iE (itZip false) (eFrs ms)) :=
  PI.imp (pi_zipK hg hm ha.fr hs hpl) fun σ H R q => iE_core q fun F1 H1 ts xs vs s v e q => by
    unfold itZip at e
    split at e
    · rename_i t u
      cases e2 : itemsOf false t with
      | none => rw [e2] at e; cases e
      | some ys =>
        rw [e2] at e
        simp only [Option.bind] at e
        cases e3 : itemsOf false u with
        | none => rw [e3] at e; cases e
        | some zs =>
          rw [e3] at e
          cases e
          obtain ⟨v1, v2, e1, w1, w2⟩ := Vws2 v
          obtain ⟨k, ws, ev, hk, d⟩ := items_kn (w := false) w1 s e2
          obtain ⟨k2, ws2, ev2, hk2, d2⟩ := items_kn (w := false) w2 s e3
          subst ev ev2 e1
          exact ⟨k, k2, ws, ws2, rfl, Kn.mono s.n hk, Kn.mono s.n hk2, q _ (wk_zip hk d hk2 d2)⟩
    · cases e
/-! ### tests that write -/
theorem ste_not {tc : Env → Rs (Bool × Env)} (ha : STE X ct EX a tc) : STE X ct EX (.UnaryOp .Not a pos) (eNotT tc) := PT.imp (pt_not ha) fun σ H Q ⟨F, env, M, rel, q⟩ => by
  refine ⟨F, env, M, rel, ?_⟩
  unfold eNotT at q
  cases e : tc env with
  | ok k => rw [e] at q; exact q
  | ex c => rw [e] at q; exact q
  | no => rw [e] at q; exact q
def SWE (X : Cx) (ct : Nat → Addr) (EX : XK) (e : Expr) (m : Env → Rs (Bool × Env)) : Prop := PW X e (tTE X.K ct EX m)
theorem SWE.t {tc : Env → Rs (Bool × Env)} (h : SWE X ct EX e tc) : STE X ct EX e tc := PW.pt h
theorem swe_and1 {tc : Env → Rs (Bool × Env)} (ha : STE X ct EX a tc) : SWE X ct EX (.BoolOp .And [a] pos) tc := pw_and1 ha
theorem swe_or1 {tc : Env → Rs (Bool × Env)} (ha : STE X ct EX a tc) : SWE X ct EX (.BoolOp .Or [a] pos) tc := pw_or1 ha
def eAndT (p q : Env → Rs (Bool × Env)) : Env → Rs (Bool × Env) := fun env => (p env).bind fun k => if k.1 then q k.2 else .ok (false, k.2)
def eOrT (p q : Env → Rs (Bool × Env)) : Env → Rs (Bool × Env) := fun env => (p env).bind fun k => if k.1 then .ok (true, k.2) else q k.2
theorem atTE.go {K : PySem.W.Frag} {F H F1 H1 : Hp} {σ : Sg} {M N : List Addr} {r : Rs (Bool × Env)} {Q : Bool → Hp → Prop} (h : atTE K ct EX r F H σ M Q) (g : Go F H M F1 H1 N) : atTE K ct EX r F1 H1 σ N Q := by
  cases r with
  | ok t => exact fun F2 H2 N2 y g2 => h F2 H2 N2 y (g.trans g2)
  | ex c => exact exq.go h g
  | no => exact h
theorem swe_and {tc td : Env → Rs (Bool × Env)} (ha : STE X ct EX a tc) (hb : SWE X ct EX (.BoolOp .And (b :: rest) pos) td) : SWE X ct EX (.BoolOp .And (a :: b :: rest) pos) (eAndT tc td) :=
  PW.imp (pw_and ha hb) fun σ H Q ⟨F, env, M, rel, q⟩ => by
    refine tTE.mono (runTE rel (oks.bind (r := tc env) (atTE.oks q))) fun k H1 ⟨F1, env1, N, e1, r1, g1⟩ => ?_
    unfold eAndT at q
    simp only [e1, Rs.bind] at q
    cases k with
    | false => rw [if_neg Bool.false_ne_true] at q ⊢; exact q F1 H1 N r1 g1
    | true => rw [if_pos rfl] at q ⊢; exact ⟨F1, env1, N, r1, q.go g1⟩
theorem swe_or {tc td : Env → Rs (Bool × Env)} (ha : STE X ct EX a tc) (hb : SWE X ct EX (.BoolOp .Or (b :: rest) pos) td) : SWE X ct EX (.BoolOp .Or (a :: b :: rest) pos) (eOrT tc td) :=
  PW.imp (pw_or ha hb) fun σ H Q ⟨F, env, M, rel, q⟩ => by
    refine tTE.mono (runTE rel (oks.bind (r := tc env) (atTE.oks q))) fun k H1 ⟨F1, env1, N, e1, r1, g1⟩ => ?_
    unfold eOrT at q
    simp only [e1, Rs.bind] at q
    cases k with
    | true => rw [if_pos rfl] at q ⊢; exact q F1 H1 N r1 g1
    | false => rw [if_neg Bool.false_ne_true] at q ⊢; exact ⟨F1, env1, N, r1, q.go g1⟩
/-! ### methods, what is handed over written first -/
variable {o : Expr} {pa : PM} {name : Str} {T0 id : String} {apos cpos : Pos}
def eMeth (c : T → Bool) (f : T → List T → Option T) (pa : PM) (ms : EMs) : EM := fun env => (pa env).bind fun t => match t with
  | .d x => if c (.d x) then (ms env).bind fun p => (Rs.of (f (.d x) p.1)).bind fun r => .ok (r, p.2) else .no
  | .l _ => .no
theorem se_meth {c : T → Bool} {f : T → List T → Option T} (ht : TyOk X T0 (tyT X.K c)) (pl : PlainAttrs T0) (slot : Slot T0 name id) (hty : typeOf (.builtin id) = pure (.type "method_descriptor")) (hm : MtR X id (rM X.K c f)) (ho : SV X ct EX o pa) (ha : SEs X ct EX (e :: es) ms)
    (hbase : attributeBase o name X.env (eval o X.env) = eval o X.env := by rfl)
    (hfew : ((backTo cpos (starEach (e :: es) X.env)).all (fun x => !x.1) && (backToKw cpos (keywordEach [] X.env)).all (fun x => x.1.isSome)
      && decide ((e :: es).length + ([] : List Keyword).length + (if ([] : List Keyword).isEmpty then 0 else 1) < 30)) = true := by rfl)
    (hline : (apos.endLine == cpos.line) = true := by rfl) (hs : starEach (e :: es) X.env = (false, eval e X.env) :: starEach es X.env := by rfl) (hplain : (backTo cpos (starEach es X.env)).any (·.1) = false := by rfl) :
    SE X ct EX (.Call (.Attribute o name apos) (e :: es) [] cpos) (eMeth c f pa ms) :=
  PE.imp (pe_mG ht pl slot hty hm ho ha hbase hfew hline hs hplain) fun σ H Q ⟨F, env, M, rel, q⟩ => by
    refine tV.mono (runV rel (oks.bind (r := pa env) (atE.oks q))) fun x H1 ⟨F1, t, e1, x1, v1⟩ => ?_
    unfold eMeth at q
    simp only [e1, Rs.bind] at q
    cases t with
    | l _ => exact q.elim
    | d d =>
      simp only at q
      cases ec : c (.d d) with
      | false => rw [ec] at q; exact q.elim
      | true =>
        rw [ec, if_pos rfl] at q
        refine ⟨⟨F1, _, x1.s, v1, ec⟩, ?_⟩
        have q := q.go (x1.go (M := M))
        refine tEs.mono (runEs (rel.ext x1) (oks.bind (r := ms env) (atE.oks q))) fun xs H2 ⟨F2, ts, env2, N, e2, r2, hl, g2⟩ => ?_
        simp only [e2] at q
        obtain ⟨w2, B, r3, sB⟩ := r2.drops hl
        cases e3 : f (.d d) ts with
        | none => rw [e3] at q; exact q.elim
        | some r =>
          rw [e3] at q
          exact ⟨F2, .d d, ts, r, r3.sub, by cases v1 with | d v1 => exact .d (Dp.mono g2.f v1), w2, ec, e3, fin_out r3 (g2.sub sB) q⟩
end
end Mi

set_option maxHeartbeats 200000
namespace Mi
open PySem PySem.Spec PyProof.Rows L2
variable [Tb]

/-! ### what a walk takes by name -/
structure Cal (P : Program) (w : World) (K : PySem.W.Frag) (mg : Str → Option Value) (base : Heap) (ct : Nat → Addr) (x : Str) (k n : Nat) (f : FM) : Prop where
  ex : ∃ (fa : Addr) (fd : FuncData) (psn : List Str), Fg P w K mg base k fa fd psn (spM K ct n f) ∧ mg x = some (.ref fa) ∧ PySem.W.keepIn K (.ref fa) = true ∧ Binds K fd psn []
/-- a module's constant -/
def GK (K : PySem.W.Frag) (mg : Str → Option Value) (x : Str) (d : PyData) : Prop := ∃ u v, mg x = some u ∧ RelV v u ∧ ∀ F, Dp K F v d
/-- an error of the module -/
def EK (K : PySem.W.Frag) (mg : Str → Option Value) (ct : Nat → Addr) (x : Str) (c : Nat) : Prop := ∃ (bmB : List Value) (B newId initId : String), ExcBaseFacts B newId initId bmB ∧ PySem.W.excIn K (ct c) bmB newId = true ∧ mg x = some (.ref (ct c)) ∧ PySem.W.keepIn K (.ref (ct c)) = true ∧
  PySem.W.subIn K (.ref (ct c)) (.type "BaseException") = some true ∧ PySem.W.typeIn K (.ref (ct c)) = some (.type "type")
section
variable {X : Cx} {ct : Nat → Addr} {EX : XK} {pn : List Nat} {e : Expr} {es : List Expr} {x : Str} {p pos cpos : Pos} {j k n : Nat} {f : FM} {ls : List (Option Nat)} {ms : EMs} {ps : PMs}
theorem se_callC (C : Cal X.prog X.w X.K X.mg X.base ct x j n f) (hr : Room k X.A) (hgd : X.A.guards = some []) (hx : Passes (L2.CX X.prog X.w) X EX) (ha : SLs X ct EX (e :: es) ls ms) (hj : j ≤ k := by decide) (hnl : ls.length = n := by rfl) (hg : Gl X x := by rfl) (hdb : (x == ("__debug__" : Str)) = false := by decide)
    (he : starEach (e :: es) X.env = (false, eval e X.env) :: starEach es X.env := by rfl) (hpl : (backTo pos (starEach es X.env)).any (·.1) = false := by rfl) : SE X ct EX (.Call (.Name x p) (e :: es) [] pos) (eCall f ls ms) := by
  obtain ⟨fa, fd, psn, F, hm, hk, hb⟩ := C.ex
  exact se_call (F.mono hj) hr hgd hg hm hk hb hx ha hnl hdb he hpl
theorem sp_callC (C : Cal X.prog X.w X.K X.mg X.base ct x j n f) (hr : Room k X.A) (hgd : X.A.guards = some []) (hx : Passes (L2.CX X.prog X.w) X EX) (ha : SPs X ct EX (e :: es) ps) (hj : j ≤ k := by decide) (hn : PmLen ps n := by repeat constructor) (hg : Gl X x := by rfl) (hdb : (x == ("__debug__" : Str)) = false := by decide)
    (he : starEach (e :: es) X.env = (false, eval e X.env) :: starEach es X.env := by rfl) (hpl : (backTo pos (starEach es X.env)).any (·.1) = false := by rfl) : SP X ct EX (.Call (.Name x p) (e :: es) [] pos) (mCall f ps) := by
  obtain ⟨fa, fd, psn, F, hm, hk, hb⟩ := C.ex
  exact sp_call (F.mono hj) hr hgd hg hm hk hb hx ha hn hdb he hpl
theorem sp_gk {d : PyData} (h : GK X.K X.mg x d) (hg : Gl X x := by rfl) (hd : (x == ("__debug__" : Str)) = false := by decide) : SP X ct EX (.Name x p) (mK d) := by
  obtain ⟨u, v, hm, r, hy⟩ := h
  exact sp_glob hg hm r hy hd
theorem ss_raiseC (c : Nat) (h : EK X.K X.mg ct x c) (hc : X.calm = true) (tk : Takes X fun cls d _ H => EX cls d H) (hg : Gl X x := by rfl) (hdb : (x == ("__debug__" : Str)) = false := by decide) : SS X ct EX pn (.Raise (some (.Call (.Name x p) [] [] cpos)) none pos) (sRaise c) := by
  obtain ⟨bmB, B, newId, initId, F, q, gC, kC, h1, h2⟩ := h
  exact ss_raise c hc tk F q gC kC (raises_own h1 h2) hg hdb
end
theorem spM_len {K : PySem.W.Frag} {ct : Nat → Addr} {n : Nat} {f : FM} : ∀ vs H Q E, spM K ct n f vs H Q E → vs.length = n := fun vs H Q E ⟨_, _, _, h, _⟩ => h
end Mi

set_option maxHeartbeats 200000
namespace Mi
open PySem PySem.Spec PyProof.Rows L2
variable [Tb]

/-! ### xs[::-1], xs[-2::-1] -/
theorem fmc {α β : Type} {f g : α → Option β} : ∀ {l : List α}, (∀ m ∈ l, f m = g m) → l.filterMap f = l.filterMap g
  | [], _ => rfl
  | a :: l, h => by
    have e := fmc (l := l) fun m hm => h m (List.mem_cons_of_mem _ hm)
    rw [List.filterMap_cons, List.filterMap_cons, h a List.mem_cons_self, e]
theorem pick_rev {α : Type} (xs : Array α) (k : Nat) (hk : k ≤ xs.size) : ((List.range k).map fun m => k - 1 - m).filterMap (xs[·]?) = (xs.toList.take k).reverse := by
  rw [PySem.W.krv_range, List.filterMap_reverse]
  congr 1
  have h := pick_run xs 0 k
  have e : (List.range k).map (0 + ·) = List.range k := by
    rw [show ((0 + ·) : Nat → Nat) = id from funext fun k => Nat.zero_add k, List.map_id]
  rw [e, List.drop_zero] at h
  exact h
theorem bounds2 (n : Nat) : sliceBounds (some (-2)) none (some (-1)) n = (((n - 1 : Nat) : Int) - 1, -1, -1) := by
  simp only [sliceBounds, Option.getD_some]
  have : ¬ ((-1 : Int) > 0) := by decide
  simp only [this, if_false]
  refine Prod.ext ?_ rfl
  simp only [show (-2 : Int) < 0 by decide, if_true]
  omega
theorem pick2 (items : Array Value) : slicePick items (some (-2)) none (some (-1)) = (items.toList.take (items.size - 1)).reverse.toArray := by
  unfold slicePick
  rw [bounds2]
  show ((sliceRange (((items.size - 1 : Nat) : Int) - 1) (-1) (-1)).filterMap (items[·]?)).toArray = _
  rw [PySem.W.krv_sliceRange, pick_rev _ _ (Nat.sub_le _ _)]
section
variable {prog : Program} {w : World} {A : Around} {E : Value → Shared → Prop} {s : Shared}
theorem sliceApplied_rev {sl : Addr} {vs : Value} {n : Nat} {Q : Int × Int × Nat → Shared → Prop} (hs : s.heap.IsSliceOf sl .none .none vs) (ps : IsPart vs (some (-1)))
    (h : Q ((n : Int) - 1, -1, n) s) : wpAny (model prog w) A (Builtin.Slice.sliceApplied (.ref sl) (pure (n : Int))) Q E s := by
  obtain ⟨os, hos, hcs, hds⟩ := id hs
  unfold Builtin.Slice.sliceApplied Builtin.Slice.sliceFields
  refine wpAny_bind (wpAny_bind (wpAny_field hos hds (x := .none) rfl (wpAny_bind (wpAny_field hos hds (x := .none) rfl (wpAny_bind (wpAny_field hos hds (x := vs) rfl (wpAny_pure ?_)))))))
  refine wpAny_bind (HT.slicePart_ ps ?_)
  show wpAny _ _ (if ((-1 : Int) == 0) = true then _ else _) _ _ s
  rw [if_neg (by decide)]
  refine wpAny_bind (HT.slicePart_ .none (wpAny_bind (HT.slicePart_ .none (wpAny_bind (wpAny_pure ?_)))))
  have e1 : Builtin.Slice.sliceAdjust none none (-1) (n : Int) = ((n : Int) - 1, -1) := by
    unfold Builtin.Slice.sliceAdjust
    simp
  show wpAny _ _ (match Builtin.Slice.sliceAdjust none none (-1) (n : Int) with | (lo, hi) => pure (lo, (-1 : Int), Builtin.Slice.slicePlaces lo hi (-1))) _ _ s
  rw [e1]
  have e2 : Builtin.Slice.slicePlaces ((n : Int) - 1) (-1) (-1) = n := by
    unfold Builtin.Slice.slicePlaces
    have h1 : ¬ ((-1 : Int) > 0) := by decide
    simp only [h1, if_false]
    split
    · rw [show (- -1 : Int) = 1 by decide, Int.ediv_one]; omega
    · omega
  show wpAny _ _ (pure ((n : Int) - 1, (-1 : Int), Builtin.Slice.slicePlaces ((n : Int) - 1) (-1) (-1))) _ _ s
  rw [e2]
  exact wpAny_pure h
theorem getItem_tuple_rev {t sl : Addr} {items : Array Value} {vs : Value} {Q : Value → Shared → Prop} (ht : IsTup s.heap t items) (hs : s.heap.IsSliceOf sl .none .none vs) (ps : IsPart vs (some (-1)))
    (h : Q (.ref s.heap.objs.size) { s with heap := s.heap.push { cls := .type "tuple", data := .seq items.toList.reverse.toArray } }) (hsz : items.size ≤ sizeLine) : wpAny (model prog w) A (getItem (.ref t) (.ref sl)) Q E s := by
  have htake : sizeOk (.seq items.toList.reverse.toArray) := by
    show items.toList.reverse.toArray.size ≤ sizeLine
    rw [List.size_toArray, List.length_reverse, Array.length_toList]; exact hsz
  obtain ⟨os, hos, hcs, hds⟩ := id hs
  have hTs : s.TypeIs (.ref sl) "slice" := ⟨os, hos, hcs⟩
  unfold getItem
  try with_reducible refine wpAny_holding ?_
  first | refine wpAny_bind (wpAny_pure ?_) | skip
  refine wpAny_bind (wpAny_sequenceKey ht.typeIs (by decide) ?_)
  refine wpAny_bind (wpAny_callSpecial?_slot (name := Str.ofString "__getitem__") ht.typeIs PyProof.Rows.slot_tuple_getitem
    (wpAny_call_entry PyProof.Rows.slot_tuple_getitem ht.typeIs entry_tuple_getitem ?_ (args_tuple_getitem _ _)))
  show wpAny _ _ (Builtin.Tuple.tupleItemsOf (.ref t) >>= _) _ _ s
  refine wpAny_bind (tupleItemsOf_ ht ?_)
  refine wpAny_bind (wpAny_typeOf hTs ?_)
  rw [if_pos (by decide)]
  refine wpAny_bind (sliceApplied_rev hs ps ?_)
  have hno : ¬ (((items.size : Int) - 1 == 0 && (-1 : Int) == 1 && items.size == items.size) = true) := by
    intro q
    rw [Bool.and_eq_true, Bool.and_eq_true] at q
    exact absurd (eq_of_beq q.1.2) (by decide)
  show wpAny _ _ (if ((items.size : Int) - 1 == 0 && (-1 : Int) == 1 && items.size == items.size) = true then _ else _) _ _ s
  have ep : ((List.range items.size).filterMap fun (m : Nat) => items[((items.size : Int) - 1 + (m : Int) * (-1)).toNat]?).toArray = items.toList.reverse.toArray := by
    have h2 := pick_rev items items.size (Nat.le_refl _)
    rw [List.filterMap_map, List.take_of_length_le (by rw [Array.length_toList]; exact Nat.le_refl _)] at h2
    rw [← h2]
    congr 1
    refine fmc fun m hm => ?_
    have := List.mem_range.mp hm
    show items[_]? = items[items.size - 1 - m]?
    congr 1
    omega
  rw [if_neg hno, ep]
  first
    | exact wpAny_bind (m := Builtin.Tuple.tupleExact _) (wpAny_newObj_type (wpAny_pure ⟨_, rfl, wpAny_pure h⟩) htake)
    | exact wpAny_bind (m := Builtin.Tuple.tupleExact _) (wpAny_newObj_type (wpAny_bind (wpAny_pure (wpAny_pure ⟨_, rfl, wpAny_pure h⟩))) htake)
end
def sRev (lo : Option Int) (t : T) : Option T := match lo, t with
  | none, .d (.tuple xs) => some (.d (.tuple xs.reverse))
  | none, .d (.list xs) => some (.l (xs.reverse.map .d))
  | none, .l ts => (T.datas ts).map fun xs => .l (xs.reverse.map .d)
  | some (-2), .d (.list xs) => some (.l ((xs.take (xs.length - 1)).reverse.map .d))
  | some (-2), .l ts => (T.datas ts).map fun xs => .l ((xs.take (xs.length - 1)).reverse.map .d)
  | _, _ => none
theorem dpRev {K : PySem.W.Frag} {F : Hp} : ∀ {xs : List PyData} {vs : List V}, DpAll K F vs xs → DpAll K F vs.reverse xs.reverse
  | _, _, .nil => .nil
  | _, _, .cons h hs => by
    rw [List.reverse_cons, List.reverse_cons]
    exact (dpRev hs).append (.cons h .nil)
section
variable {X : Cx} {ct : Nat → Addr} {EX : XK} {a st : Expr} {lo : Option Expr} {pa ps : PM} {pl : Option PM} {pos p2 : Pos}
def SlRv (X : Cx) (r : V → Option Int → Hp → VK → Prop) : Prop :=
  ∀ (pins : List (Addr × Obj)) (s : Shared) (σ : Sg) (H : Hp) (x : V) (v vl vs : Value) (lo : Option Int) (sl : Addr) (Q : VK), L2.Inv X pins σ H s → RelV x v → s.heap.IsSliceOf sl vl .none vs → IsPart vl lo → IsPart vs (some (-1)) → r x lo H Q →
    ∃ T id, typeLookup (.type T) "__getitem__" = pure (some (.builtin id)) ∧ s.TypeIs v T ∧ wpAny (model X.prog X.w) X.A (getItem v (.ref sl)) (EP X pins σ Q) X.xe s
def rRv (K : PySem.W.Frag) : V → Option Int → Hp → VK → Prop := fun x lo H Q => ∃ F t r, Same F H ∧ Vw K F H t x ∧ sRev lo t = some r ∧ out K F H r Q
theorem rv_list {pins : List (Addr × Obj)} {s : Shared} {σ : Sg} {F H : Hp} {p sl : Addr} {vl vs : Value} {lo : Option Int} {ws : List V} {xs : List PyData} {n : Nat} {Q : VK} (I : L2.Inv X pins σ H s) (hs : s.heap.IsSliceOf sl vl .none vs) (pl : IsPart vl lo) (pst : IsPart vs (some (-1))) (sub : Same F H) (hq : SqL X.K H p ws) (hd : DpAll X.K F ws xs)
    (hn : n ≤ xs.length) (hp : ∀ its : Array Value, its.size = xs.length → slicePick its lo none (some (-1)) = (its.toList.take n).reverse.toArray) (o : out X.K F H (.l ((xs.take n).reverse.map .d)) Q) :
    ∃ T id, typeLookup (.type T) "__getitem__" = pure (some (.builtin id)) ∧ s.TypeIs (.ref p) T ∧ wpAny (model X.prog X.w) X.A (getItem (.ref p) (.ref sl)) (EP X pins σ Q) X.xe s := by
  obtain ⟨its, r, ht, hz⟩ := I.list hq
  have hl := r.length
  have hdl := hd.length
  refine ⟨"list", _, slot_list_getitem.lookup, ht.isList.typeIs, ?_⟩
  refine wpAny_getItem_list_slice ht.isList hs pl .none pst (by decide) ?_ (by rw [List.size_toArray] <;> omega)
  rw [hp _ (by rw [List.size_toArray]; omega)]
  have r2 : Vals (ws.take n).reverse (its.take n).reverse := (r.take n).reverse
  refine ⟨.ref s.heap.objs.size, _, I.laid (t' := s.toks) (o := .lst (ws.take n).reverse) (fun b ob q => Heap.get?_push_of_some _ q) (Nat.le_refl _) ?_, rfl, o.lst sub (I.hok.fresh (Nat.le_refl _)) (dpRev (hd.take n))⟩
  exact ⟨by rw [List.length_reverse, List.length_take]; omega, _, 0, r2, Heap.get?_push_size _ rfl⟩
theorem slrv : SlRv X (rRv X.K) := by
  intro pins s σ H x v vl vs lo sl Q I rx hs pl pst ⟨F, t, r, sub, vw, e, o⟩
  unfold sRev at e
  split at e
  · rename_i xs
    cases e
    obtain ⟨p, ws, rfl, g1, g2⟩ := Vw_tup vw
    cases rx
    cases pl
    obtain ⟨its, rv, ht, hz⟩ := I.tuple (SqT.mono sub g1)
    have hl := rv.length
    refine ⟨"tuple", _, PyProof.Rows.slot_tuple_getitem.lookup, ht.typeIs, getItem_tuple_rev ht hs pst ?_ (by rw [List.size_toArray]; omega)⟩
    have r2 : Vals ws.reverse its.reverse := rv.reverse
    refine ⟨.ref s.heap.objs.size, _, I.laid (t' := s.toks) (o := .tup ws.reverse) (fun b ob q => Heap.get?_push_of_some _ q) (Nat.le_refl _) ?_, rfl, o.tup sub (I.hok.fresh (Nat.le_refl _)) (dpRev g2)⟩
    exact ⟨by rw [List.length_reverse]; exact hz, _, r2, IsTup.new _ _⟩
  · rename_i xs
    cases e
    obtain ⟨p, ws, rfl, g1, g2⟩ := Vw_flist vw
    cases rx
    cases pl
    exact rv_list (n := xs.length) I hs .none pst sub (SqL.mono sub g1) g2 (Nat.le_refl _) (fun its h => by rw [PySem.W.krv_pick, List.take_of_length_le (by rw [Array.length_toList, h]; exact Nat.le_refl _)]) (by rw [List.take_length]; exact o)
  · rename_i ts
    cases ed : T.datas ts with
    | none => rw [ed] at e; cases e
    | some xs =>
      rw [ed] at e; cases e
      cases T.datas_eq ed
      obtain ⟨p, ws, rfl, g1, g2⟩ := Vw_list vw
      cases rx
      cases pl
      exact rv_list (n := xs.length) I hs .none pst sub (SqL.of g1) (Vws.datas g2) (Nat.le_refl _) (fun its h => by rw [PySem.W.krv_pick, List.take_of_length_le (by rw [Array.length_toList, h]; exact Nat.le_refl _)]) (by rw [List.take_length]; exact o)
  · rename_i xs
    cases e
    obtain ⟨p, ws, rfl, g1, g2⟩ := Vw_flist vw
    cases rx
    exact rv_list (n := xs.length - 1) I hs pl pst sub (SqL.mono sub g1) g2 (Nat.sub_le _ _) (fun its h => by rw [pick2, h]) o
  · rename_i ts
    cases ed : T.datas ts with
    | none => rw [ed] at e; cases e
    | some xs =>
      rw [ed] at e; cases e
      cases T.datas_eq ed
      obtain ⟨p, ws, rfl, g1, g2⟩ := Vw_list vw
      cases rx
      exact rv_list (n := xs.length - 1) I hs pl pst sub (SqL.of g1) (Vws.datas g2) (Nat.sub_le _ _) (fun its h => by rw [pick2, h]) o
  · cases e
theorem pe_sliceRv {r : V → Option Int → Hp → VK → Prop} {te ts : TE} {tl : TO} (hr : SlRv X r) (he : PE X a te) (hl : PO X lo tl) (hst : PE X st ts) :
    PE X (.Subscript a (.Slice lo none (some st) p2) pos) (fun σ H Q => te σ H fun x H1 => tl σ H1 fun l H2 => ts σ H2 fun y H3 => y = .int (-1) ∧ r x l H3 Q) := by
  refine ⟨fun pins s σ H Q I h => ?_⟩
  refine Subscript_ (thn (he.run pins s σ H _ I h) fun v s1 ⟨x, H1, I1, r1, q1⟩ => ?_)
  refine wpAny_Slice (thn (hl.run pins s1 σ H1 _ I1 q1) fun vl s2 ⟨l, H2, I2, pl, q2⟩ => ?_)
  rw [evalPart_none]
  refine wpAny_pure ?_
  rw [evalPart_some]
  refine thn (hst.run pins s2 σ H2 _ I2 q2) fun vs s3 ⟨y, H3, I3, r3, ey, q3⟩ => ?_
  subst ey
  obtain ⟨tk, rfl⟩ := r3
  have I4 : L2.Inv X pins σ H3 { s3 with heap := s3.heap.push { cls := .type "slice", data := .fields #[vl, .none, .int (-1) tk] } } := I3.kept (t' := s3.toks) fun b ob q => Heap.get?_push_of_some _ q
  obtain ⟨T, id, hT, ht, hg⟩ := hr pins { s3 with heap := s3.heap.push { cls := .type "slice", data := .fields #[vl, .none, .int (-1) tk] } } σ H3 x v vl (.int (-1) tk) l s3.heap.objs.size Q I4 r1 (Heap.IsSliceOf.new ..) pl (.int _ _) q3
  show wpAny (model X.prog X.w) X.A (subscriptTail a (.Slice lo none (some st) p2) v (.ref s3.heap.objs.size)) (EP X pins σ Q) X.xe { s3 with heap := s3.heap.push { cls := .type "slice", data := .fields #[vl, .none, .int (-1) tk] } }
  exact tail_any (ops := [v, .ref s3.heap.objs.size]) ht hT hg (by with_unfolding_all rfl)
def mSliceR (p : PM) (lo : Option PM) (st : PM) : PM := fun env => (p env).bind fun t => (mPart lo env).bind fun a => (st env).bind fun u => (tInt u).bind fun k => if k = -1 then Rs.of (sRev a t) else .no
theorem sp_sliceR (ha : SV X ct EX a pa) (hl : SO X ct EX lo pl) (hs : SV X ct EX st ps) : SP X ct EX (.Subscript a (.Slice lo none (some st) p2) pos) (mSliceR pa pl ps) :=
  PE.imp (pe_sliceRv slrv ha hl hs) fun σ H Q ⟨F, env, M, rel, q⟩ => by
    refine tV.mono (bindV (g := fun t => (mPart pl env).bind fun a => (ps env).bind fun u => (tInt u).bind fun k => if k = -1 then Rs.of (sRev a t) else .no) rel q) fun x H1 ⟨F1, t, x1, v1, _, h1⟩ =>
      tO.mono (tOP (g := fun a => (ps env).bind fun u => (tInt u).bind fun k => if k = -1 then Rs.of (sRev a t) else .no) (rel.ext x1) h1) fun o H2 ⟨F2, x2, h2⟩ =>
        tV.mono (bindV (g := fun u => (tInt u).bind fun k => if k = -1 then Rs.of (sRev o t) else .no) ((rel.ext x1).ext x2) h2) fun y H3 ⟨F3, u, x3, v3, _, h3⟩ => ?_
    rcases tInt_no (t := u) with ⟨k, e2⟩ | e2
    · rw [e2] at h3
      cases tInt_inv v3 e2
      simp only [Rs.bind] at h3
      split at h3
      · rename_i hk
        subst hk
        cases e : sRev o t with
        | none => rw [e] at h3; exact h3.elim
        | some r => rw [e] at h3; exact ⟨rfl, F3, t, r, x3.s, (v1.mono x2.f x2.h).mono x3.f x3.h, e, h3⟩
      · exact h3.elim
    · rw [e2] at h3; exact h3.elim
end
end Mi

set_option maxHeartbeats 200000
namespace Mi
open PySem PySem.Spec PyProof.Rows L2 LamX
variable [Tb]

/-! ### x(lambda: body): the layer's rule, the guards told beside -/
section
variable {X : Cx} {pins : List (Addr × Obj)} {σ : L2.St} {H : Hp} {s : Shared}
theorem pe_actG {CXg : CXT} {Eg : XK} {Ng : List Str} {qg : Str} {sg : Scope} {g f c' : Addr} {cdg pm ctv : Value} {params : Arguments} {body : Expr} {scope : Scope} {k i : Nat} {a : Str} {pn : List (Addr × Obj)} {xe : Value → Shared → Prop} {W : WX} {E : XK} {tb : TE} {p1 p2 : Pos}
    (I : L2.Inv X pins σ H s) (L : LamS X.env.scope scope) (hf : s.heap.get? f = some (PySem.W.kla_obj "<lambda>" (X.env.qual ++ "<lambda>") params body scope (cloFrom X.env.cells scope.names []) pm c' ctv)) (hfn : H f = none) (hfr : f ∉ frs X.stack)
    (hbind : bindArgs (PySem.W.kla_fn "<lambda>" (X.env.qual ++ "<lambda>") params body scope (cloFrom X.env.cells scope.names []) pm (.ref c') ctv) ⟨[], []⟩ = pure [])
    (tk : Takes ((cxOf CXg X.prog X.w X.K X.mg X.base Ng qg sg g cdg X.A X.stack s H Eg).tr pn xe) W) (hW : ∀ cls d σ' H', E cls d H' → W cls d σ' H') (hr : Room (k + 1) (X.A.deeper (envOfC qg sg s.heap.objs.size g cdg))) (hgd : X.A.guards = some [])
    (hbody : ∀ (A : Around) (outer : List PySem.Env) (s : Shared) (H : Hp), Room k (A.deeper (lamEnv X scope s.heap.objs.size f c')) → A.guards = some [] → PE (lamCx X A outer s H E scope f c') body tb)
    (hN : Ng[i]? = some a) (hv : Vis sg a) (hd : (a == ("__debug__" : Str)) = false := by decide) (hcd : (a == ("__classdict__" : Str)) = false := by decide) :
    PE ((cxOf CXg X.prog X.w X.K X.mg X.base Ng qg sg g cdg X.A X.stack s H Eg).tr pn xe) (.Call (.Name a p1) [] [] p2)
      (fun σZ HZ Q => σZ[i]? = some (some (.ref f)) ∧ HZ c' = some (CodeO c' (X.env.qual ++ "<lambda>")) ∧ tb σ HZ Q) := by
  refine ⟨fun pinsZ sZ σZ HZ Q IZ h => ?_⟩
  obtain ⟨hs, hc, ht⟩ := h
  refine wpAny_Call_Name_kw (thn ((pe_var (pos := p1) (i := i) hN hv hd hcd).run pinsZ sZ σZ HZ (fun v H1 => v = .ref f ∧ H1 = HZ) IZ ⟨.ref f, hs, rfl, rfl⟩) fun u s1 ⟨v, H1, I1, r1, ev, eH⟩ => ?_)
  subst ev
  rw [eH] at I1
  obtain rfl : u = Value.ref f := r1
  have of1 := I1.base.keep f _ hf hfn hfr (fun z => nomatch (show f ∈ ([] : List Addr) from z))
  refine PySem.W.callWith_F0 ⟨_, _, _, _, of1⟩ ?_
  have un : Un (frs X.stack) [] H HZ s.heap s1.heap := I1.base
  obtain ⟨⟨oc, vs, t, hoc, hdc, hvc⟩, _, _⟩ := I1.hok c' _ hc
  have rc : codeAny (model X.prog X.w) (X.A.deeper (envOfC qg sg s.heap.objs.size g cdg)) (.call (.ref f) ⟨[], []⟩) (CR (L2.CX X.prog X.w) (envOfC qg sg s.heap.objs.size g cdg :: X.stack) X.prog X.w HZ s1 Q E) s1 := by
    refine PySem.W.kla_callFunE hr.depth of1 rfl L.co L.gen rfl ⟨c', oc, vs, t, rfl, hoc, hdc, hvc⟩ ?_
    rw [hbind]
    refine wpAny_pure (wpAny_newFunctionEnv (fun y hy => (L.own y hy).2) (fun y hy => absurd hy (by simp)) (fun h₁ hns hsb => ⟨I1.nolimit.fresh _ hsb, ?_⟩) L.kind)
    show codeAny _ _ (.expr body (lamEnv X scope s1.heap.objs.size f c')) _ _
    have kp : ∀ b o, s1.heap.get? b = some o → h₁.get? b = some o := fun b o e => hsb.extBut b o (Nat.ne_of_lt (Heap.lt_size e)) (Heap.get?_push_of_some _ e)
    have J := lam_start2 (f := f) (A := X.A.deeper (envOfC qg sg s.heap.objs.size g cdg)) (outer := envOfC qg sg s.heap.objs.size g cdg :: X.stack) (E := E) (c' := c') (tk := s1.toks + ([] : List (Str × Value)).length) I L I1.env0 hr.hd un hns kp
    refine PySem.W.kla_codeExpr (wpAny_mono ((hbody _ _ s1 HZ (hr.deeper _) hgd).run [] _ _ HZ Q J ht) (fun v s' hq => ?_) fun e s' hq => hq)
    obtain ⟨w', H', J', rv, q⟩ := hq
    exact ⟨w', H', J'.os, J'.bare, J'.base, J'.hok, rv, q⟩
  have hx : Passes (L2.CX X.prog X.w) ((cxOf CXg X.prog X.w X.K X.mg X.base Ng qg sg g cdg X.A X.stack s H Eg).tr pn xe) E := passes_call tk hW
  refine wpAny_call (codeAny_mono rc fun r s' hq => ?_)
  rcases r with e | fl
  · exact hx pinsZ σZ HZ s1 e s' I1 hq
  · cases fl with
    | ret u => exact I1.after hq
    | _ => exact False.elim hq
end
/-- what the def that calls it makes of the lambda's reading -/
def GivesG (X : Cx) (Ng : List Str) (x : Str) (sg : Scope) (g : Addr) (cdg : Value) (bg : List Stmt) (a : Str) (q : Str) (TT : (XK → Hp → VK → Prop) → Hp → VK → Prop) : Prop :=
  ∀ (f c' : Addr) (s : Shared) (H : Hp) (Q : VK) (tl : XK → Hp → VK → Prop), Room 0 (X.A.deeper (envOfC x sg s.heap.objs.size g cdg)) →
    (∀ (W : WX) (pn : List (Addr × Obj)) (xe : Value → Shared → Prop) (E : XK) (p1 p2 : Pos), Takes ((cxOf C8.CX0 X.prog X.w X.K X.mg X.base Ng x sg g cdg X.A X.stack s H C8.E0).tr pn xe) W → (∀ cls d σ' H', E cls d H' → W cls d σ' H') →
      PE ((cxOf C8.CX0 X.prog X.w X.K X.mg X.base Ng x sg g cdg X.A X.stack s H C8.E0).tr pn xe) (.Call (.Name a p1) [] [] p2) (fun σZ HZ Q => σZ[0]? = some (some (.ref f)) ∧ HZ c' = some (CodeO c' q) ∧ tl E HZ Q)) →
    H c' = some (CodeO c' q) → TT tl H Q →
    ∃ t, PSs (cxOf C8.CX0 X.prog X.w X.K X.mg X.base Ng x sg g cdg X.A X.stack s H C8.E0).nox bg t ∧ t { nx := fun _ H' => Q .non H', rt := Q } (L2.start Ng [.ref f]) H
theorem pe_lamG {X : Cx} {T : List (Addr × Str)} {TT : (XK → Hp → VK → Prop) → Hp → VK → Prop} {x a : Str} {g c P : Addr} {k : Nat} {pg : Arguments} {bg : List Stmt} {sg : Scope} {dV kV doc pm cdv ct oc : Value} {an od : Option Addr} {osl : Array (Option Value)} {Ng : List Str}
    {params : Arguments} {body : Expr} {scope : Scope} {t : XK → TE} {p lpos pos : Pos} (hg : Gl X x) (hm : X.mg x = some (.ref g)) (hk : PySem.W.keepIn X.K (.ref g) = true)
    (lk : X.K.lookup g = some ⟨oc, od, .func (PySem.W.fnOf x x pg bg sg dV kV doc pm an cdv ct), osl⟩) (hcg : PySem.W.codeIn X.K cdv x = true) (hb : L2.Binds X.K (PySem.W.fnOf x x pg bg sg dV kV doc pm an cdv ct) [a] []) (Sg : FnScope Ng [a] sg) (hNg : Ng[0]? = some a) (hva : Vis sg a)
    (hG : GivesG X Ng x sg g cdv bg a (X.env.qual ++ "<lambda>") TT)
    (TB : TabB X.base X.mg c P) (hcode : X.env.code = .ref c) (hmT : (P, X.env.qual ++ "<lambda>") ∈ T) (hu : ∀ p ∈ T, p.1 = P → p.2 = X.env.qual ++ "<lambda>") (hr : Room (k + 2) X.A) (hgd : X.A.guards = some []) (L : LamS X.env.scope scope) (hdef : defaultsOf params X.env = ([], []))
    (hbind : ∀ (q : Str) (cl : List (Str × Addr)) (pm cv ctv : Value), bindArgs (PySem.W.kla_fn "<lambda>" q params body scope cl pm cv ctv) ⟨[], []⟩ = pure [])
    (hbody : ∀ (A : Around) (outer : List PySem.Env) (s : Shared) (H : Hp) (E : XK) (f c' : Addr), Room k (A.deeper (lamEnv X scope s.heap.objs.size f c')) → A.guards = some [] → PE (lamCx X A outer s H E scope f c') body (t E))
    (hdb : (x == ("__debug__" : Str)) = false := by decide) (hd : (a == ("__debug__" : Str)) = false := by decide) (hcd : (a == ("__classdict__" : Str)) = false := by decide) :
    PE X (.Call (.Name x p) [.Lambda params body scope lpos] [] pos) (tLam T TT t) := by
  refine ⟨fun pins s σ H Q I ⟨hT, h⟩ => ?_⟩
  refine wpAny_Call_Name_kw (ld_glob I hg hm (PySem.W.callWith_K (h₀ := X.base) I.ok.mod.kin hk ?_ (by rfl) (by rfl)) hdb)
  show wpAny _ _ (spliced ((false, eval (.Lambda params body scope lpos) X.env) :: backTo pos (starEach [] X.env))) _ _ s
  refine Calls.spliced_cons (lam_make2 I TB hcode hmT hu hT hdef (L.has I.ok) fun f c' pm' ctv H1 s' I1 eN T1 hf hfn hfr hco => ?_)
  refine Calls.spliced_nil ⟨I1.kIn, ?_⟩
  have rc : codeAny (model X.prog X.w) X.A (.call (.ref g) ⟨[.ref f], []⟩) (CR C8.CX0 X.stack X.prog X.w H1 s' Q C8.E0) s' := by
    refine run_ofS (N := Ng) (ps := [a]) (us := [.ref f]) (vs := [.ref f]) lk hcg Sg hr I1.env0 (hb s' [.ref f] I1.kIn rfl) (.cons rfl .nil) rfl fun hr' => ?_
    obtain ⟨t', ht', hq'⟩ := hG f c' s' H1 Q (fun E H' Q' => t E σ H' Q') (hr'.mono (Nat.zero_le _)) (fun W pn xe E p1 p2 tk hW => pe_actG (i := 0) I1 L hf hfn hfr (hbind _ _ _ _ _) tk hW hr' hgd (fun A outer s H hr2 hg2 => hbody A outer s H E f c' hr2 hg2) hNg hva hd hcd) hco (h H1 eN T1)
    exact ⟨t', ht'.nox, hq'⟩
  refine wpAny_call (codeAny_mono rc fun r s2 hq => ?_)
  rcases r with e | fl
  · exact (show False from hq).elim
  · cases fl with
    | ret u => exact I1.after hq
    | _ => exact False.elim hq
end Mi

set_option maxHeartbeats 200000
namespace Mi
open PySem PySem.Spec PyProof.Rows L2
variable [Tb]

/-! ### judgements that know something of the slots beside -/
section
variable {X : Cx} {ct : Nat → Addr} {EX : XK} {Z : Sg → Prop} {pn : List Nat} {a b c e tg : Expr} {es : List Expr} {ma mb m : EM} {ms : EMs} {st : Stmt} {sts : List Stmt} {sm sn : SM} {pos : Pos}
def SEz (Z : Sg → Prop) (X : Cx) (ct : Nat → Addr) (EX : XK) (e : Expr) (m : EM) : Prop := PE X e (fun σ H Q => Z σ ∧ tE X.K ct EX m σ H Q)
def SEsz (Z : Sg → Prop) (X : Cx) (ct : Nat → Addr) (EX : XK) (es : List Expr) (m : EMs) : Prop := PA X es (fun σ H Q => Z σ ∧ tEs X.K ct EX m σ H Q)
def SSz (Z : Sg → Prop) (X : Cx) (ct : Nat → Addr) (EX : XK) (pn : List Nat) (st : Stmt) (m : SM) : Prop := PS X st (fun D σ H => Z σ ∧ tS X.K ct EX pn m D σ H)
def SSsz (Z : Sg → Prop) (X : Cx) (ct : Nat → Addr) (EX : XK) (pn : List Nat) (st : List Stmt) (m : SM) : Prop := PSs X st (fun D σ H => Z σ ∧ tS X.K ct EX pn m D σ H)
theorem sesz_nil : SEsz Z X ct EX [] eNil := PA.imp ses_nil fun σ H Q h => h.2
theorem sesz_cons (ha : SEz Z X ct EX e m) (hr : SEsz Z X ct EX es ms) (hs : starEach (e :: es) X.env = (false, eval e X.env) :: starEach es X.env := by rfl) : SEsz Z X ct EX (e :: es) (eCons m ms) :=
  PA.imp (pa_cons ha hr hs) fun σ H Q ⟨z, F, env, M, rel, q⟩ => by
    refine ⟨z, tE.mono (runE rel (atEs.fst (g := fun p => (ms p.2).bind fun q => .ok (p.1 :: q.1, q.2)) q)) fun x H1 ⟨F1, t, env1, N, e1, r1, g1⟩ => ⟨z, ?_⟩⟩
    have q1 := q.oks
    unfold eCons at q q1
    simp only [e1, Rs.bind] at q q1
    obtain ⟨A, B, rfl, o, r2, nd, dis, dF⟩ := r1.uncons
    refine tEs.mono (runEs r2 ((oks.bind (r := ms env1) q1).go g1 |>.imp' fun a ha => List.mem_append_right _ ha)) fun xs H2 ⟨F2, ts, env2, N2, e2, r3, hl, g2⟩ => ?_
    simp only [e2, Rs.bind] at q
    obtain ⟨r4, g3⟩ := Rel.framed o nd dis dF g2 r3
    exact q F2 H2 (x :: xs) _ r4 (by simp [hl]) (g1.trans g3)
theorem sez_lst (ha : SEsz Z X ct EX es ms) : SEz Z X ct EX (.List es pos) (eLstS ms) :=
  PE.imp (pe_lst ha) fun σ H Q ⟨z, F, env, M, rel, q⟩ => by
    refine ⟨z, tEs.mono (runEs rel (atE.fst (g := fun p => if p.1.length ≤ sizeLine then .ok (.l p.1, p.2) else .no) q)) fun xs H1 ⟨F1, ts, env1, N, e1, r1, hl, g1⟩ => ?_⟩
    unfold eLstS at q
    rw [e1] at q
    simp only [Rs.bind] at q
    split at q
    · rename_i hz
      refine ⟨by rw [← hl]; exact hz, fun p np => ?_⟩
      have x := Ext.own (o := .lst xs) r1.sub np
      obtain ⟨A, B, rfl, o, r2, nd, dis, dF⟩ := (r1.ext x).unconsS hl
      have pn : p ∉ A ++ B := fun h => by obtain ⟨vs, e⟩ := r1.there p h; rw [np] at e; cases e
      have r4 := r2.cons (A := p :: A) (.l upd_same o) (List.nodup_cons.mpr ⟨fun h => pn (List.mem_append_left _ h), nd⟩) (fun a ha hb => by
        rcases List.mem_cons.mp ha with z | z
        · subst z; exact pn (List.mem_append_right _ hb)
        · exact dis a z hb) (fun a ha => by
        rcases List.mem_cons.mp ha with z | z
        · subst z; exact r1.sub.free np
        · exact dF a z)
      have g2 := g1.trans (x.go (M := A ++ B))
      refine q _ _ (.ref p) _ r4 ⟨g2.f, g2.k, g2.n, fun a ha => ?_⟩
      rcases List.mem_cons.mp (show a ∈ p :: (A ++ B) from ha) with z | z
      · subst z
        by_cases h : a ∈ M
        · exact .inl h
        · cases e : H a with
          | none => exact .inr rfl
          | some o => rw [g1.k.d a h np] at e; cases e
      · exact g2.m a z
    · exact q.elim
theorem sez_bin {op : Operator} {f : T → T → Option T} (ho : OpR X (binaryOp op) (rO X.K f)) (ha : SE X ct EX a ma) (hb : SEz Z X ct EX b mb) : SEz Z X ct EX (.BinOp a op b pos) (eBin f ma mb) :=
  PE.imp (pe_op ho ha hb) fun σ H Q ⟨z, F, env, M, rel, q⟩ => by
    refine tE.mono (run2 rel (atE.oks q)) fun x H1 h1 => ⟨z, tE.mono h1 fun y H2 ⟨F2, t, u, env2, N, eq, v1, v2, r2, g2⟩ => ?_⟩
    unfold eBin at q
    rw [eq] at q
    cases e : f t u with
    | none => rw [e] at q; exact q.elim
    | some r => rw [e] at q; exact ⟨F2, t, u, r, r2.sub, v1, v2, e, fin_out r2 g2 q⟩
theorem ssz_asg {g : T → Env → Rs Env} (he : SEz Z X ct EX e m) (hg : SGE X ct EX pn tg g) (hs : swapsWithSole [tg] e pos.line X.env = pure false := by rfl) (hw : swappedStores [tg] e X.env = pure none := by rfl)
    (h1 : (assignEach [tg] X.env).map (·.2) = [assign tg X.env] := by rfl) : SSz Z X ct EX pn (.Assign [tg] e pos) (sAsg m g) :=
  PS.imp (ps_asg he hg hs hw h1) fun D σ H h => ⟨h.1, asg_core h.2⟩
theorem SSs.z (h : SSs X ct EX pn sts sm) : SSsz Z X ct EX pn sts sm := PSs.imp h fun D σ H h => h.2
theorem sssz_cons (hZ : ∀ σ σ', Pn pn σ σ' → Z σ → Z σ') (h1 : SSz Z X ct EX pn st sm) (h2 : SSsz Z X ct EX pn sts sn) : SSsz Z X ct EX pn (st :: sts) (sSeq sm sn) := PSs.imp (pss_cons h1 h2) fun D σ H ⟨z, F, env, M, rel, q⟩ => by
  refine ⟨z, F, env, M, rel, ?_⟩
  unfold sSeq at q
  cases e : sm env with
  | ex c => rw [e] at q; exact q
  | no => rw [e] at q; exact q
  | ok w =>
    obtain ⟨fl, env1⟩ := w
    rw [e] at q
    cases fl with
    | nx => exact fun F1 H1 σ1 N r g p => ⟨hZ _ _ p z, F1, env1, N, r, q.go g p⟩
    | rt t => exact q
end
/-! ### isinstance of the error that is held -/
def eB (b : Bool) : EM := fun env => .ok (.d (.bool b), env)
section
variable {X : Cx} {ct : Nat → Addr} {EX : XK} {pn : List (Addr × Obj)} {a D cA : Addr} {oe : Obj} {i : Nat} {n C : Str} {b : Bool} {p p2 p3 pos : Pos}
theorem sez_isE (W : ExcC X.K D) (hz : Zc (.ref D) none oe) (hf : ∃ vs, oe.data = .fields vs) (hg : Gl X "isinstance") (hm : X.mg "isinstance" = none) (hN : X.N[i]? = some n) (hv : Vis X.env.scope n) (hgC : Gl X C) (hmC : X.mg C = some (.ref cA)) (hk : PySem.W.kitOne X.K (.ref D) (.ref cA) = some b)
    (hd : (n == ("__debug__" : Str)) = false := by decide) (hcd : (n == ("__classdict__" : Str)) = false := by decide) (hd2 : (C == ("__debug__" : Str)) = false := by decide)
    (hs : starEach [.Name n p2, .Name C p3] X.env = (false, eval (.Name n p2) X.env) :: starEach [.Name C p3] X.env := by rfl) (hs2 : starEach [.Name C p3] X.env = (false, eval (.Name C p3) X.env) :: starEach [] X.env := by rfl) (hpl : (backTo pos (starEach [.Name C p3] X.env)).any (·.1) = false := by rfl) :
    SEz (fun σ => σ[i]? = some (some (.ref a))) (X.suite a ((a, oe) :: pn)) ct EX (.Call (.Name "isinstance" p) [.Name n p2, .Name C p3] [] pos) (eB b) :=
  PE.imp (pe_callB (X := X.suite a ((a, oe) :: pn)) (call_isE W hz hf) hg hm (by decide +kernel) (pa_cons (X := X.suite a ((a, oe) :: pn)) (pe_var (X := X.suite a ((a, oe) :: pn)) (i := i) hN hv hd hcd) (pa_cons (X := X.suite a ((a, oe) :: pn)) (pe_glob (X := X.suite a ((a, oe) :: pn)) (v := .ref cA) hgC hmC rfl hd2) pa_nil hs2) hs) (he := hs) (hpl := hpl)) fun σ H Q ⟨z, F, env, M, rel, q⟩ => by
    refine ⟨.ref a, z, ?_⟩
    refine ⟨.ref cA, .ref cA, b, rfl, fun u h => h, hk, ?_⟩
    exact q F H _ _ (rel.cons (A := []) (.d (.bl b)) .nil (fun _ h => nomatch h) fun _ h => nomatch h) (Go.refl rel.sub)
end
end Mi

set_option maxHeartbeats 200000
namespace Mi
open PySem PySem.Spec PyProof.Rows L2
variable [Tb]

theorem _root_.L2.PSs.ex {α : Type} {X : Cx} {b : List Stmt} {P : α → Prop} {t : α → TS} (h : ∀ c, P c → PSs X b (t c)) : PSs X b (fun D σ H => ∃ c, P c ∧ t c D σ H) :=
  ⟨fun pins s σ H D I ⟨c, p, q⟩ => (h c p).run pins s σ H D I q⟩
theorem _root_.L2.PSs.len {X : Cx} {b : List Stmt} {t : TS} (h : PSs X b t) : PSs X b (fun D σ H => σ.length = X.N.length → t D σ H) :=
  ⟨fun pins s σ H D I q => h.run pins s σ H D I (q I.len)⟩
theorem takes_no {X : Cx} : Takes X fun _ _ _ _ => False := fun u s' ⟨_, _, _, _, _, _, _, _, _, _, _, _, _, _, _, _, w⟩ => w.elim
theorem Sl.blank {K : PySem.W.Frag} {F H : Hp} : ∀ (σ : Sg), Sl K F H (List.replicate σ.length none) σ []
  | [] => .z
  | _ :: σ => .u (Sl.blank σ)
/-- what the telling def asks of the lambda that it calls -/
def RefTT (ct : Nat → Addr) (wd : Nat → Option Str) (tl : XK → Hp → VK → Prop) (H : Hp) (Q : VK) : Prop :=
  tl (fun e d H' => ∃ c w, e = .ref (ct c) ∧ d = none ∧ wd c = some w ∧ LamX.Tabs Tb.T H' ∧ ∀ H'', SameN H' H'' → Q (.str w) H'') H (fun _ H' => Q (.str "let") H')

/-- the telling def: try: a() / except xc as n: handler / return 'let' -/
theorem tells {X : Cx} {ct : Nat → Addr} {wd : Nat → Option Str} {hm : Nat → SM} {Ng : List Str} {x a n xc q : Str} {sg : Scope} {g : Addr} {cdg cc : Value} {b0 : Stmt} {bs : List Stmt} {p1 p2 p3 p4 p5 p6 p7 p8 j}
    (Sg : FnScope Ng [a] sg) (hn1 : Ng[1]? = some n) (hl1 : sg.names.lookup n = some .local) (hkc : sg.names.lookup xc = some .globalImplicit) (hdc : (xc == ("__debug__" : Str)) = false) (hmc : X.mg xc = some cc) 
    (hex : ∀ c w, wd c = some w → PySem.W.exmOne X.K (.ref (ct c)) cc = some true)
    (hw : ∀ (s : Shared) (H : Hp) (ad : Addr) (oe : Obj) (pn : List (Addr × Obj)) (c : Nat) (w : Str), Room 0 (X.A.deeper (envOfC x sg s.heap.objs.size g cdg)) → wd c = some w → Zc (.ref (ct c)) none oe → (∃ vs, oe.data = .fields vs) →
      SSsz (fun σ => σ[1]? = some (some (.ref ad))) ((cxOf C8.CX0 X.prog X.w X.K X.mg X.base Ng x sg g cdg X.A X.stack s H C8.E0).suite ad ((ad, oe) :: pn)) ct Mi.E0 [1] (b0 :: bs) (hm c))
    (hh : ∀ c w, wd c = some w → ∃ env', hm c (List.replicate Ng.length none) = .ok (.rt (.d (.str w)), env')) :
    GivesG X Ng x sg g cdg [.Try [.Expr (.Call (.Name a p1) [] [] p2) p3] [.ExceptHandler (some (.Name xc p4)) (some n) (b0 :: bs) p5] [] [] p6, .Return (some (.Constant (.str "let") j p7)) p8] a q (RefTT ct wd) := by
  intro f c' s H Q tl hrm hP hco hTT
  have hN2 : 1 < Ng.length := by
    rcases Nat.lt_or_ge 1 Ng.length with h | h
    · exact h
    · rw [List.getElem?_eq_none h] at hn1; cases hn1
  refine ⟨_, pss_cons (ps_try_as (X := (cxOf C8.CX0 X.prog X.w X.K X.mg X.base Ng x sg g cdg X.A X.stack s H C8.E0).nox) (i := 1) (c := cc)
      (tb := fun W D σ H => ∃ E : XK, (∀ cls d σ' H', E cls d H' → W cls d σ' H') ∧ (σ[0]? = some (some (.ref f)) ∧ H c' = some (LamX.CodeO c' q) ∧ tl E H (fun _ H1 => D.nx σ H1)))
      (ts := fun ad cls d D σ H => ∃ cw : Nat × Str, (cls = .ref (ct cw.1) ∧ d = none ∧ wd cw.1 = some cw.2) ∧ (σ.length = Ng.length → σ[1]? = some (some (.ref ad)) ∧ tS X.K ct Mi.E0 [1] (hm cw.1) D σ H))
      (Wout := fun _ _ _ _ => False) rfl rfl Sg.nd hn1 hl1 ⟨hkc, hdc, .inl hmc⟩ takes_no ?_ ?_) (pss_one (ps_ret pe_str)), ?_⟩
  · intro W pn xe tk _
    refine PSs.ex fun E hE => ?_
    exact pss_one (ps_expr (hP W pn xe E p1 p2 tk hE) (by rfl))
  · intro ad oe cls d pn hz hf
    refine PSs.ex fun cw ⟨hc, hd, hwd⟩ => ?_
    subst hd
    rw [hc] at hz
    exact PSs.len (hw s H ad oe pn cw.1 cw.2 hrm hwd hz hf)
  · show ∃ E : XK, _
    refine ⟨_, ?_, ?_, hco, hTT⟩
    · intro cls d σ' H' ⟨c, w, hc, hd, hwd, tb, hq⟩
      subst hc hd
      refine ⟨true, hex c w hwd, fun _ ad na => ⟨(c, w), ⟨rfl, rfl, hwd⟩, fun hl => ?_⟩, fun z => nomatch z⟩
      have hl' : σ'.length = Ng.length := by simpa using hl
      refine ⟨by rw [List.getElem?_set_self (by omega)], ?_⟩
      refine ⟨fun _ => none, List.replicate Ng.length none, [], ⟨(fun _ _ e => nomatch e), ⟨tb, fun _ _ => rfl⟩, ?_, .nil, (fun _ h => nomatch h)⟩, ?_⟩
      · rw [← hl]; exact Sl.blank _
      · obtain ⟨env', eh⟩ := hh c w hwd
        rw [eh]
        intro F' H2 σ2 v N r g _
        obtain ⟨A, B, rfl, o, _⟩ := r.uncons
        cases o with
        | d o => cases o; exact hq H2 g.k
    · rfl
end Mi

set_option maxHeartbeats 200000
namespace Mi
open PySem PySem.Spec PyProof.Rows L2 LamX
variable [Tb]

/-! ### a lambda is made: what else stays -/
section
variable {X : Cx} {pins : List (Addr × Obj)} {σ : L2.St} {H : Hp} {s : Shared}
theorem made_lam {c P : Addr} {params : Arguments} {body : Expr} {scope : Scope} {pos : Pos} {E : Value → Shared → Prop} {Q : Value → Shared → Prop} (I : Inv X pins σ H s) (tb : TabB X.base X.mg c P) (hc0 : X.env.code = .ref c)
    (mem : (P, X.env.qual ++ "<lambda>") ∈ Tb.T) (uni : ∀ p ∈ Tb.T, p.1 = P → p.2 = X.env.qual ++ "<lambda>") (hT : Tabs Tb.T H) (nodef : defaultsOf params X.env = ([], [])) (free : ∀ y ∈ scope.names, y.2 = .free → ∃ c, X.env.cells.lookup y.1 = some c)
    (h : ∀ (f c' : Addr) (pm ctv : Value) (H1 : Hp) (s' : Shared), Inv X pins σ H1 s' → SameN H H1 →
      s'.heap.get? f = some (PySem.W.kla_obj "<lambda>" (X.env.qual ++ "<lambda>") params body scope (cloFrom X.env.cells scope.names []) pm c' ctv) → H1 f = none → f ∉ frs X.stack → H1 c' = some (CodeO c' (X.env.qual ++ "<lambda>")) → Q (.ref f) s') :
    wpAny (model X.prog X.w) X.A (eval (.Lambda params body scope pos) X.env) Q E s := by
  obtain ⟨ps, eP, tri, all⟩ := hT _ mem
  refine PySem.W.kla_eval nodef ?_
  have builtP : s.heap.BuiltinsAt X.mg P := tb.bm.keeps I.bk
  have objP : s.heap.get? P = some { cls := .none, data := .fields ps } := I.hok P _ eP
  have away : ∀ f, s.heap.objs.size ≤ f → f ∉ frs X.stack := fun f hf z => (List.mem_cons.mp (I.stkSub _ z)).elim
    (fun e => by have l := I.lt; rw [← e] at l; exact absurd (Nat.lt_of_lt_of_le l hf) (Nat.lt_irrefl _)) (fun e => I.nofs hf e)
  cases hc : codeAmong pos ps.toList with
  | some cv =>
    obtain ⟨c', rfl, hco⟩ := all pos cv hc
    exact PySem.W.kla_makeFunctionHit (mg := X.mg) (c := c) (P := P) (ps := ps) (closure_ok free) I.ok.glob (I.mod.glob.keeps I.bk) hc0 (tb.code.keeps I.bk) objP tri hc builtP fun ctv h' tk hx hsz =>
      h h'.objs.size c' ((X.mg "__name__").getD .none) ctv H _ (I.kept fun b o e => Heap.get?_push_of_some _ (hx b o e)) Kp.refl (Heap.get?_push_size _ rfl) (I.hok.fresh hsz) (away _ hsz) hco
  | none =>
    refine PySem.W.kla_makeFunction (mg := X.mg) (c := c) (P := P) (ps := ps) (closure_ok free) I.ok.glob (I.mod.glob.keeps I.bk) hc0 (tb.code.keeps I.bk) objP tri hc tb.gP builtP fun c' ctv h' tk hx hge hlt hrec htb => ?_
    obtain ⟨c2, oc, vs, t, e2, hoc, hd, hv⟩ := hrec
    cases e2
    have size : s.heap.objs.size ≤ h'.objs.size := Nat.le_trans hge (Nat.le_of_lt hlt)
    have newC : H c' = none := I.hok.fresh hge
    have J := inv_table (t' := tk) (more := #[rawInt pos.line, rawInt pos.col, .ref c']) (h' := h'.push (PySem.W.kla_obj "<lambda>" (X.env.qual ++ "<lambda>") params body scope (cloFrom X.env.cells scope.names []) ((X.mg "__name__").getD .none) c' ctv)) I eP
      (fun b o hb e => Heap.get?_push_of_some _ (hx b o hb e)) (Heap.get?_push_of_some _ htb) hge ⟨oc, vs, t, Heap.get?_push_of_some _ hoc, hd, hv⟩
    have keep : ∀ b o, H b = some o → b ≠ P → upd (upd H P (.tbl (ps ++ #[rawInt pos.line, rawInt pos.col, .ref c']))) c' (CodeO c' (X.env.qual ++ "<lambda>")) b = some o := fun b o e n => by
      rw [upd_ne (ne_of_none e newC), upd_ne n]; exact e
    have keepN : ∀ b o, H b = some o → NT o → upd (upd H P (.tbl (ps ++ #[rawInt pos.line, rawInt pos.col, .ref c']))) c' (CodeO c' (X.env.qual ++ "<lambda>")) b = some o := fun b o e n => keep b o e fun z => by
      subst z; rw [eP] at e; cases e; exact n _ rfl
    have eL : (ps ++ #[rawInt pos.line, rawInt pos.col, .ref c']).toList = ps.toList ++ [rawInt pos.line, rawInt pos.col, .ref c'] := by simp
    have tabs : Tabs Tb.T (upd (upd H P (.tbl (ps ++ #[rawInt pos.line, rawInt pos.col, .ref c']))) c' (CodeO c' (X.env.qual ++ "<lambda>"))) := fun p hp => by
      by_cases hb : p.1 = P
      · rw [uni p hp hb, hb]
        refine ⟨_, by rw [upd_ne (ne_of_none eP newC), upd_same], by rw [eL]; exact PySem.TriplesOk_snoc _ _ _ _ tri, fun p' cv hcv => ?_⟩
        rw [eL] at hcv
        rcases among_app _ tri hcv with z | z
        · obtain ⟨c0, e1, e2⟩ := all p' cv z
          exact ⟨c0, e1, keepN _ _ e2 codeO_ne⟩
        · exact ⟨c', z, upd_same⟩
      · obtain ⟨ps', a1, a2, a3⟩ := hT p hp
        refine ⟨ps', keep _ _ a1 hb, a2, fun p' cv hcv => ?_⟩
        obtain ⟨c0, e1, e2⟩ := a3 p' cv hcv
        exact ⟨c0, e1, keepN _ _ e2 codeO_ne⟩
    refine h h'.objs.size c' ((X.mg "__name__").getD .none) ctv _ _ J ⟨fun b o _ e n => n.elim (keepN b o e) fun n => keep b o e (n _ mem), fun b _ e => ?_, fun _ => tabs⟩ (Heap.get?_push_size _ rfl) ?_ (away _ size) upd_same
    · cases eb : H b with
      | none => rfl
      | some o =>
        by_cases hb : b = P
        · subst hb; rw [upd_ne (ne_of_none eb newC), upd_same] at e; cases e
        · rw [keep b o eb hb] at e; cases e
    · have n1 : h'.objs.size ≠ c' := Nat.ne_of_gt hlt
      have n2 : h'.objs.size ≠ P := Nat.ne_of_gt (Nat.lt_of_lt_of_le (Heap.lt_size objP) size)
      rw [upd_ne n1, upd_ne n2]
      exact I.hok.fresh size
end
/-- x(lambda: body) -/
def tLamM (TT : (XK → Hp → VK → Prop) → Hp → VK → Prop) (t : XK → TE) : TE := fun σ H Q => Tabs Tb.T H ∧ ∀ H1, SameN H H1 → TT (fun E H' Q' => t E σ H' Q') H1 Q
theorem pe_lamM {X : Cx} {TT : (XK → Hp → VK → Prop) → Hp → VK → Prop} {x a : Str} {g c P : Addr} {k : Nat} {pg : Arguments} {bg : List Stmt} {sg : Scope} {dV kV doc pm cdv ct oc : Value} {an od : Option Addr} {osl : Array (Option Value)} {Ng : List Str}
    {params : Arguments} {body : Expr} {scope : Scope} {t : XK → TE} {p lpos pos : Pos} (hg : Gl X x) (hm : X.mg x = some (.ref g)) (hk : PySem.W.keepIn X.K (.ref g) = true)
    (lk : X.K.lookup g = some ⟨oc, od, .func (PySem.W.fnOf x x pg bg sg dV kV doc pm an cdv ct), osl⟩) (hcg : PySem.W.codeIn X.K cdv x = true) (hb : L2.Binds X.K (PySem.W.fnOf x x pg bg sg dV kV doc pm an cdv ct) [a] []) (Sg : FnScope Ng [a] sg) (hNg : Ng[0]? = some a) (hva : Vis sg a)
    (hG : GivesG X Ng x sg g cdv bg a (X.env.qual ++ "<lambda>") TT)
    (tb : TabB X.base X.mg c P) (hcode : X.env.code = .ref c) (mem : (P, X.env.qual ++ "<lambda>") ∈ Tb.T) (uni : ∀ p ∈ Tb.T, p.1 = P → p.2 = X.env.qual ++ "<lambda>") (hr : Room (k + 2) X.A) (hgd : X.A.guards = some []) (L : LamS X.env.scope scope) (hdef : defaultsOf params X.env = ([], []))
    (hbind : ∀ (q : Str) (cl : List (Str × Addr)) (pm cv ctv : Value), bindArgs (PySem.W.kla_fn "<lambda>" q params body scope cl pm cv ctv) ⟨[], []⟩ = pure [])
    (hbody : ∀ (A : Around) (outer : List PySem.Env) (s : Shared) (H : Hp) (E : XK) (f c' : Addr), Room k (A.deeper (lamEnv X scope s.heap.objs.size f c')) → A.guards = some [] → PE (lamCx X A outer s H E scope f c') body (t E))
    (hdb : (x == ("__debug__" : Str)) = false := by decide) (hd : (a == ("__debug__" : Str)) = false := by decide) (hcd : (a == ("__classdict__" : Str)) = false := by decide) :
    PE X (.Call (.Name x p) [.Lambda params body scope lpos] [] pos) (tLamM TT t) := by
  refine ⟨fun pins s σ H Q I ⟨hT, h⟩ => ?_⟩
  refine wpAny_Call_Name_kw (ld_glob I hg hm (PySem.W.callWith_K (h₀ := X.base) I.ok.mod.kin hk ?_ (by rfl) (by rfl)) hdb)
  show wpAny _ _ (spliced ((false, eval (.Lambda params body scope lpos) X.env) :: backTo pos (starEach [] X.env))) _ _ s
  refine Calls.spliced_cons (made_lam I tb hcode mem uni hT hdef (L.has I.ok) fun f c' pm' ctv H1 s' I1 mk hf hfn hfr hco => ?_)
  refine Calls.spliced_nil ⟨I1.kIn, ?_⟩
  have rc : codeAny (model X.prog X.w) X.A (.call (.ref g) ⟨[.ref f], []⟩) (CR C8.CX0 X.stack X.prog X.w H1 s' Q C8.E0) s' := by
    refine run_ofS (N := Ng) (ps := [a]) (us := [.ref f]) (vs := [.ref f]) lk hcg Sg hr I1.env0 (hb s' [.ref f] I1.kIn rfl) (.cons rfl .nil) rfl fun hr' => ?_
    obtain ⟨t', ht', hq'⟩ := hG f c' s' H1 Q (fun E H' Q' => t E σ H' Q') (hr'.mono (Nat.zero_le _)) (fun W pn xe E p1 p2 tk hW => pe_actG (i := 0) I1 L hf hfn hfr (hbind _ _ _ _ _) tk hW hr' hgd (fun A outer s H hr2 hg2 => hbody A outer s H E f c' hr2 hg2) hNg hva hd hcd) hco (h H1 mk)
    exact ⟨t', ht'.nox, hq'⟩
  refine wpAny_call (codeAny_mono rc fun r s2 hq => ?_)
  rcases r with e | fl
  · exact (show False from hq).elim
  · cases fl with
    | ret u => exact I1.after hq
    | _ => exact False.elim hq
/-- only the data of the slots -/
def dropL (env : Env) : Env := env.map fun o => match o with
  | some (.d x) => some (.d x)
  | _ => none
def eRef (wd : Nat → Option Str) (pm : PM) : EM := fun env => match pm (dropL env) with
  | .ok _ => .ok (.d (.str "let"), env)
  | .ex c => (Rs.of (wd c)).bind fun w => .ok (.d (.str w), env)
  | .no => .no
theorem Sl.dropL {K : PySem.W.Frag} {F H F' H' : Hp} (sF : Same F F') : ∀ {env : Env} {σ : Sg} {M : List Addr}, Sl K F H env σ M → Sl K F' H' (Mi.dropL env) σ []
  | _, _, _, .z => .z
  | _, _, _, .u h => .u (Sl.dropL sF h)
  | _, _, _, .s (.d o) h => .s (.d (Dp.mono sF o)) (Sl.dropL sF h)
  | _, _, _, .s (.l _ _) h => .u (Sl.dropL sF h)
theorem ref_core {K : PySem.W.Frag} {ct : Nat → Addr} {EX : XK} {wd : Nat → Option Str} {pm : PM} {σ : Sg} {H H1 : Hp} {Q : VK} (h : tE K ct EX (eRef wd pm) σ H Q) (m : SameN H H1) : RefTT ct wd (fun E H' Q' => tP K ct E pm σ H' Q') H1 Q := by
  obtain ⟨F, env, M, rel, q⟩ := h
  have x := rel.tb.extN rel.sub m
  have r1 := rel.ext x
  have fin : ∀ {F2 H2 : Hp} {z : PyData} {v : V}, Ext F H1 F2 H2 → (∀ F' H' v N, Rel K F' H' (some (.d z) :: env) (some v :: σ) N → Go F H M F' H' N → Q v H') → Dp K F2 v z → Q v H2 := fun {F2 H2 z v} x2 q d =>
    q F2 H2 v _ ((r1.ext x2).cons (A := []) (.d d) .nil (fun _ h => nomatch h) fun _ h => nomatch h) (x.trans x2).go
  refine ⟨F, dropL env, [], ⟨r1.sub, r1.tb, Sl.dropL (Same.refl _) r1.own, .nil, (fun _ h => nomatch h)⟩, ?_⟩
  unfold eRef at q
  cases e : pm (dropL env) with
  | no => rw [e] at q; exact q
  | ok t =>
    rw [e] at q
    exact fun F2 H2 v N x2 _ _ => fin x2 q (.str _)
  | ex c =>
    rw [e] at q
    cases ew : wd c with
    | none => simp only [ew, Rs.of, Rs.bind] at q; exact q.elim
    | some w =>
      simp only [ew, Rs.of, Rs.bind] at q
      refine fun H2 k2 => ⟨c, w, rfl, rfl, ew, k2.t r1.tb.1, fun H3 k3 => ?_⟩
      exact fin (r1.tb.extN r1.sub (Kp.trans k2 k3)) q (.str _)
end Mi

set_option maxHeartbeats 200000
namespace Mi
open PySem PySem.Spec PyProof.Rows L2 LamX
variable [Tb]

/-- the telling def x(a), wd its words -/
structure Tel (P : Program) (w : World) (K : PySem.W.Frag) (mg : Str → Option Value) (base : Heap) (ct : Nat → Addr) (x a : Str) (wd : Nat → Option Str) : Prop where
  ex : ∃ (g : Addr) (pg : Arguments) (bg : List Stmt) (sg : Scope) (dV kV doc pm cdv ctv oc : Value) (an od : Option Addr) (osl : Array (Option Value)) (Ng : List Str),
    mg x = some (.ref g) ∧ PySem.W.keepIn K (.ref g) = true ∧ K.lookup g = some ⟨oc, od, .func (PySem.W.fnOf x x pg bg sg dV kV doc pm an cdv ctv), osl⟩ ∧ PySem.W.codeIn K cdv x = true ∧ L2.Binds K (PySem.W.fnOf x x pg bg sg dV kV doc pm an cdv ctv) [a] [] ∧ FnScope Ng [a] sg ∧ Ng[0]? = some a ∧ Vis sg a ∧
    ∀ (X : Cx) (q : Str), X.prog = P → X.w = w → X.K = K → X.mg = mg → X.base = base → GivesG X Ng x sg g cdv bg a q (RefTT ct wd)
/-- the maker's table -/
structure Mk (base : Heap) (mg : Str → Option Value) (c P : Addr) (q : Str) : Prop where
  tb : TabB base mg c P
  mem : (P, q) ∈ Tb.T
  uni : ∀ p ∈ Tb.T, p.1 = P → p.2 = q
theorem lam_passes {X : Cx} {A : Around} {outer : List PySem.Env} {s : Shared} {H : Hp} {E : XK} {scope : Scope} {f c' : Addr} : Passes (L2.CX (lamCx X A outer s H E scope f c').prog (lamCx X A outer s H E scope f c').w) (lamCx X A outer s H E scope f c') E :=
  passes_call (takes_of (X := lamCx X A outer s H E scope f c') rfl rfl rfl rfl) fun _ _ _ _ h => h
theorem se_refC {X : Cx} {ct : Nat → Addr} {EX : XK} {x a : Str} {wd : Nat → Option Str} {c P : Addr} {params : Arguments} {body : Expr} {scope : Scope} {k : Nat} {pm : PM} {p lpos pos : Pos} (T : Tel X.prog X.w X.K X.mg X.base ct x a wd) (M : Mk X.base X.mg c P (X.env.qual ++ "<lambda>")) (hcode : X.env.code = .ref c)
    (hr : Room (k + 2) X.A) (hgd : X.A.guards = some [])
    (hbody : ∀ (A : Around) (outer : List PySem.Env) (s : Shared) (H : Hp) (E : XK) (f c' : Addr), Room k (A.deeper (lamEnv X scope s.heap.objs.size f c')) → A.guards = some [] → Passes (L2.CX (lamCx X A outer s H E scope f c').prog (lamCx X A outer s H E scope f c').w) (lamCx X A outer s H E scope f c') E → Mi.SP (lamCx X A outer s H E scope f c') ct E body pm)
    (hg : Gl X x := by rfl) (L : LamS X.env.scope scope := by exact LamX.lamS_by (by kernel_rfl)) (hdef : defaultsOf params X.env = ([], []) := by rfl)
    (hbind : ∀ (q : Str) (cl : List (Str × Addr)) (pm cv ctv : Value), bindArgs (PySem.W.kla_fn "<lambda>" q params body scope cl pm cv ctv) ⟨[], []⟩ = pure [] := by exact fun _ _ _ _ _ => rfl)
    (hdb : (x == ("__debug__" : Str)) = false := by decide) (hd : (a == ("__debug__" : Str)) = false := by decide) (hcd : (a == ("__classdict__" : Str)) = false := by decide) :
    SE X ct EX (.Call (.Name x p) [.Lambda params body scope lpos] [] pos) (eRef wd pm) := by
  obtain ⟨g, pg, bg, sg, dV, kV, doc, pmv, cdv, ctv, oc, an, od, osl, Ng, hm, hk, lk, hcg, hb, Sg, hNg, hva, hG⟩ := T.ex
  refine PE.imp (pe_lamM (t := fun E => tP X.K ct E pm) hg hm hk lk hcg hb Sg hNg hva (hG X _ rfl rfl rfl rfl rfl) M.tb hcode M.mem M.uni hr hgd L hdef hbind (fun A outer s H E f c' h1 h2 => hbody A outer s H E f c' h1 h2 lam_passes) hdb hd hcd) fun σ H Q h => ⟨?_, fun H1 m => ref_core h m⟩
  obtain ⟨F, env, M, rel, _⟩ := h
  exact rel.tb.1
end Mi
namespace Mi
open PySem PySem.Spec PyProof.Rows L2 LamX
theorem EK.mg {K : PySem.W.Frag} {mg : Str → Option Value} {ct : Nat → Addr} {x : Str} {c : Nat} (h : EK K mg ct x c) : mg x = some (.ref (ct c)) := by
  obtain ⟨_, _, _, _, _, _, h, _⟩ := h; exact h
def rtW (r : Rs (Fl × Env)) : Option Str := match r with
  | .ok (.rt (.d (.str w)), _) => some w
  | _ => none
theorem rtW_some {r : Rs (Fl × Env)} {w : Str} (h : rtW r = some w) : ∃ env', r = .ok (.rt (.d (.str w)), env') := by
  unfold rtW at h
  split at h
  · cases h; exact ⟨_, rfl⟩
  · cases h
theorem words_ok {l : List (Option Str)} {b : Nat → SM} {m : Nat} (h : (List.range l.length).all (fun c => (l.getD c none).isNone || decide (rtW (b c (List.replicate m none)) = l.getD c none)) = true) (c : Nat) (w : Str) (e : l.getD c none = some w) :
    ∃ env', b c (List.replicate m none) = .ok (.rt (.d (.str w)), env') := by
  have hc : c < l.length := by
    rcases Nat.lt_or_ge c l.length with z | z
    · exact z
    · rw [List.getD_eq_getElem?_getD, List.getElem?_eq_none z] at e; cases e
  have := List.all_eq_true.mp h c (List.mem_range.mpr hc)
  rw [e] at this
  exact rtW_some (by simpa using this)
end Mi

set_option maxHeartbeats 200000
namespace Mi
open PySem PySem.Spec PyProof.Rows L2 LamX

/-! ### the law's call from the row: the layer's law_callTs for promises that know that nothing is being shown -/
section
variable {P : Program} {w : World} {K : PySem.W.Frag} {mg mb : Str → Option Value} {k : Nat} {fa a : Addr} {cs : List (Addr × Addr)} {fd : FuncData} {x : Str} {sp : Sp} {s₁ : Shared} {vs : List Value} {ns : List Int}
/-- what the row's heap is known to hold -/
structure Row0 (K : PySem.W.Frag) (mg mb : Str → Option Value) (cs : List (Addr × Addr)) (s₁ : Shared) : Prop where
  kin : K.In s₁.heap
  glob : s₁.heap.Ns mainGlobals mg
  blt : s₁.heap.Ns builtinsNs mb
  boot : ∀ x : Str, x ≠ "__name__" → mb x = bootBuiltins x
  lim : s₁.heap.NoLimit
  gens : s₁.gens = #[]
  tab : ∀ p ∈ cs, s₁.heap.get? p.2 = some { cls := .none, data := .fields #[] }
  notK : ∀ p ∈ cs, K.lookup p.2 = none
  code : ∀ p ∈ cs, PySem.W.CodeHd s₁.heap p.1 p.2
  bm : ∃ (bm : Addr) (ob : Obj), mg "__builtins__" = some (.ref bm) ∧ bm ≠ builtinsNs ∧ s₁.heap.get? bm = some ob ∧ ob.cls = .type "module" ∧ ob.dict = some builtinsNs ∧ ob.data = .plain
/-- the tracked heap: the script and the empty tables -/
structure Trk (H : Hp) (K : PySem.W.Frag) (a : Addr) (cs : List (Addr × Addr)) : Prop where
  tab : ∀ p ∈ cs, H p.2 = some (.tbl #[])
  kind : ∀ b, H b = none ∨ b ∈ cs.map (·.2) ∨ ∃ o xs, H b = some (.frz o (.lst xs))
  only : ∀ b, H b ≠ none → b = a ∨ b ∈ cs.map (·.2)
  notK : H a ≠ none → K.lookup a = none
theorem law_core (R : Row0 K mg mb cs s₁) {H : Hp} (T : Trk H K a cs) (hok : HOk P w H s₁.heap)
    (ha : s₁.heap.get? a = some { cls := .type "list", data := .seq vs.toArray }) (hr : Room k callerA)
    (F : ∀ base : Heap, K.In base → base.Ns mainGlobals mg → (∀ p ∈ cs, TabB base mg p.1 p.2) → Fg P w K mg base k fa fd [x] sp) (hbind : ∀ (s : Shared) (u : Value), BindsTo s fd ⟨[u], []⟩ [(x, u)])
    (hsp : sp [.ref a] H (fun v _ => v = .bl true) fun _ _ _ => False) :
    codeAny (model P w) callerA (.call (.ref fa) ⟨[.ref a], []⟩) (fun r s' => r = .ok (.ret (.bool true)) ∧ OldK s₁.heap s'.heap ∧ s'.os = s₁.os ∧ AllBare s'.gens) s₁ := by
  have tabAt : ∀ b : Addr, b ∈ cs.map (·.2) → s₁.heap.get? b = some { cls := .none, data := .fields #[] } := fun b hb => by
    obtain ⟨p, hp, rfl⟩ := List.mem_map.mp hb
    exact R.tab p hp
  have plain : ∀ {b : Addr} {o : Obj}, s₁.heap.get? b = some o → (∀ vs n, o.data ≠ .seq vs n) → o.data ≠ .fields #[] → H b = none := fun {b o} e h1 h2 => by
    cases q : H b with
    | none => rfl
    | some u =>
      exfalso
      rcases T.only b (by rw [q]; simp) with rfl | hm
      · rw [ha] at e; cases e; exact h1 _ _ rfl
      · rw [tabAt b hm] at e; cases e; exact h2 rfl
  have toBase : ∀ {b : Addr} {o : Obj}, s₁.heap.get? b = some o → H b = none → (hidT s₁.heap H).get? b = some o := fun e n => hidT_get e n
  have nsB : ∀ {b : Addr} {m : Str → Option Value}, s₁.heap.Ns b m → (hidT s₁.heap H).Ns b m := fun {b m} ⟨o, es, ep, e, d, r⟩ =>
    ⟨o, es, ep, toBase e (plain e (fun vs n z => by rw [d] at z; cases z) fun z => by rw [d] at z; cases z), d, r⟩
  have kinB : K.In (hidT s₁.heap H) := fun b o e => toBase (R.kin b o e) (by
    cases q : H b with
    | none => rfl
    | some u =>
      exfalso
      rcases T.only b (by rw [q]; simp) with rfl | hm
      · rw [T.notK (by rw [q]; simp)] at e; cases e
      · obtain ⟨p, hp, rfl⟩ := List.mem_map.mp hm
        rw [R.notK p hp] at e; cases e)
  have tabs : ∀ p ∈ cs, TabB (hidT s₁.heap H) mg p.1 p.2 := fun p hp => by
    have at2 := R.tab p hp
    refine ⟨?_, ?_, fun z => ?_⟩
    · obtain ⟨o, us, file, tf, flags, tg, inF, text, tt, e1, r1, r2, r3, rest⟩ := R.code p hp
      exact ⟨o, us, file, tf, flags, tg, inF, text, tt, toBase e1 (plain e1 (fun vs n z => by rw [r2] at z; cases z) fun z => by rw [r2] at z; cases z; simp at r3), r1, r2, r3, rest⟩
    · obtain ⟨bm, ob, b1, b2, b3, b4, b5, b6⟩ := R.bm
      refine ⟨bm, ob, b1, b2, fun q => ?_, fun q => ?_, toBase b3 (plain b3 (fun vs n z => by rw [b6] at z; cases z) fun z => by rw [b6] at z; cases z), b4, b5, b6⟩
      · obtain ⟨o, es, ep, e, hd, _⟩ := R.glob
        rw [q, e] at b3; cases b3
        rw [hd] at b6; cases b6
      · rw [q, at2] at b3; cases b3; cases b6
    · obtain ⟨o, es, ep, e, hd, _⟩ := R.glob
      rw [z, at2] at e; cases e; cases hd
  have e0 : Env0 P w K mg (hidT s₁.heap H) callerA [] s₁ H :=
    ⟨rfl, ⟨kinB, nsB R.glob, ⟨mb, nsB R.blt, R.boot⟩, let ⟨mc, h1, h2⟩ := R.lim; ⟨mc, nsB h1, h2⟩⟩, fun b o e => of_hidT e, Nat.le_of_eq (hidT_size _ _), trivial, fun b hb => absurd (show b ∈ ([] : List Addr) from hb) (by simp), hok, .of_eq R.gens⟩
  refine codeAny_mono ((F _ kinB (nsB R.glob) tabs).run callerA [] s₁ H ⟨[.ref a], []⟩ [.ref a] [.ref a] _ _ hr rfl e0 (hbind s₁ (.ref a)) (.cons rfl .nil) hsp) fun r s' h => ?_
  rcases r with e | fl
  · obtain ⟨_, _, _, _, _, _, _, _, _, _, _, _, z⟩ := h
    exact z.elim
  cases fl with
  | next => exact False.elim h
  | brk => exact False.elim h
  | cont => exact False.elim h
  | ret u =>
    obtain ⟨v, H', os, bare, un, hok', r', rfl⟩ := h
    obtain rfl : u = Value.bool true := r'
    have same : ∀ b o, b ∉ cs.map (·.2) → s₁.heap.get? b = some o → s'.heap.get? b = some o := fun b o nb e => by
      rcases T.kind b with z | z | ⟨ob, xs, z⟩
      · exact un.keep b o e z (by intro z; exact absurd (show b ∈ ([] : List Addr) from z) (by simp)) (by simp)
      · exact absurd z nb
      · obtain ⟨e1, _⟩ := hok b _ z
        obtain ⟨e2, _⟩ := hok' b _ (un.frzs b ob _ z)
        rw [e] at e1; cases e1; exact e2
    have grown : ∀ p ∈ cs, ∃ more : Array Value, s'.heap.get? p.2 = some { cls := .none, data := .fields more } := fun p hp => by
      obtain ⟨more, z⟩ := un.tbls p.2 #[] (T.tab p hp)
      exact ⟨_, hok' p.2 _ z⟩
    refine ⟨rfl, ⟨fun b o e => ?_, fun b o e => ?_⟩, os, bare⟩
    · by_cases hb : b ∈ cs.map (·.2)
      · obtain ⟨p, hp, rfl⟩ := List.mem_map.mp hb
        obtain ⟨more, hm⟩ := grown p hp
        rw [R.tab p hp] at e; cases e
        exact .inr (.inl ⟨((R.code p hp).tab (R.tab p hp)).isCodeTable, rfl, #[], more, rfl, by rw [Array.empty_append]; exact hm⟩)
      · exact .inl (same b o hb e)
    · by_cases hb : b ∈ cs.map (·.2)
      · obtain ⟨p, hp, rfl⟩ := List.mem_map.mp hb
        obtain ⟨more, hm⟩ := grown p hp
        exact ⟨_, hm⟩
      · exact ⟨o, same b o hb e⟩
theorem law_callG (R : Row0 K mg mb cs s₁) (ha : s₁.heap.get? a = some { cls := .type "list", data := .seq vs.toArray }) (hi : IntsAre vs ns) (hl : ns.length ≤ sizeLine) (hr : Room k callerA)
    (F : ∀ base : Heap, K.In base → base.Ns mainGlobals mg → (∀ p ∈ cs, TabB base mg p.1 p.2) → Fg P w K mg base k fa fd [x] sp) (hbind : ∀ (s : Shared) (u : Value), BindsTo s fd ⟨[u], []⟩ [(x, u)])
    (hsp : ∀ H : Hp, (∀ p ∈ cs, H p.2 = some (.tbl #[])) → SqL K H a (ns.map V.int) → a ∉ cs.map (·.2) → sp [.ref a] H (fun v _ => v = .bl true) fun _ _ _ => False) :
    codeAny (model P w) callerA (.call (.ref fa) ⟨[.ref a], []⟩) (fun r s' => r = .ok (.ret (.bool true)) ∧ OldK s₁.heap s'.heap ∧ s'.os = s₁.os ∧ AllBare s'.gens) s₁ := by
  have rv := vals_ints hi
  have lenV := hi.length
  have tabAt : ∀ b : Addr, b ∈ cs.map (·.2) → s₁.heap.get? b = some { cls := .none, data := .fields #[] } := fun b hb => by
    obtain ⟨p, hp, rfl⟩ := List.mem_map.mp hb
    exact R.tab p hp
  have aT : a ∉ cs.map (·.2) := fun z => by
    have q := tabAt a z
    rw [ha] at q
    have z' : Data.seq vs.toArray _ = Data.fields #[] := congrArg Obj.data (Option.some.inj q)
    cases z'
  have memT : ∀ p ∈ cs, p.2 ∈ cs.map (·.2) := fun p hp => List.mem_map.mpr ⟨p, hp, rfl⟩
  cases hk : K.lookup a with
  | some o =>
    have e := R.kin a o hk
    rw [ha] at e; cases e
    let H : Hp := fun b => if b ∈ cs.map (·.2) then some (.tbl #[]) else none
    have inT : ∀ {b}, b ∈ cs.map (·.2) → H b = some (.tbl #[]) := fun h => if_pos h
    have out : ∀ {b}, b ∉ cs.map (·.2) → H b = none := fun h => if_neg h
    refine law_core R (H := H) ⟨fun p hp => inT (memT p hp), fun b => ?_, fun b n => ?_, fun n => absurd (out aT) n⟩ (fun b u z => ?_) ha hr F hbind (hsp H (fun p hp => inT (memT p hp)) (.inr ⟨_, vs.toArray, _, hk, rfl, rfl, rfl, by rw [List.size_toArray, lenV]; exact hl, by simpa using rv⟩) aT)
    · by_cases hb : b ∈ cs.map (·.2)
      · exact .inr (.inl hb)
      · exact .inl (out hb)
    · by_cases hb : b ∈ cs.map (·.2)
      · exact .inr hb
      · exact absurd (out hb) n
    · by_cases hb : b ∈ cs.map (·.2)
      · rw [inT hb] at z; cases z; exact tabAt b hb
      · rw [out hb] at z; cases z
  | none =>
    let H : Hp := fun b => if b = a then some (.frz { cls := .type "list", data := .seq vs.toArray } (.lst (ns.map V.int))) else if b ∈ cs.map (·.2) then some (.tbl #[]) else none
    have atA : H a = some (.frz { cls := .type "list", data := .seq vs.toArray } (.lst (ns.map V.int))) := if_pos rfl
    have inT : ∀ {b}, b ∈ cs.map (·.2) → H b = some (.tbl #[]) := fun {b} h => (if_neg (show ¬ b = a from fun z => aT (z ▸ h))).trans (if_pos h)
    have out : ∀ {b}, b ≠ a → b ∉ cs.map (·.2) → H b = none := fun h1 h2 => (if_neg h1).trans (if_neg h2)
    refine law_core R (H := H) ⟨fun p hp => inT (memT p hp), fun b => ?_, fun b n => ?_, fun _ => hk⟩ (fun b u z => ?_) ha hr F hbind (hsp H (fun p hp => inT (memT p hp)) (.inl (.inr ⟨_, atA⟩)) aT)
    · by_cases hb : b = a
      · exact .inr (.inr ⟨_, _, by rw [hb]; exact atA⟩)
      · by_cases hb2 : b ∈ cs.map (·.2)
        · exact .inr (.inl hb2)
        · exact .inl (out hb hb2)
    · by_cases hb : b = a
      · exact .inl hb
      · by_cases hb2 : b ∈ cs.map (·.2)
        · exact .inr hb2
        · exact absurd (out hb hb2) n
    · by_cases hb : b = a
      · subst hb; rw [atA] at z; cases z
        exact ⟨ha, by rw [List.length_map]; exact hl, vs, _, rv, ha⟩
      · by_cases hb2 : b ∈ cs.map (·.2)
        · rw [inT hb2] at z; cases z; exact tabAt b hb2
        · rw [out hb hb2] at z; cases z
end
/-- what is known of the law's promise at the head's heap h -/
def LawAtG (l : PySem.W.OpenLaw) (w : World) (K : PySem.W.Frag) (k n : Nat) (x : Str) (mg : Str → Option Value) (fa : Addr) (h : Heap) : Prop :=
  ∃ (fd : FuncData) (cs : List (Addr × Addr)) (sp : Sp), (∀ p ∈ cs, h.get? p.2 = some { cls := .none, data := .fields #[] }) ∧ (∀ p ∈ cs, K.lookup p.2 = none) ∧ (∀ p ∈ cs, PySem.W.CodeHd h p.1 p.2) ∧ (∀ (s : Shared) (u : Value), BindsTo s fd ⟨[u], []⟩ [(x, u)]) ∧
    (∀ (H : Hp) (a : Addr) (ns : List Int), ns.length ≤ n → (∀ z ∈ ns, Builtin.Int.intBits z ≤ 1048576) → (∀ p ∈ cs, H p.2 = some (.tbl #[])) → SqL K H a (ns.map V.int) → a ∉ cs.map (·.2) → sp [.ref a] H (fun v _ => v = .bl true) fun _ _ _ => False) ∧
    ∀ base : Heap, K.In base → base.Ns mainGlobals mg → (∀ p ∈ cs, TabB base mg p.1 p.2) → Fg l.prog w K mg base k fa fd [x] sp
theorem walk_ofG {l : PySem.W.OpenLaw} {n k : Nat} {q : Program} {loose : List Str} {XP : (Str → Option Value) → Heap → Prop} {YP : World → Heap → Prop} {d : DefRec} {x : Str}
    (hn : l.most = some n) (hn2 : n ≤ sizeLine) (hdf : d.params.defaults = []) (hr : Room k callerA)
    (F : ∀ (w : World) (mg : Str → Option Value) (fa : Addr) (h : Heap), YP w h → h.Ns mainGlobals mg → mg d.name = some (.ref fa) → ∃ K : PySem.W.Frag, K.In h ∧ LawAtG l w K k n x mg fa h) :
    PySem.W.WalkO q loose XP YP l.row.toRowW d [] (fun f vs => PySem.call f vs) := by
  refine Att.attach_callB hn hdf fun w s₀ s₁ mg mb fa o pm cd doc a vs ns G Y ho hd hcd hmg hobj hints hlen hbits hg => ?_
  obtain ⟨K, KX, fd, cs, sp, hT, nT, C, hb, hsp, hF⟩ := F w mg fa _ Y G.T.g hmg
  exact law_callG ⟨KX, G.T.g, G.T.b, G.T.builtins, G.T.nolimit, hg, hT, nT, C, G.T.bmain⟩ hobj hints (Nat.le_trans hlen hn2) hr hF hb (fun H hH hS hx => hsp H a ns hlen hbits hH hS hx)
variable [Tb]
theorem DpAll.ints {K : PySem.W.Frag} {F : Hp} : ∀ (ns : List Int), DpAll K F (ns.map V.int) (ns.map PyData.int)
  | [] => .nil
  | _ :: ns => .cons (.int _) (DpAll.ints ns)
theorem spM_law {K : PySem.W.Frag} {ct : Nat → Addr} {f : FM} {cs : List (Addr × Addr)} {H : Hp} {a : Addr} {ns : List Int} {us : List (Option T)} (hT : ∀ p ∈ Tb.T, p.1 ∈ cs.map (·.2)) (h1 : ∀ p ∈ cs, H p.2 = some (.tbl #[])) (hS : SqL K H a (ns.map V.int)) (ha : a ∉ cs.map (·.2))
    (e : f [.d (.list (ns.map .int))] = .ok (.d (.bool true), us)) : spM K ct 1 f [.ref a] H (fun v _ => v = .bl true) fun _ _ _ => False := by
  have tabAt : ∀ b ∈ cs.map (·.2), H b = some (.tbl #[]) := fun b hb => by
    obtain ⟨p, hp, rfl⟩ := List.mem_map.mp hb
    exact h1 p hp
  let F : Hp := fun b => if b ∈ cs.map (·.2) then none else H b
  have outF : ∀ {b}, b ∉ cs.map (·.2) → F b = H b := fun h => if_neg h
  have sF : Same F H := fun b o z => by
    by_cases hb : b ∈ cs.map (·.2)
    · have : F b = none := if_pos hb
      rw [this] at z; cases z
    · rw [outF hb] at z; exact z
  have hS2 : SqL K F a (ns.map V.int) := hS.imp (fun r => by unfold Rd at *; rw [outF ha]; exact r) id
  refine ⟨F, [.d (.list (ns.map .int))], [], rfl, ⟨sF, fun p hp => TabS.nil (tabAt _ (hT p hp)), fun p hp => if_pos (hT p hp)⟩, .cons (M := []) (N := []) (.d (.lst hS2 (DpAll.ints ns))) .nil, .nil, (fun _ h => nomatch h), ?_⟩
  rw [e]
  intro F' H' v N r g
  obtain ⟨A, B, rfl, o, _⟩ := r.uncons
  cases o with
  | d o => cases o; rfl
end Mi

set_option maxHeartbeats 200000
namespace Mi
open PySem PySem.Spec PyProof.Rows L2 LamX
/-! ### facts of the head -/
section
variable {K : PySem.W.Frag} {h : Heap} {mg : Str → Option Value}
theorem gk_int (X : K.In h) (G : h.Ns mainGlobals mg) {x : Str} {i : Int} (c : (He.Fa.int x i).ok K = true) : GK K mg x (.int i) := by
  obtain ⟨t, e⟩ := He.int_ok X G c
  exact ⟨_, .int i, e, ⟨t, rfl⟩, fun _ => .int i⟩
theorem gk_str (X : K.In h) (G : h.Ns mainGlobals mg) {x z : Str} (c : (He.Fa.str x z).ok K = true) : GK K mg x (.str z) := by
  obtain ⟨t, e⟩ := He.str_ok X G c
  exact ⟨_, .str z, e, ⟨t, rfl⟩, fun _ => .str z⟩
theorem ek_ok (X : K.In h) (G : h.Ns mainGlobals mg) {x : Str} {ct : Nat → Addr} {c : Nat} (hct : ct c = He.ga K x) (g : (He.Fa.glo x).ok K = true) (e : (He.Fa.exc x).ok K = true) : EK K mg ct x c := by
  obtain ⟨c1, c2, c3, c4⟩ := He.exc_ok e
  exact ⟨He.veBase, "ValueError", "ValueError.__new__", "ValueError.__init__", PySem.F.excBase_ValueError, by rw [hct]; exact c1, by rw [hct]; exact He.glo_ok X G g, by rw [hct]; exact c2, by rw [hct]; exact c3, by rw [hct]; exact c4⟩
/-- what isinstance asks of an error's class -/
def excB (K : PySem.W.Frag) (D : Addr) : Bool := He.eqO (PySem.W.findIn K (.ref D) "__getattribute__") (some (some (.builtin "BaseException.__getattribute__"))) && (He.eqO (PySem.W.findIn K (.ref D) "__getattr__") (some none) && (decide (PySem.W.subIn K (.ref D) (.type "BaseException") = some true) && (PySem.W.hasDictIn K D &&
  (He.eqO (PySem.W.findIn K (.ref D) "__class__") (some (some (.builtin "object.__class__"))) && (He.eqO (PySem.W.specialIn K (.builtin "object.__class__") "__get__") (some (some (.builtin "getset_descriptor.__get__"))) && (decide (PySem.W.takesIn K (.builtin "object.__class__") = some true) && decide (PySem.W.mroIn K D (.type "object") = some true)))))))
theorem excB_ok {D : Addr} (c : excB K D = true) : ExcC K D := by
  unfold excB at c
  simp only [Bool.and_eq_true, decide_eq_true_eq] at c
  obtain ⟨c1, c2, c3, c4, c5, c6, c7, c8⟩ := c
  exact ⟨He.eqO_ok c1, He.eqO_ok c2, c3, c4, He.eqO_ok c5, He.eqO_ok c6, c7, c8⟩
end
variable [Tb]
section
variable {P : Program} {w : World} {K : PySem.W.Frag} {mg : Str → Option Value} {base : Heap} {ct : Nat → Addr} {x : Str} {params : Arguments} {body : List Stmt} {scope : Scope} {f : Addr} {fd : FuncData} {N ps : List Str} {k nL : Nat} {io : List Nat} {m : SM}
/-- a def's promise from its walk -/
theorem fg_fun (F : FunD K x x params body scope [] [] f fd) (S : FnScope N ps scope) (hN : N.length = ps.length + nL)
    (hw : ∀ (cdv : Value) (A : Around) (outer : List PySem.Env) (s : Shared) (H : Hp) (E : XK), (∃ c, cdv = .ref c ∧ ∀ oc od osl fd', K.lookup f = some ⟨oc, od, .func fd', osl⟩ → fd'.code = .ref c) → Room k (A.deeper (envOfC x scope s.heap.objs.size f cdv)) → A.guards = some [] →
      SSs (cxOf (L2.CX P w) P w K mg base N x scope f cdv A outer s H E) ct E io body m) :
    Fg P w K mg base (k + 1) f fd ps (spM K ct ps.length (fnM ps.length nL io m)) := by
  obtain ⟨oc, od, dV, kV, doc, pm, an, cdv, ctv, osl, rfl, lk, hcd, _, _⟩ := F.ex
  refine fg_of lk hcd S spM_len fun A outer s H vs Q E hr hg hsp => ?_
  refine fn_ok (io := io) rfl hN (hw cdv A outer s H E ?_ hr hg) hsp
  obtain ⟨c, rfl⟩ := He.codeIn_ref hcd
  exact ⟨c, rfl, fun oc' od' osl' fd' e => by rw [lk] at e; cases e; rfl⟩
theorem cal_fun (F : FunD K x x params body scope [] [] f fd) (hm : mg x = some (.ref f)) (hb : Binds K fd ps []) (G : Fg P w K mg base k f fd ps (spM K ct ps.length (fnM ps.length nL io m))) : Cal P w K mg base ct x k ps.length (fnM ps.length nL io m) :=
  ⟨f, fd, ps, G, hm, F.kp, hb⟩
theorem tel_fun {a : Str} {wd : Nat → Option Str} (F : FunD K x x params body scope [] [] f fd) (hm : mg x = some (.ref f)) (hb : Binds K fd [a] []) (S : FnScope N [a] scope) (hN : N[0]? = some a) (hv : Vis scope a)
    (hG : ∀ (cdv : Value) (X : Cx) (q : Str), X.prog = P → X.w = w → X.K = K → X.mg = mg → X.base = base → GivesG X N x scope f cdv body a q (RefTT ct wd)) : Tel P w K mg base ct x a wd := by
  obtain ⟨oc, od, dV, kV, doc, pm, an, cdv, ctv, osl, rfl, lk, hcd, _, _⟩ := F.ex
  exact ⟨f, params, body, scope, dV, kV, doc, pm, cdv, ctv, oc, an, od, osl, N, hm, F.kp, lk, hcd, hb, S, hN, hv, fun X q => hG cdv X q⟩
end
end Mi

set_option maxHeartbeats 200000
namespace Mi
open PySem PySem.Spec L2

/-! ### what a mirror comes to, asked backwards -/
def Rs.wp {α : Type} (r : Rs α) (Q : α → Prop) : Prop := match r with
  | .ok a => Q a
  | _ => False
def Rs.wpS (r : Rs (Fl × Env)) (Qn : Env → Prop) (Qr : T → Env → Prop) : Prop := match r with
  | .ok (.nx, e) => Qn e
  | .ok (.rt t, e) => Qr t e
  | _ => False
section
variable {α β : Type} {Q Q' : α → Prop}
theorem wp_ok {a : α} : (Rs.ok a).wp Q = Q a := propext Iff.rfl
theorem wp_bind {r : Rs α} {f : α → Rs β} {Q : β → Prop} : (r.bind f).wp Q = r.wp fun a => (f a).wp Q := by cases r <;> rfl
theorem wp_of_some {a : α} : (Rs.of (some a)).wp Q = Q a := propext Iff.rfl
theorem Rs.wp.mono {r : Rs α} (h : r.wp Q) (i : ∀ a, Q a → Q' a) : r.wp Q' := by cases r <;> first | exact i _ h | exact h
theorem Rs.wp.eq {r : Rs α} {a : α} (h : r.wp fun x => x = a) : r = .ok a := by
  cases r with
  | ok b => exact congrArg Rs.ok (show b = a from h)
  | ex c => exact (show False from h).elim
  | no => exact (show False from h).elim
theorem Rs.wp.of {r : Rs α} {a : α} (e : r = .ok a) (h : Q a) : r.wp Q := by rw [e]; exact h
theorem Rs.wp.ex {r : Rs α} (h : r.wp Q) : ∃ a, r = .ok a ∧ Q a := by
  cases r with
  | ok b => exact ⟨b, rfl, h⟩
  | ex c => exact (show False from h).elim
  | no => exact (show False from h).elim
end
section
variable {m ms n : SM} {e env : Env} {Qn Qn' : Env → Prop} {Qr Qr' : T → Env → Prop}
theorem wpS_nx : (Rs.ok (Fl.nx, env)).wpS Qn Qr = Qn env := propext Iff.rfl
theorem wpS_rt {t : T} : (Rs.ok (Fl.rt t, env)).wpS Qn Qr = Qr t env := propext Iff.rfl
theorem Rs.wpS.mono {r : Rs (Fl × Env)} (h : r.wpS Qn Qr) (i : ∀ e, Qn e → Qn' e) (j : ∀ t e, Qr t e → Qr' t e) : r.wpS Qn' Qr' := by
  rcases r with ⟨fl, e⟩ | c | _
  · cases fl with
    | nx => exact i _ h
    | rt t => exact j _ _ h
  · exact h
  · exact h
theorem wpS_skip : (sSkip env).wpS Qn Qr = Qn env := propext Iff.rfl
theorem wpS_seq : (sSeq m ms env).wpS Qn Qr = (m env).wpS (fun e => (ms e).wpS Qn Qr) Qr := by
  unfold sSeq
  rcases m env with ⟨fl, e⟩ | c | _
  · cases fl <;> rfl
  · rfl
  · rfl
theorem wpS_ret {x : EM} : (sRet x env).wpS Qn Qr = (x env).wp fun p => Qr p.1 p.2 := by unfold sRet; cases x env <;> rfl
theorem wpS_drop {x : EM} : (sDrop x env).wpS Qn Qr = (x env).wp fun p => Qn p.2 := by unfold sDrop; cases x env <;> rfl
theorem wpS_if {c : Env → Rs (Bool × Env)} : (sIf c m n env).wpS Qn Qr = (c env).wp fun k => if k.1 then (m k.2).wpS Qn Qr else (n k.2).wpS Qn Qr := by
  unfold sIf
  rcases c env with ⟨b, e⟩ | c | _
  · cases b <;> rfl
  · rfl
  · rfl
theorem wpS_asg {x : EM} {g : T → Env → Rs Env} : (sAsg x g env).wpS Qn Qr = (x env).wp fun p => (g p.1 p.2).wp Qn := by
  unfold sAsg
  cases x env with
  | ok p => show ((g p.1 p.2).bind _).wpS _ _ = (g p.1 p.2).wp Qn; cases g p.1 p.2 <;> rfl
  | ex c => rfl
  | no => rfl
theorem wpS_asgs {x : EMs} {g : List T → Env → Rs Env} : (sAsgs x g env).wpS Qn Qr = (x env).wp fun p => (g p.1 p.2).wp Qn := by
  unfold sAsgs
  cases x env with
  | ok p => show ((g p.1 p.2).bind _).wpS _ _ = (g p.1 p.2).wp Qn; cases g p.1 p.2 <;> rfl
  | ex c => rfl
  | no => rfl
theorem wpS_for {im : Env → Rs (List PyData × Env)} {g : Tg} {b : SM} : (sFor im g b env).wpS Qn Qr = (im env).wp fun p => (fGo g b p.1 p.2).wpS Qn Qr := by unfold sFor; cases im env <;> rfl
theorem wp_fn {nP nL : Nat} {io : List Nat} {ts : List T} {Q : T × List (Option T) → Prop} : (fnM nP nL io m ts).wp Q = (m (ts.map some ++ List.replicate nL none)).wpS (fun e => Q (.d .none, outs io nP 0 e)) fun r e => Q (r, outs io nP 0 e) := by
  unfold fnM
  rcases m (ts.map some ++ List.replicate nL none) with ⟨fl, e⟩ | c | _
  · cases fl <;> rfl
  · rfl
  · rfl
/-- a for: what holds behind each turn -/
theorem wpS_fGo {g : Tg} {b : SM} (I : List PyData → Env → Prop) : ∀ (xs : List PyData) {env : Env} (_ : I xs env)
    (_ : ∀ x post env, (∃ pre, xs = pre ++ x :: post) → I (x :: post) env → ∃ env1, g.put x env = some env1 ∧ (b env1).wpS (I post) Qr) (_ : ∀ env, I [] env → Qn env), (fGo g b xs env).wpS Qn Qr
  | [], env, h, _, k => k env h
  | x :: xs, env, h, st, k => by
    obtain ⟨env1, e, hb⟩ := st x xs env ⟨[], rfl⟩ h
    unfold fGo
    rw [e]
    show (match b env1 with
      | .ok (.nx, env2) => fGo g b xs env2
      | r => r).wpS _ _
    rcases hr : b env1 with ⟨fl, e2⟩ | c | _
    · cases fl with
      | nx =>
        rw [hr] at hb
        exact wpS_fGo I xs hb (fun x' post env' ⟨pre, hp⟩ hi => st x' post env' ⟨x :: pre, by rw [hp]; rfl⟩ hi) k
      | rt t => rw [hr] at hb; exact hb
    · rw [hr] at hb; exact hb
    · rw [hr] at hb; exact hb
/-- a while: what holds ahead of each turn, with a number that falls -/
theorem wpS_wGo {c : Env → Rs (Bool × Env)} {b : SM} (I : Nat → Env → Prop) (st : ∀ k env, I k env → (c env).wp fun p => if p.1 then (b p.2).wpS (fun e => ∃ j, j < k ∧ I j e) Qr else Qn p.2) : ∀ (n k : Nat) {env : Env}, k < n → I k env → (wGo c b n env).wpS Qn Qr
  | 0, k, env, h, _ => absurd h (Nat.not_lt_zero _)
  | n + 1, k, env, h, hi => by
    have q := st k env hi
    show ((c env).bind fun k => if k.1 then (match b k.2 with
      | .ok (.nx, env2) => wGo c b n env2
      | r => r) else .ok (.nx, k.2)).wpS _ _
    cases hc : c env with
    | ex c => rw [hc] at q; exact q
    | no => rw [hc] at q; exact q
    | ok p =>
      rw [hc] at q
      rcases p with ⟨t, e⟩
      cases t with
      | false => exact q
      | true =>
        have q : (b e).wpS _ _ := q
        show (match b e with
          | .ok (.nx, env2) => wGo c b n env2
          | r => r).wpS _ _
        rcases hr : b e with ⟨fl, e2⟩ | c | _
        · cases fl with
          | nx =>
            rw [hr] at q
            obtain ⟨j, hj, hi2⟩ := q
            exact wpS_wGo I st n j (by omega) hi2
          | rt t => rw [hr] at q; exact q
        · rw [hr] at q; exact q
        · rw [hr] at q; exact q
theorem wpS_while {c : Env → Rs (Bool × Env)} {b : SM} {n : Nat} (I : Nat → Env → Prop) (k : Nat) (hk : k < n) (h : I k env) (st : ∀ k env, I k env → (c env).wp fun p => if p.1 then (b p.2).wpS (fun e => ∃ j, j < k ∧ I j e) Qr else Qn p.2) : (sWhile n c b env).wpS Qn Qr := wpS_wGo I st n k hk h
end
/-! ### comprehensions -/
section
variable {g : Tg} {tt : Env → Rs Bool} {te : PM} {env : Env}
theorem lcGo_map (f : PyData → T) : ∀ (xs : List PyData), (∀ x ∈ xs, ∃ env1, g.put x env = some env1 ∧ te env1 = .ok (f x)) → lcGo g mYes te env xs = .ok (xs.map f)
  | [], _ => rfl
  | x :: xs, h => by
    obtain ⟨env1, e1, e2⟩ := h x List.mem_cons_self
    unfold lcGo
    simp only [e1, mYes, e2, lcGo_map f xs fun y hy => h y (List.mem_cons_of_mem _ hy), List.map_cons]
theorem lcGo_filter (p : PyData → Bool) (f : PyData → T) : ∀ (xs : List PyData), (∀ x ∈ xs, ∃ env1, g.put x env = some env1 ∧ tt env1 = .ok (p x) ∧ (p x = true → te env1 = .ok (f x))) → lcGo g tt te env xs = .ok ((xs.filter p).map f)
  | [], _ => rfl
  | x :: xs, h => by
    obtain ⟨env1, e1, e2, e3⟩ := h x List.mem_cons_self
    have ih := lcGo_filter p f xs fun y hy => h y (List.mem_cons_of_mem _ hy)
    unfold lcGo
    cases hp : p x with
    | true => simp only [e1, e2, hp, e3 hp, ih, List.filter_cons_of_pos, List.map_cons]
    | false => simp only [e1, e2, hp, ih]; rw [List.filter_cons_of_neg (by simp [hp])]
end
/-! ### rows of ints and the like -/
abbrev I (i : Int) : T := .d (.int i)
abbrev B (b : Bool) : T := .d (.bool b)
def Li (ns : List Int) : T := .l (ns.map fun i => .d (.int i))
def Di (ns : List Int) : T := .d (.list (ns.map .int))
def Ti (ns : List Int) : T := .d (.tuple (ns.map .int))
theorem frzs_map (xs : List PyData) : T.frzs (xs.map .d) = xs := by
  induction xs with
  | nil => rfl
  | cons x xs ih => simp [T.frzs, T.frz, ih]
theorem frzs_ints (ns : List Int) : T.frzs (ns.map fun i => .d (.int i)) = ns.map .int := by
  have := frzs_map (ns.map .int)
  rwa [List.map_map] at this
theorem Li_frz (ns : List Int) : (Li ns).frz = .list (ns.map .int) := by rw [Li, T.frz, frzs_ints]
theorem datas_map (xs : List PyData) : T.datas (xs.map .d) = some xs := by
  induction xs with
  | nil => rfl
  | cons x xs ih => simp only [List.map_cons, T.datas, ih, Option.map_some]
theorem datas_ints (ns : List Int) : T.datas (ns.map fun i => .d (.int i)) = some (ns.map .int) := by
  induction ns with
  | nil => rfl
  | cons n ns ih => simp only [List.map_cons, T.datas, ih, Option.map_some]
end Mi

set_option maxHeartbeats 200000
namespace Mi
open PySem PySem.Spec L2

/-! ### what the operators give on known things -/
theorem wpS_seqK {m ms : SM} {env : Env} {Qn : Env → Prop} {Qr : T → Env → Prop} (h : ∀ K : Env → Prop, (∀ e, K e = (ms e).wpS Qn Qr) → (m env).wpS K Qr) : (sSeq m ms env).wpS Qn Qr := by
  rw [wpS_seq]; exact h _ fun _ => rfl
theorem bind_ok {α β : Type} {a : α} {f : α → Rs β} : (Rs.ok a).bind f = f a := Eq.trans rfl rfl
theorem wp_ite {α : Type} {c : Prop} [Decidable c] {a b : Rs α} {Q : α → Prop} : (if c then a else b).wp Q = if c then a.wp Q else b.wp Q := by split <;> rfl
theorem wpS_ite {c : Prop} [Decidable c] {a b : Rs (Fl × Env)} {Qn : Env → Prop} {Qr : T → Env → Prop} : (if c then a else b).wpS Qn Qr = if c then a.wpS Qn Qr else b.wpS Qn Qr := by split <;> rfl
/-- a factor that is small -/
def Sm (i : Int) : Prop := -18446744073709551616 < i ∧ i < 18446744073709551616
theorem ev_eqI {a b : Int} : cEq (.d (.int a)) (.d (.int b)) = some (a == b) := Eq.trans rfl rfl
theorem ev_neI {a b : Int} : cNe (.d (.int a)) (.d (.int b)) = some (a != b) := Eq.trans rfl rfl
theorem ev_ltI {a b : Int} : cLt (.d (.int a)) (.d (.int b)) = some (decide (a < b)) := Eq.trans rfl rfl
theorem ev_gtI {a b : Int} : cGt (.d (.int a)) (.d (.int b)) = some (decide (b < a)) := Eq.trans rfl rfl
theorem ev_leI {a b : Int} : cLe (.d (.int a)) (.d (.int b)) = some (decide (a ≤ b)) := Eq.trans rfl rfl
theorem ev_geI {a b : Int} : cGe (.d (.int a)) (.d (.int b)) = some (decide (b ≤ a)) := Eq.trans rfl rfl
theorem ev_addI {a b : Int} : oAdd (.d (.int a)) (.d (.int b)) = some (.d (.int (a + b))) := Eq.trans rfl rfl
theorem ev_iaddI {a b : Int} : oIAdd (.d (.int a)) (.d (.int b)) = some (.d (.int (a + b))) := Eq.trans rfl rfl
theorem ev_subI {a b : Int} : oSub (.d (.int a)) (.d (.int b)) = some (.d (.int (a - b))) := Eq.trans rfl rfl
theorem ev_negI {a : Int} : oNeg (.d (.int a)) = some (.d (.int (-a))) := Eq.trans rfl rfl
theorem ev_mulL {a b : Int} (h : Sm a) : oMul (.d (.int a)) (.d (.int b)) = some (.d (.int (a * b))) := if_pos (.inl (.inl ⟨by have := h.1; omega, by have := h.2; omega⟩))
theorem ev_mulR {a b : Int} (h : Sm b) : oMul (.d (.int a)) (.d (.int b)) = some (.d (.int (a * b))) := if_pos (.inl (.inr ⟨by have := h.1; omega, by have := h.2; omega⟩))
theorem ev_divI {a b : Int} (h : 0 < b ∧ b < 1073741824) : oDiv (.d (.int a)) (.d (.int b)) = some (.d (.int (a / b))) := if_pos (.inl h)
theorem ev_modI {a b : Int} (h : 0 < b) : oMod (.d (.int a)) (.d (.int b)) = some (.d (.int (a % b))) := if_pos h
theorem ev_powI {a b : Int} (h : CPow a b) : oPow (.d (.int a)) (.d (.int b)) = some (.d (.int (a ^ b.toNat))) := if_pos h
theorem ev_intI {a : Int} : bInt [.d (.int a)] = some (.d (.int a)) := Eq.trans rfl rfl
theorem ev_intB {b : Bool} : bInt [.d (.bool b)] = some (.d (.int (if b then 1 else 0))) := Eq.trans rfl rfl
theorem ev_absI {a : Int} : bAbs [.d (.int a)] = some (.d (.int (if a < 0 then -a else a))) := Eq.trans rfl rfl
theorem ev_lenL {ts : List T} : bLen [.l ts] = some (.d (.int ts.length)) := Eq.trans rfl rfl
theorem ev_lenD {xs : List PyData} : bLen [.d (.list xs)] = some (.d (.int xs.length)) := Eq.trans rfl rfl
theorem ev_lenT {xs : List PyData} : bLen [.d (.tuple xs)] = some (.d (.int xs.length)) := Eq.trans rfl rfl
theorem ev_cutD {xs : List PyData} {lo hi : Option Int} : sCut lo hi (.d (.list xs)) = some (.l ((cutL xs lo hi).map .d)) := Eq.trans rfl rfl
theorem ev_cutT {xs : List PyData} {lo hi : Option Int} : sCut lo hi (.d (.tuple xs)) = some (.d (.tuple (cutL xs lo hi))) := Eq.trans rfl rfl
theorem ev_cutL {xs : List PyData} {lo hi : Option Int} : sCut lo hi (.l (xs.map .d)) = some (.l ((cutL xs lo hi).map .d)) := by show (T.datas _).map _ = _; rw [datas_map]; rfl
theorem cut_to {α : Type} {xs : List α} {k : Nat} : cutL xs none (some (k : Int)) = xs.take k := by
  unfold cutL
  rw [HT.sIx_nat, HT.sIx_none, List.drop_zero, Nat.sub_zero, Nat.min_comm]
  rcases Nat.le_total xs.length k with h | h
  · rw [Nat.min_eq_left h, List.take_length, List.take_of_length_le h]
  · rw [Nat.min_eq_right h]
theorem cut_from {α : Type} {xs : List α} {k : Nat} : cutL xs (some (k : Int)) none = xs.drop k := by
  unfold cutL
  rw [HT.sIx_nat, HT.sIx_none]
  rcases Nat.le_total xs.length k with h | h
  · rw [Nat.min_eq_right h, List.drop_length, List.take_nil, List.drop_of_length_le h]
  · rw [Nat.min_eq_left h]; exact List.take_of_length_le (by simp)
theorem ev_minI {a b : Int} : bMin [.d (.int a), .d (.int b)] = some (.d (.int (min a b))) := Eq.trans rfl rfl
theorem ev_maxI {a b : Int} : bMax [.d (.int a), .d (.int b)] = some (.d (.int (max a b))) := Eq.trans rfl rfl
theorem ev_tupL {xs : List PyData} : bTuple [.l (xs.map .d)] = some (.d (.tuple xs)) := by show (T.datas _).map _ = _; rw [datas_map]; rfl
theorem ev_tupD {xs : List PyData} : bTuple [.d (.list xs)] = some (.d (.tuple xs)) := Eq.trans rfl rfl
theorem ev_tupT {xs : List PyData} : bTuple [.d (.tuple xs)] = some (.d (.tuple xs)) := Eq.trans rfl rfl
theorem ev_listD {xs : List PyData} : bList [.d (.list xs)] = some (.l (xs.map .d)) := Eq.trans rfl rfl
theorem ev_listT {xs : List PyData} : bList [.d (.tuple xs)] = some (.l (xs.map .d)) := Eq.trans rfl rfl
theorem ev_listL {xs : List PyData} : bList [.l (xs.map .d)] = some (.l (xs.map .d)) := by show (T.datas _).map _ = _; rw [datas_map]; rfl
theorem ev_getL {ts : List T} {i : Int} : iGet (.l ts) (.d (.int i)) = L2.atI ts i := Eq.trans rfl rfl
theorem ev_getD {xs : List PyData} {i : Int} : iGet (.d (.list xs)) (.d (.int i)) = (L2.atI xs i).map .d := Eq.trans rfl rfl
theorem ev_getT {xs : List PyData} {i : Int} : iGet (.d (.tuple xs)) (.d (.int i)) = (L2.atI xs i).map .d := Eq.trans rfl rfl
theorem atI_nat {α : Type} {xs : List α} {i : Nat} : L2.atI xs (i : Int) = xs[i]? := by
  unfold L2.atI ixN
  rw [if_pos (by omega)]
  by_cases h : i < xs.length
  · rw [if_pos (by omega)]; simp
  · rw [if_neg (by omega), List.getElem?_eq_none (by omega)]; rfl
theorem atI_0 {α : Type} {a : α} {xs : List α} : L2.atI (a :: xs) 0 = some a := atI_nat (i := 0)
theorem atI_1 {α : Type} {a b : α} {xs : List α} : L2.atI (a :: b :: xs) 1 = some b := atI_nat (i := 1)
theorem atI_2 {α : Type} {a b c : α} {xs : List α} : L2.atI (a :: b :: c :: xs) 2 = some c := atI_nat (i := 2)
theorem atI_3 {α : Type} {a b c d : α} {xs : List α} : L2.atI (a :: b :: c :: d :: xs) 3 = some d := atI_nat (i := 3)
theorem atI_4 {α : Type} {a b c d e : α} {xs : List α} : L2.atI (a :: b :: c :: d :: e :: xs) 4 = some e := atI_nat (i := 4)
theorem ev_sz : sizeLine = 16777216 := Eq.trans rfl rfl
theorem atI_end {α : Type} {a : α} {xs : List α} : L2.atI (xs ++ [a]) (-1) = some a := by
  unfold L2.atI ixN
  rw [if_neg (by omega), if_pos (by simp; omega)]
  show (xs ++ [a])[(-1 + ((xs ++ [a]).length : Int)).toNat]? = _
  have e : (-1 + ((xs ++ [a]).length : Int)).toNat = xs.length := by simp; omega
  rw [e]
  simp
theorem atI_mem {α : Type} {xs : List α} {i : Int} (h0 : 0 ≤ i) (h1 : i < xs.length) : ∃ x ∈ xs, L2.atI xs i = some x := by
  obtain ⟨n, rfl⟩ := Int.eq_ofNat_of_zero_le h0
  rw [atI_nat]
  have h : n < xs.length := by omega
  exact ⟨xs[n], List.getElem_mem h, List.getElem?_eq_getElem h⟩
theorem ixN_nat {n i : Nat} (h : i < n) : ixN n (i : Int) = some i := by unfold ixN; rw [if_pos (by omega), if_pos (by omega)]; simp
theorem ixN_0 {n : Nat} : ixN (n + 1) 0 = some 0 := ixN_nat (i := 0) (by omega)
theorem ixN_1 {n : Nat} : ixN (n + 2) 1 = some 1 := ixN_nat (i := 1) (by omega)
theorem ixN_2 {n : Nat} : ixN (n + 3) 2 = some 2 := ixN_nat (i := 2) (by omega)
theorem ixN_3 {n : Nat} : ixN (n + 4) 3 = some 3 := ixN_nat (i := 3) (by omega)
theorem ixN_4 {n : Nat} : ixN (n + 5) 4 = some 4 := ixN_nat (i := 4) (by omega)
theorem put_0 {o : Option T} {env : Env} {t : T} : Env.put (o :: env) 0 t = some (some t :: env) := Eq.trans rfl rfl
theorem put_s {o : Option T} {env : Env} {t : T} {i : Nat} : Env.put (o :: env) (i + 1) t = (env.put i t).map (o :: ·) := by
  unfold Env.put
  by_cases h : i < env.length
  · rw [if_pos h, if_pos (by simp; omega)]; rfl
  · rw [if_neg h, if_neg (by simp; omega)]; rfl
theorem tg_nm {i : Nat} {x : PyData} {env : Env} : Tg.put (.nm i) x env = env.put i (.d x) := by rw [Tg.put]
theorem tg_tp {gs : List Tg} {xs : List PyData} {env : Env} : Tg.put (.tp gs) (.tuple xs) env = Tg.puts gs xs env := by rw [Tg.put]
theorem tgs_nil {env : Env} : Tg.puts [] [] env = some env := by rw [Tg.puts]
theorem tgs_cons {g : Tg} {gs : List Tg} {x : PyData} {xs : List PyData} {env : Env} : Tg.puts (g :: gs) (x :: xs) env = (Tg.put g x env).bind fun e => Tg.puts gs xs e := by
  rw [Tg.puts]
  cases Tg.put g x env <;> rfl
theorem frz_d {x : PyData} : (T.d x).frz = x := by rw [T.frz]
theorem frz_l {xs : List T} : (T.l xs).frz = .list (T.frzs xs) := by rw [T.frz]
theorem frzs_n : T.frzs [] = [] := by rw [T.frzs]
theorem frzs_c {x : T} {xs : List T} : T.frzs (x :: xs) = x.frz :: T.frzs xs := by rw [T.frzs]
theorem pb_nil {us : List (Option T)} {env : Env} : putBack [] us env = some env := by rw [putBack]
theorem pb_none {ls : List (Option Nat)} {u : Option T} {us : List (Option T)} {env : Env} : putBack (none :: ls) (u :: us) env = putBack ls us env := by rw [putBack]
theorem pb_some {j : Nat} {ls : List (Option Nat)} {u : T} {us : List (Option T)} {env : Env} : putBack (some j :: ls) (some u :: us) env = match env[j]? with
    | some none => putBack ls us (env.set j (some u))
    | _ => none := by rw [putBack] <;> rfl
theorem outs_z {io : List Nat} {i : Nat} {env : Env} : Mi.outs io 0 i env = [] := by rw [Mi.outs]
theorem outs_s {io : List Nat} {n i : Nat} {o : Option T} {env : Env} : Mi.outs io (n + 1) i (o :: env) = (if io.contains i then o else none) :: Mi.outs io n (i + 1) env := by rw [Mi.outs]
theorem it_L {xs : List PyData} : itemsOf true (.l (xs.map .d)) = some xs := by show T.datas _ = _; rw [datas_map]
theorem it_D {w : Bool} {xs : List PyData} : itemsOf w (.d (.list xs)) = some xs := Eq.trans rfl rfl
theorem it_T {w : Bool} {xs : List PyData} : itemsOf w (.d (.tuple xs)) = some xs := Eq.trans rfl rfl
theorem it_S {w : Bool} {x : Str} : itemsOf w (.d (.str x)) = some (chars x) := Eq.trans rfl rfl
theorem of_some {α : Type} {a : α} : Rs.of (some a) = .ok a := Eq.trans rfl rfl
theorem of_none {α : Type} : Rs.of (none : Option α) = .no := Eq.trans rfl rfl
theorem cast0 : ((0 : Nat) : Int) = 0 := Eq.trans rfl rfl
theorem cast1 : ((1 : Nat) : Int) = 1 := Eq.trans rfl rfl
theorem dropL_n {env : Env} : dropL (none :: env) = none :: dropL env := Eq.trans rfl rfl
theorem dropL_d {x : PyData} {env : Env} : dropL (some (.d x) :: env) = some (.d x) :: dropL env := Eq.trans rfl rfl
theorem dropL_l {x : List T} {env : Env} : dropL (some (.l x) :: env) = none :: dropL env := Eq.trans rfl rfl
/-- an error of class c -/
def exB {α : Type} (c : Nat) (r : Rs α) : Bool := match r with
  | .ex d => d == c
  | _ => false
def okB {α : Type} (r : Rs α) : Bool := match r with
  | .ok _ => true
  | _ => false
theorem exB_eq {α : Type} {c : Nat} {r : Rs α} (h : exB c r = true) : r = .ex c := by
  unfold exB at h
  split at h
  · rw [beq_iff_eq] at h; subst h; rfl
  · cases h
theorem okB_eq {α : Type} {r : Rs α} (h : okB r = true) : ∃ p, r = .ok p := by
  unfold okB at h
  split at h
  · exact ⟨_, rfl⟩
  · cases h
section
variable {wd : Nat → Option Str} {f : FM} {ps : PMs} {ms : SM} {i c : Nat} {ts ws : List T} {w : Str} {env : Env} {Qn : Env → Prop} {Qr : T → Env → Prop}
/-- one more word of a refusal -/
theorem seq_ref (ws : List T) (ts : List T) {env' : Env} (h1 : env[i]? = some (some (.l ws))) (h2 : ws.length < 1000) (hp : ps (dropL env) = .ok ts) (hf : f ts = .ex c) (hw : wd c = some w) (he : env.set i (some (.l (ws ++ [.d (.str w)]))) = env') (k : (ms env').wpS Qn Qr) :
    (sSeq (sDrop (eApnd i (eRef wd (mCall f ps)))) ms env).wpS Qn Qr := by
  subst he
  rw [wpS_seq, wpS_drop]
  unfold eApnd
  simp only [h1, wp_bind]
  unfold eRef mCall
  simp only [hp, bind_ok, hf, Rs.bind, hw, Rs.of, wp_ok, h1]
  rw [if_pos (by have : sizeLine = 16777216 := rfl; omega)]
  exact k
theorem seq_let {p : T × List (Option T)} (ws : List T) (ts : List T) {env' : Env} (h1 : env[i]? = some (some (.l ws))) (h2 : ws.length < 1000) (hp : ps (dropL env) = .ok ts) (hf : f ts = .ok p) (he : env.set i (some (.l (ws ++ [.d (.str "let")]))) = env') (k : (ms env').wpS Qn Qr) :
    (sSeq (sDrop (eApnd i (eRef wd (mCall f ps)))) ms env).wpS Qn Qr := by
  subst he
  rw [wpS_seq, wpS_drop]
  unfold eApnd
  simp only [h1, wp_bind]
  unfold eRef mCall
  simp only [hp, bind_ok, hf, Rs.bind, wp_ok, h1]
  rw [if_pos (by have : sizeLine = 16777216 := rfl; omega)]
  exact k
/-- the whole row of words is the one that is due -/
theorem seq_due {us : List T} {j : Nat} {p : PM} (h1 : p env = .ok (.l us)) (h2 : j < env.length) (h3 : cEq (.l ws) (.l us) = some true) (h4 : env[i]? = some (some (.l ws))) (hij : i ≠ j) (k : Qr (.d (.bool true)) (env.set j (some (.l us)))) :
    (sSeq (sAsg (eP p) (gNm j)) (sSeq (sRet (eP (mCmp cEq (mVar i) (mVar j)))) ms) env).wpS Qn Qr := by
  have e1 : (env.set j (some (.l us)))[i]? = some (some (.l ws)) := by rw [List.getElem?_set_ne (fun z => hij z.symm)]; exact h4
  have e2 : (env.set j (some (T.l us)))[j]? = some (some (.l us)) := by rw [List.getElem?_set_self h2]
  rw [wpS_seq, wpS_asg]
  unfold eP gNm Env.put
  simp only [h1, bind_ok, wp_ok, if_pos h2, wp_of_some, wpS_seq, wpS_ret, mCmp, mVar, e1, e2, h3, Rs.of]
  exact k
end
end Mi

set_option maxHeartbeats 200000
namespace Mi
open PySem PySem.Spec L2

/-! ### the hand: drawn numbers -/
def bHandH (p q : Int) : SM := (sSeq (sAsg (eP (mLc (mItems true (mSlice (mVar 0) none (some (mK (.int 59))))) (.nm 2) mYes (mApp bAbs (mCons (mApp bInt (mCons (mVar 2) mNil)) mNil)) [2])) (gNm 1))
    (sSeq (sRet (eLstS (eCons (eFrz 1) (eCons (eP (mK (.int 0))) (eCons (eP (mK (.int 0))) (eCons (eP (mBin oAdd (mK (.int p)) (mBin oMul (mK (.int q)) (mApp bLen (mCons (mVar 1) mNil))))) (eCons (eP (mK (.int 0))) eNil)))))))
    sSkip))
def bDrawH (q : Int) : SM := (sSeq (sIf (eTest (mAndT (mCmpT cEq (mBin iGet (mVar 0) (mK (.int 2))) (mK (.int 0))) (mCmpT cLt (mBin iGet (mVar 0) (mK (.int 1))) (mApp bLen (mCons (mBin iGet (mVar 0) (mK (.int 0))) mNil))))) (sSeq (sAsg (eP (mD (mBin iGet (mBin iGet (mVar 0) (mK (.int 0))) (mBin iGet (mVar 0) (mK (.int 1)))))) (gNm 3))
    (sSeq (sAsg (eP (mBin oAdd (mBin iGet (mVar 0) (mK (.int 1))) (mK (.int 1)))) (gIx 0 (mK (.int 1))))
    (sSeq (sAsg (eP (mBin oMod (mApp bInt (mCons (mBin oAdd (mBin oAdd (mBin oMul (mBin iGet (mVar 0) (mK (.int 3))) (mK (.int 69621))) (mBin oMul (mVar 3) (mK (.int 40692)))) (mK (.int q))) mNil)) (mK (.int 2147483629)))) (gIx 0 (mK (.int 3))))
    (sSeq (sIf (eTest (mCmpT cGe (mVar 3) (mBin oPow (mK (.int 10)) (mK (.int 18))))) (sSeq (sAsg (eFrz 3) (gIx 0 (mK (.int 2))))
    sSkip) sSkip)
    sSkip)))) sSkip)
    (sSeq (sIf (eTest (mCmpT cGt (mBin iGet (mVar 0) (mK (.int 2))) (mK (.int 0)))) (sSeq (sAsg (eP (mBin oMod (mApp bInt (mCons (mBin iGet (mVar 0) (mK (.int 2))) mNil)) (mVar 1))) (gNm 4))
    (sSeq (sAsg (eP (mBin oDiv (mBin iGet (mVar 0) (mK (.int 2))) (mVar 1))) (gIx 0 (mK (.int 2))))
    (sSeq (sRet (eMov 4))
    sSkip))) sSkip)
    (sSeq (sAsg (eP (mBin oAdd (mBin iGet (mVar 0) (mK (.int 4))) (mK (.int 1)))) (gIx 0 (mK (.int 4))))
    (sSeq (sAsg (eP (mBin oMod (mApp bInt (mCons (mBin oMul (mApp bInt (mCons (mBin oAdd (mBin iGet (mVar 0) (mK (.int 3))) (mBin oMul (mK (.int 7919)) (mBin iGet (mVar 0) (mK (.int 4))))) mNil)) (mK (.int 48271))) mNil)) (mK (.int 2147483647)))) (gNm 2))
    (sSeq (sAsg (eP (mBin oMod (mApp bInt (mCons (mBin oMul (mVar 2) (mBin oAdd (mBin oDiv (mVar 2) (mK (.int 1009))) (mK (.int 69621)))) mNil)) (mK (.int 2147483647)))) (gNm 2))
    (sSeq (sAsg (eP (mBin oMod (mApp bInt (mCons (mBin oMul (mVar 2) (mBin oAdd (mBin oDiv (mVar 2) (mK (.int 2003))) (mK (.int 40014)))) mNil)) (mK (.int 2147483563)))) (gNm 2))
    (sSeq (sRet (eP (mBin oMod (mApp bInt (mCons (mBin oDiv (mVar 2) (mK (.int 16))) mNil)) (mVar 1))))
    sSkip)))))))
def bAnyH (dr : FM) : SM := (sSeq (sRet (eIx (eFrz 1) (eCall dr [some 0, none] (eCons (eMov 0) (eCons (eFr (eP (mApp bLen (mCons (mVar 1) mNil)))) eNil)))))
    sSkip)
def fHandH (p q : Int) : FM := fnM 1 2 [] (bHandH p q)
def fDrawH (q : Int) : FM := fnM 2 3 [0] (bDrawH q)
def fAnyH (q : Int) : FM := fnM 2 0 [0] (bAnyH (fDrawH q))
def HandT (cells : List Int) (p g m c : Int) : T := .l [.d (.list (cells.map .int)), .d (.int p), .d (.int g), .d (.int m), .d (.int c)]
/-- a hand from which numbers may be drawn -/
def HandOk (t : T) : Prop := ∃ (cells : List Int) (p g m c : Int), 0 ≤ p ∧ t = HandT cells p g m c
theorem draw_ok {q many : Int} {h : T} (hh : HandOk h) (h0 : 0 < many) (h1 : many < 1073741824) : (fDrawH q [h, .d (.int many)]).wp fun r => ∃ (d : Int) (h' : T), r = (.d (.int d), [some h', none]) ∧ 0 ≤ d ∧ d < many ∧ HandOk h' := by
  obtain ⟨cells, p, g, m, c, hp, rfl⟩ := hh
  unfold fDrawH
  rw [wp_fn]
  unfold bDrawH HandT
  have sm : ∀ {i : Int}, 0 < i → i < 2147483648 → Sm i := fun h1 h2 => ⟨by omega, by omega⟩
  refine wpS_seqK fun K hK => ?_
  have hk : ∀ g m c x p, 0 ≤ p → K [some (HandT cells p g m c), some (.d (.int many)), none, x, none] := by
    intro g m c x p hp
    rw [hK]
    clear hK
    unfold HandT
    refine wpS_seqK fun K2 hK2 => ?_
    simp only [wpS_if, wpS_asg, wpS_asgs, wpS_ret, wpS_drop, wpS_skip, wpS_for, wpS_nx, wpS_rt, wp_bind, wp_ok, wp_of_some, eTest, eP, eB, eFr, eFrs, eMov, eFrz, eCons, eNil, eLend, eBin, eCmp, eCmpT, e2, eApp, eTupS, eLstS, eIx, tD, eUn, eTrue, eNotT, eIf, eCall, mCall, pb_nil, pb_none, pb_some, eApnd, eExtd, ePop, ePopAt, eAndT, eOrT, iP, iE, iOne, mVar, mD, mK, mBin, mCmp, mCmpT, mChainT, mOfT, tTrue, mTrue, mAnd, mOr, mNot, mAndT, mOrT, mNotT, mIf, mUn, mNil, mCons, mApp, mTupS, mLstS, mPart, mSlice, tInt, mSliceR, mItems, mItA, mMeth, isLs, isTp, isSt, sAug, sAugI, gNm, gIx, gIx2, gPat, gTwo, gThree, gsNil, gsCons, tg_nm, tg_tp, tgs_nil, tgs_cons, Option.bind_some, of_some, of_none, bind_ok, wp_ite, wpS_ite, ev_eqI, ev_neI, ev_ltI, ev_gtI, ev_leI, ev_geI, ev_addI, ev_iaddI, ev_subI, ev_negI, ev_divI, ev_modI, ev_intI, ev_intB, ev_absI, ev_lenL, ev_lenD, ev_lenT, ev_minI, ev_maxI, ev_tupL, ev_tupD, ev_tupT, ev_listD, ev_listT, ev_listL, ev_getL, ev_getD, ev_getT, atI_0, atI_1, atI_2, atI_3, atI_4, atI_end, ev_sz, ixN_0, ixN_1, ixN_2, ixN_3, ixN_4, put_0, put_s, List.map_cons, List.map_nil, List.replicate_succ, List.replicate_zero, List.cons_append, List.nil_append, List.length_cons, List.length_nil, List.set_cons_zero, List.set_cons_succ, List.getElem?_cons_zero, List.getElem?_cons_succ, Option.map_some, Option.map_none, frz_d, frz_l, frzs_n, frzs_c, frzs_map, frzs_ints, outs_z, outs_s, List.contains_cons, List.contains_nil, decide_eq_true_eq, beq_iff_eq, bne_iff_ne, if_true, if_false, Bool.false_eq_true, Bool.not_eq_true, Bool.or_false, Bool.or_true, Bool.not_true, Bool.not_false, Nat.reduceAdd, Nat.reduceSub, Nat.reduceLT, Nat.reduceLeDiff, Nat.reduceBEq, Nat.reduceEqDiff, Int.reduceLT, Int.reduceLE, Int.reduceEq, Int.reduceNeg, Int.reducePow, Int.reduceToNat, Nat.zero_add, and_self, and_true, true_and, reduceIte, ev_cutD, ev_cutT, ev_cutL, it_L, it_D, it_T, it_S, cast0, cast1, Int.add_zero, Int.zero_add, Bool.and_true, Bool.true_and, Bool.and_self, Bool.and_false, Bool.false_and]
    by_cases hg : 0 < g
    · simp only [hg, h0, h1, wpS_seq, wpS_if, wpS_asg, wpS_asgs, wpS_ret, wpS_drop, wpS_skip, wpS_for, wpS_nx, wpS_rt, wp_bind, wp_ok, wp_of_some, eTest, eP, eB, eFr, eFrs, eMov, eFrz, eCons, eNil, eLend, eBin, eCmp, eCmpT, e2, eApp, eTupS, eLstS, eIx, tD, eUn, eTrue, eNotT, eIf, eCall, mCall, pb_nil, pb_none, pb_some, eApnd, eExtd, ePop, ePopAt, eAndT, eOrT, iP, iE, iOne, mVar, mD, mK, mBin, mCmp, mCmpT, mChainT, mOfT, tTrue, mTrue, mAnd, mOr, mNot, mAndT, mOrT, mNotT, mIf, mUn, mNil, mCons, mApp, mTupS, mLstS, mPart, mSlice, tInt, mSliceR, mItems, mItA, mMeth, isLs, isTp, isSt, sAug, sAugI, gNm, gIx, gIx2, gPat, gTwo, gThree, gsNil, gsCons, tg_nm, tg_tp, tgs_nil, tgs_cons, Option.bind_some, of_some, of_none, bind_ok, wp_ite, wpS_ite, ev_eqI, ev_neI, ev_ltI, ev_gtI, ev_leI, ev_geI, ev_addI, ev_iaddI, ev_subI, ev_negI, ev_divI, ev_modI, ev_intI, ev_intB, ev_absI, ev_lenL, ev_lenD, ev_lenT, ev_minI, ev_maxI, ev_tupL, ev_tupD, ev_tupT, ev_listD, ev_listT, ev_listL, ev_getL, ev_getD, ev_getT, atI_0, atI_1, atI_2, atI_3, atI_4, atI_end, ev_sz, ixN_0, ixN_1, ixN_2, ixN_3, ixN_4, put_0, put_s, List.map_cons, List.map_nil, List.replicate_succ, List.replicate_zero, List.cons_append, List.nil_append, List.length_cons, List.length_nil, List.set_cons_zero, List.set_cons_succ, List.getElem?_cons_zero, List.getElem?_cons_succ, Option.map_some, Option.map_none, frz_d, frz_l, frzs_n, frzs_c, frzs_map, frzs_ints, outs_z, outs_s, List.contains_cons, List.contains_nil, decide_eq_true_eq, beq_iff_eq, bne_iff_ne, if_true, if_false, Bool.false_eq_true, Bool.not_eq_true, Bool.or_false, Bool.or_true, Bool.not_true, Bool.not_false, Nat.reduceAdd, Nat.reduceSub, Nat.reduceLT, Nat.reduceLeDiff, Nat.reduceBEq, Nat.reduceEqDiff, Int.reduceLT, Int.reduceLE, Int.reduceEq, Int.reduceNeg, Int.reducePow, Int.reduceToNat, Nat.zero_add, and_self, and_true, true_and, reduceIte, ev_cutD, ev_cutT, ev_cutL, it_L, it_D, it_T, it_S, cast0, cast1, Int.add_zero, Int.zero_add, Bool.and_true, Bool.true_and, Bool.and_self, Bool.and_false, Bool.false_and]
      exact ⟨_, _, rfl, Int.emod_nonneg _ (by omega), Int.emod_lt_of_pos _ h0, cells, p, g / many, m, c, hp, rfl⟩
    · simp only [hg, wpS_if, wpS_asg, wpS_asgs, wpS_ret, wpS_drop, wpS_skip, wpS_for, wpS_nx, wpS_rt, wp_bind, wp_ok, wp_of_some, eTest, eP, eB, eFr, eFrs, eMov, eFrz, eCons, eNil, eLend, eBin, eCmp, eCmpT, e2, eApp, eTupS, eLstS, eIx, tD, eUn, eTrue, eNotT, eIf, eCall, mCall, pb_nil, pb_none, pb_some, eApnd, eExtd, ePop, ePopAt, eAndT, eOrT, iP, iE, iOne, mVar, mD, mK, mBin, mCmp, mCmpT, mChainT, mOfT, tTrue, mTrue, mAnd, mOr, mNot, mAndT, mOrT, mNotT, mIf, mUn, mNil, mCons, mApp, mTupS, mLstS, mPart, mSlice, tInt, mSliceR, mItems, mItA, mMeth, isLs, isTp, isSt, sAug, sAugI, gNm, gIx, gIx2, gPat, gTwo, gThree, gsNil, gsCons, tg_nm, tg_tp, tgs_nil, tgs_cons, Option.bind_some, of_some, of_none, bind_ok, wp_ite, wpS_ite, ev_eqI, ev_neI, ev_ltI, ev_gtI, ev_leI, ev_geI, ev_addI, ev_iaddI, ev_subI, ev_negI, ev_divI, ev_modI, ev_intI, ev_intB, ev_absI, ev_lenL, ev_lenD, ev_lenT, ev_minI, ev_maxI, ev_tupL, ev_tupD, ev_tupT, ev_listD, ev_listT, ev_listL, ev_getL, ev_getD, ev_getT, atI_0, atI_1, atI_2, atI_3, atI_4, atI_end, ev_sz, ixN_0, ixN_1, ixN_2, ixN_3, ixN_4, put_0, put_s, List.map_cons, List.map_nil, List.replicate_succ, List.replicate_zero, List.cons_append, List.nil_append, List.length_cons, List.length_nil, List.set_cons_zero, List.set_cons_succ, List.getElem?_cons_zero, List.getElem?_cons_succ, Option.map_some, Option.map_none, frz_d, frz_l, frzs_n, frzs_c, frzs_map, frzs_ints, outs_z, outs_s, List.contains_cons, List.contains_nil, decide_eq_true_eq, beq_iff_eq, bne_iff_ne, if_true, if_false, Bool.false_eq_true, Bool.not_eq_true, Bool.or_false, Bool.or_true, Bool.not_true, Bool.not_false, Nat.reduceAdd, Nat.reduceSub, Nat.reduceLT, Nat.reduceLeDiff, Nat.reduceBEq, Nat.reduceEqDiff, Int.reduceLT, Int.reduceLE, Int.reduceEq, Int.reduceNeg, Int.reducePow, Int.reduceToNat, Nat.zero_add, and_self, and_true, true_and, reduceIte, ev_cutD, ev_cutT, ev_cutL, it_L, it_D, it_T, it_S, cast0, cast1, Int.add_zero, Int.zero_add, Bool.and_true, Bool.true_and, Bool.and_self, Bool.and_false, Bool.false_and]
      rw [hK2]
      clear hK2 K2 K
      simp only [wpS_seq, h0, ev_mulL (sm (i := 7919) (by decide) (by decide)), ev_mulR (sm (i := 48271) (by decide) (by decide)), wpS_if, wpS_asg, wpS_asgs, wpS_ret, wpS_drop, wpS_skip, wpS_for, wpS_nx, wpS_rt, wp_bind, wp_ok, wp_of_some, eTest, eP, eB, eFr, eFrs, eMov, eFrz, eCons, eNil, eLend, eBin, eCmp, eCmpT, e2, eApp, eTupS, eLstS, eIx, tD, eUn, eTrue, eNotT, eIf, eCall, mCall, pb_nil, pb_none, pb_some, eApnd, eExtd, ePop, ePopAt, eAndT, eOrT, iP, iE, iOne, mVar, mD, mK, mBin, mCmp, mCmpT, mChainT, mOfT, tTrue, mTrue, mAnd, mOr, mNot, mAndT, mOrT, mNotT, mIf, mUn, mNil, mCons, mApp, mTupS, mLstS, mPart, mSlice, tInt, mSliceR, mItems, mItA, mMeth, isLs, isTp, isSt, sAug, sAugI, gNm, gIx, gIx2, gPat, gTwo, gThree, gsNil, gsCons, tg_nm, tg_tp, tgs_nil, tgs_cons, Option.bind_some, of_some, of_none, bind_ok, wp_ite, wpS_ite, ev_eqI, ev_neI, ev_ltI, ev_gtI, ev_leI, ev_geI, ev_addI, ev_iaddI, ev_subI, ev_negI, ev_divI, ev_modI, ev_intI, ev_intB, ev_absI, ev_lenL, ev_lenD, ev_lenT, ev_minI, ev_maxI, ev_tupL, ev_tupD, ev_tupT, ev_listD, ev_listT, ev_listL, ev_getL, ev_getD, ev_getT, atI_0, atI_1, atI_2, atI_3, atI_4, atI_end, ev_sz, ixN_0, ixN_1, ixN_2, ixN_3, ixN_4, put_0, put_s, List.map_cons, List.map_nil, List.replicate_succ, List.replicate_zero, List.cons_append, List.nil_append, List.length_cons, List.length_nil, List.set_cons_zero, List.set_cons_succ, List.getElem?_cons_zero, List.getElem?_cons_succ, Option.map_some, Option.map_none, frz_d, frz_l, frzs_n, frzs_c, frzs_map, frzs_ints, outs_z, outs_s, List.contains_cons, List.contains_nil, decide_eq_true_eq, beq_iff_eq, bne_iff_ne, if_true, if_false, Bool.false_eq_true, Bool.not_eq_true, Bool.or_false, Bool.or_true, Bool.not_true, Bool.not_false, Nat.reduceAdd, Nat.reduceSub, Nat.reduceLT, Nat.reduceLeDiff, Nat.reduceBEq, Nat.reduceEqDiff, Int.reduceLT, Int.reduceLE, Int.reduceEq, Int.reduceNeg, Int.reducePow, Int.reduceToNat, Nat.zero_add, and_self, and_true, true_and, reduceIte, ev_cutD, ev_cutT, ev_cutL, it_L, it_D, it_T, it_S, cast0, cast1, Int.add_zero, Int.zero_add, Bool.and_true, Bool.true_and, Bool.and_self, Bool.and_false, Bool.false_and]
      have p1 : ∀ z : Int, Sm (z % 2147483647) := fun z => by have := Int.emod_nonneg z (b := 2147483647) (by omega); have := Int.emod_lt_of_pos z (b := 2147483647) (by omega); exact ⟨by omega, by omega⟩
      simp only [ev_mulL (p1 _), h0, wpS_if, wpS_asg, wpS_asgs, wpS_ret, wpS_drop, wpS_skip, wpS_for, wpS_nx, wpS_rt, wp_bind, wp_ok, wp_of_some, eTest, eP, eB, eFr, eFrs, eMov, eFrz, eCons, eNil, eLend, eBin, eCmp, eCmpT, e2, eApp, eTupS, eLstS, eIx, tD, eUn, eTrue, eNotT, eIf, eCall, mCall, pb_nil, pb_none, pb_some, eApnd, eExtd, ePop, ePopAt, eAndT, eOrT, iP, iE, iOne, mVar, mD, mK, mBin, mCmp, mCmpT, mChainT, mOfT, tTrue, mTrue, mAnd, mOr, mNot, mAndT, mOrT, mNotT, mIf, mUn, mNil, mCons, mApp, mTupS, mLstS, mPart, mSlice, tInt, mSliceR, mItems, mItA, mMeth, isLs, isTp, isSt, sAug, sAugI, gNm, gIx, gIx2, gPat, gTwo, gThree, gsNil, gsCons, tg_nm, tg_tp, tgs_nil, tgs_cons, Option.bind_some, of_some, of_none, bind_ok, wp_ite, wpS_ite, ev_eqI, ev_neI, ev_ltI, ev_gtI, ev_leI, ev_geI, ev_addI, ev_iaddI, ev_subI, ev_negI, ev_divI, ev_modI, ev_intI, ev_intB, ev_absI, ev_lenL, ev_lenD, ev_lenT, ev_minI, ev_maxI, ev_tupL, ev_tupD, ev_tupT, ev_listD, ev_listT, ev_listL, ev_getL, ev_getD, ev_getT, atI_0, atI_1, atI_2, atI_3, atI_4, atI_end, ev_sz, ixN_0, ixN_1, ixN_2, ixN_3, ixN_4, put_0, put_s, List.map_cons, List.map_nil, List.replicate_succ, List.replicate_zero, List.cons_append, List.nil_append, List.length_cons, List.length_nil, List.set_cons_zero, List.set_cons_succ, List.getElem?_cons_zero, List.getElem?_cons_succ, Option.map_some, Option.map_none, frz_d, frz_l, frzs_n, frzs_c, frzs_map, frzs_ints, outs_z, outs_s, List.contains_cons, List.contains_nil, decide_eq_true_eq, beq_iff_eq, bne_iff_ne, if_true, if_false, Bool.false_eq_true, Bool.not_eq_true, Bool.or_false, Bool.or_true, Bool.not_true, Bool.not_false, Nat.reduceAdd, Nat.reduceSub, Nat.reduceLT, Nat.reduceLeDiff, Nat.reduceBEq, Nat.reduceEqDiff, Int.reduceLT, Int.reduceLE, Int.reduceEq, Int.reduceNeg, Int.reducePow, Int.reduceToNat, Nat.zero_add, and_self, and_true, true_and, reduceIte, ev_cutD, ev_cutT, ev_cutL, it_L, it_D, it_T, it_S, cast0, cast1, Int.add_zero, Int.zero_add, Bool.and_true, Bool.true_and, Bool.and_self, Bool.and_false, Bool.false_and]
      exact ⟨_, _, rfl, Int.emod_nonneg _ (by omega), Int.emod_lt_of_pos _ h0, cells, p, g, m, c + 1, hp, rfl⟩
  simp only [wpS_if, wpS_asg, wpS_asgs, wpS_ret, wpS_drop, wpS_skip, wpS_for, wpS_nx, wpS_rt, wp_bind, wp_ok, wp_of_some, eTest, eP, eB, eFr, eFrs, eMov, eFrz, eCons, eNil, eLend, eBin, eCmp, eCmpT, e2, eApp, eTupS, eLstS, eIx, tD, eUn, eTrue, eNotT, eIf, eCall, mCall, pb_nil, pb_none, pb_some, eApnd, eExtd, ePop, ePopAt, eAndT, eOrT, iP, iE, iOne, mVar, mD, mK, mBin, mCmp, mCmpT, mChainT, mOfT, tTrue, mTrue, mAnd, mOr, mNot, mAndT, mOrT, mNotT, mIf, mUn, mNil, mCons, mApp, mTupS, mLstS, mPart, mSlice, tInt, mSliceR, mItems, mItA, mMeth, isLs, isTp, isSt, sAug, sAugI, gNm, gIx, gIx2, gPat, gTwo, gThree, gsNil, gsCons, tg_nm, tg_tp, tgs_nil, tgs_cons, Option.bind_some, of_some, of_none, bind_ok, wp_ite, wpS_ite, ev_eqI, ev_neI, ev_ltI, ev_gtI, ev_leI, ev_geI, ev_addI, ev_iaddI, ev_subI, ev_negI, ev_divI, ev_modI, ev_intI, ev_intB, ev_absI, ev_lenL, ev_lenD, ev_lenT, ev_minI, ev_maxI, ev_tupL, ev_tupD, ev_tupT, ev_listD, ev_listT, ev_listL, ev_getL, ev_getD, ev_getT, atI_0, atI_1, atI_2, atI_3, atI_4, atI_end, ev_sz, ixN_0, ixN_1, ixN_2, ixN_3, ixN_4, put_0, put_s, List.map_cons, List.map_nil, List.replicate_succ, List.replicate_zero, List.cons_append, List.nil_append, List.length_cons, List.length_nil, List.set_cons_zero, List.set_cons_succ, List.getElem?_cons_zero, List.getElem?_cons_succ, Option.map_some, Option.map_none, frz_d, frz_l, frzs_n, frzs_c, frzs_map, frzs_ints, outs_z, outs_s, List.contains_cons, List.contains_nil, decide_eq_true_eq, beq_iff_eq, bne_iff_ne, if_true, if_false, Bool.false_eq_true, Bool.not_eq_true, Bool.or_false, Bool.or_true, Bool.not_true, Bool.not_false, Nat.reduceAdd, Nat.reduceSub, Nat.reduceLT, Nat.reduceLeDiff, Nat.reduceBEq, Nat.reduceEqDiff, Int.reduceLT, Int.reduceLE, Int.reduceEq, Int.reduceNeg, Int.reducePow, Int.reduceToNat, Nat.zero_add, and_self, and_true, true_and, reduceIte, ev_cutD, ev_cutT, ev_cutL, it_L, it_D, it_T, it_S, cast0, cast1, Int.add_zero, Int.zero_add, Bool.and_true, Bool.true_and, Bool.and_self, Bool.and_false, Bool.false_and]
  clear hK
  by_cases hg : g = 0
  · by_cases hp2 : p < cells.length
    · simp only [hg, hp2, List.length_map, wpS_if, wpS_asg, wpS_asgs, wpS_ret, wpS_drop, wpS_skip, wpS_for, wpS_nx, wpS_rt, wp_bind, wp_ok, wp_of_some, eTest, eP, eB, eFr, eFrs, eMov, eFrz, eCons, eNil, eLend, eBin, eCmp, eCmpT, e2, eApp, eTupS, eLstS, eIx, tD, eUn, eTrue, eNotT, eIf, eCall, mCall, pb_nil, pb_none, pb_some, eApnd, eExtd, ePop, ePopAt, eAndT, eOrT, iP, iE, iOne, mVar, mD, mK, mBin, mCmp, mCmpT, mChainT, mOfT, tTrue, mTrue, mAnd, mOr, mNot, mAndT, mOrT, mNotT, mIf, mUn, mNil, mCons, mApp, mTupS, mLstS, mPart, mSlice, tInt, mSliceR, mItems, mItA, mMeth, isLs, isTp, isSt, sAug, sAugI, gNm, gIx, gIx2, gPat, gTwo, gThree, gsNil, gsCons, tg_nm, tg_tp, tgs_nil, tgs_cons, Option.bind_some, of_some, of_none, bind_ok, wp_ite, wpS_ite, ev_eqI, ev_neI, ev_ltI, ev_gtI, ev_leI, ev_geI, ev_addI, ev_iaddI, ev_subI, ev_negI, ev_divI, ev_modI, ev_intI, ev_intB, ev_absI, ev_lenL, ev_lenD, ev_lenT, ev_minI, ev_maxI, ev_tupL, ev_tupD, ev_tupT, ev_listD, ev_listT, ev_listL, ev_getL, ev_getD, ev_getT, atI_0, atI_1, atI_2, atI_3, atI_4, atI_end, ev_sz, ixN_0, ixN_1, ixN_2, ixN_3, ixN_4, put_0, put_s, List.map_cons, List.map_nil, List.replicate_succ, List.replicate_zero, List.cons_append, List.nil_append, List.length_cons, List.length_nil, List.set_cons_zero, List.set_cons_succ, List.getElem?_cons_zero, List.getElem?_cons_succ, Option.map_some, Option.map_none, frz_d, frz_l, frzs_n, frzs_c, frzs_map, frzs_ints, outs_z, outs_s, List.contains_cons, List.contains_nil, decide_eq_true_eq, beq_iff_eq, bne_iff_ne, if_true, if_false, Bool.false_eq_true, Bool.not_eq_true, Bool.or_false, Bool.or_true, Bool.not_true, Bool.not_false, Nat.reduceAdd, Nat.reduceSub, Nat.reduceLT, Nat.reduceLeDiff, Nat.reduceBEq, Nat.reduceEqDiff, Int.reduceLT, Int.reduceLE, Int.reduceEq, Int.reduceNeg, Int.reducePow, Int.reduceToNat, Nat.zero_add, and_self, and_true, true_and, reduceIte, ev_cutD, ev_cutT, ev_cutL, it_L, it_D, it_T, it_S, cast0, cast1, Int.add_zero, Int.zero_add, Bool.and_true, Bool.true_and, Bool.and_self, Bool.and_false, Bool.false_and]
      obtain ⟨x, hx, ex⟩ := atI_mem (xs := cells.map PyData.int) hp (by simpa using hp2)
      obtain ⟨i, hi, rfl⟩ := List.mem_map.mp hx
      simp only [ex, wpS_seq, ev_mulR (sm (i := 69621) (by decide) (by decide)), ev_mulR (sm (i := 40692) (by decide) (by decide)), ev_powI (show CPow 10 18 by decide), wpS_if, wpS_asg, wpS_asgs, wpS_ret, wpS_drop, wpS_skip, wpS_for, wpS_nx, wpS_rt, wp_bind, wp_ok, wp_of_some, eTest, eP, eB, eFr, eFrs, eMov, eFrz, eCons, eNil, eLend, eBin, eCmp, eCmpT, e2, eApp, eTupS, eLstS, eIx, tD, eUn, eTrue, eNotT, eIf, eCall, mCall, pb_nil, pb_none, pb_some, eApnd, eExtd, ePop, ePopAt, eAndT, eOrT, iP, iE, iOne, mVar, mD, mK, mBin, mCmp, mCmpT, mChainT, mOfT, tTrue, mTrue, mAnd, mOr, mNot, mAndT, mOrT, mNotT, mIf, mUn, mNil, mCons, mApp, mTupS, mLstS, mPart, mSlice, tInt, mSliceR, mItems, mItA, mMeth, isLs, isTp, isSt, sAug, sAugI, gNm, gIx, gIx2, gPat, gTwo, gThree, gsNil, gsCons, tg_nm, tg_tp, tgs_nil, tgs_cons, Option.bind_some, of_some, of_none, bind_ok, wp_ite, wpS_ite, ev_eqI, ev_neI, ev_ltI, ev_gtI, ev_leI, ev_geI, ev_addI, ev_iaddI, ev_subI, ev_negI, ev_divI, ev_modI, ev_intI, ev_intB, ev_absI, ev_lenL, ev_lenD, ev_lenT, ev_minI, ev_maxI, ev_tupL, ev_tupD, ev_tupT, ev_listD, ev_listT, ev_listL, ev_getL, ev_getD, ev_getT, atI_0, atI_1, atI_2, atI_3, atI_4, atI_end, ev_sz, ixN_0, ixN_1, ixN_2, ixN_3, ixN_4, put_0, put_s, List.map_cons, List.map_nil, List.replicate_succ, List.replicate_zero, List.cons_append, List.nil_append, List.length_cons, List.length_nil, List.set_cons_zero, List.set_cons_succ, List.getElem?_cons_zero, List.getElem?_cons_succ, Option.map_some, Option.map_none, frz_d, frz_l, frzs_n, frzs_c, frzs_map, frzs_ints, outs_z, outs_s, List.contains_cons, List.contains_nil, decide_eq_true_eq, beq_iff_eq, bne_iff_ne, if_true, if_false, Bool.false_eq_true, Bool.not_eq_true, Bool.or_false, Bool.or_true, Bool.not_true, Bool.not_false, Nat.reduceAdd, Nat.reduceSub, Nat.reduceLT, Nat.reduceLeDiff, Nat.reduceBEq, Nat.reduceEqDiff, Int.reduceLT, Int.reduceLE, Int.reduceEq, Int.reduceNeg, Int.reducePow, Int.reduceToNat, Nat.zero_add, and_self, and_true, true_and, reduceIte, ev_cutD, ev_cutT, ev_cutL, it_L, it_D, it_T, it_S, cast0, cast1, Int.add_zero, Int.zero_add, Bool.and_true, Bool.true_and, Bool.and_self, Bool.and_false, Bool.false_and]
      split
      · exact hk _ _ _ _ _ (by omega)
      · exact hk _ _ _ _ _ (by omega)
    · simp only [hg, hp2, List.length_map, wpS_if, wpS_asg, wpS_asgs, wpS_ret, wpS_drop, wpS_skip, wpS_for, wpS_nx, wpS_rt, wp_bind, wp_ok, wp_of_some, eTest, eP, eB, eFr, eFrs, eMov, eFrz, eCons, eNil, eLend, eBin, eCmp, eCmpT, e2, eApp, eTupS, eLstS, eIx, tD, eUn, eTrue, eNotT, eIf, eCall, mCall, pb_nil, pb_none, pb_some, eApnd, eExtd, ePop, ePopAt, eAndT, eOrT, iP, iE, iOne, mVar, mD, mK, mBin, mCmp, mCmpT, mChainT, mOfT, tTrue, mTrue, mAnd, mOr, mNot, mAndT, mOrT, mNotT, mIf, mUn, mNil, mCons, mApp, mTupS, mLstS, mPart, mSlice, tInt, mSliceR, mItems, mItA, mMeth, isLs, isTp, isSt, sAug, sAugI, gNm, gIx, gIx2, gPat, gTwo, gThree, gsNil, gsCons, tg_nm, tg_tp, tgs_nil, tgs_cons, Option.bind_some, of_some, of_none, bind_ok, wp_ite, wpS_ite, ev_eqI, ev_neI, ev_ltI, ev_gtI, ev_leI, ev_geI, ev_addI, ev_iaddI, ev_subI, ev_negI, ev_divI, ev_modI, ev_intI, ev_intB, ev_absI, ev_lenL, ev_lenD, ev_lenT, ev_minI, ev_maxI, ev_tupL, ev_tupD, ev_tupT, ev_listD, ev_listT, ev_listL, ev_getL, ev_getD, ev_getT, atI_0, atI_1, atI_2, atI_3, atI_4, atI_end, ev_sz, ixN_0, ixN_1, ixN_2, ixN_3, ixN_4, put_0, put_s, List.map_cons, List.map_nil, List.replicate_succ, List.replicate_zero, List.cons_append, List.nil_append, List.length_cons, List.length_nil, List.set_cons_zero, List.set_cons_succ, List.getElem?_cons_zero, List.getElem?_cons_succ, Option.map_some, Option.map_none, frz_d, frz_l, frzs_n, frzs_c, frzs_map, frzs_ints, outs_z, outs_s, List.contains_cons, List.contains_nil, decide_eq_true_eq, beq_iff_eq, bne_iff_ne, if_true, if_false, Bool.false_eq_true, Bool.not_eq_true, Bool.or_false, Bool.or_true, Bool.not_true, Bool.not_false, Nat.reduceAdd, Nat.reduceSub, Nat.reduceLT, Nat.reduceLeDiff, Nat.reduceBEq, Nat.reduceEqDiff, Int.reduceLT, Int.reduceLE, Int.reduceEq, Int.reduceNeg, Int.reducePow, Int.reduceToNat, Nat.zero_add, and_self, and_true, true_and, reduceIte, ev_cutD, ev_cutT, ev_cutL, it_L, it_D, it_T, it_S, cast0, cast1, Int.add_zero, Int.zero_add, Bool.and_true, Bool.true_and, Bool.and_self, Bool.and_false, Bool.false_and]
      exact hk _ _ _ _ _ hp
  · simp only [hg, wpS_if, wpS_asg, wpS_asgs, wpS_ret, wpS_drop, wpS_skip, wpS_for, wpS_nx, wpS_rt, wp_bind, wp_ok, wp_of_some, eTest, eP, eB, eFr, eFrs, eMov, eFrz, eCons, eNil, eLend, eBin, eCmp, eCmpT, e2, eApp, eTupS, eLstS, eIx, tD, eUn, eTrue, eNotT, eIf, eCall, mCall, pb_nil, pb_none, pb_some, eApnd, eExtd, ePop, ePopAt, eAndT, eOrT, iP, iE, iOne, mVar, mD, mK, mBin, mCmp, mCmpT, mChainT, mOfT, tTrue, mTrue, mAnd, mOr, mNot, mAndT, mOrT, mNotT, mIf, mUn, mNil, mCons, mApp, mTupS, mLstS, mPart, mSlice, tInt, mSliceR, mItems, mItA, mMeth, isLs, isTp, isSt, sAug, sAugI, gNm, gIx, gIx2, gPat, gTwo, gThree, gsNil, gsCons, tg_nm, tg_tp, tgs_nil, tgs_cons, Option.bind_some, of_some, of_none, bind_ok, wp_ite, wpS_ite, ev_eqI, ev_neI, ev_ltI, ev_gtI, ev_leI, ev_geI, ev_addI, ev_iaddI, ev_subI, ev_negI, ev_divI, ev_modI, ev_intI, ev_intB, ev_absI, ev_lenL, ev_lenD, ev_lenT, ev_minI, ev_maxI, ev_tupL, ev_tupD, ev_tupT, ev_listD, ev_listT, ev_listL, ev_getL, ev_getD, ev_getT, atI_0, atI_1, atI_2, atI_3, atI_4, atI_end, ev_sz, ixN_0, ixN_1, ixN_2, ixN_3, ixN_4, put_0, put_s, List.map_cons, List.map_nil, List.replicate_succ, List.replicate_zero, List.cons_append, List.nil_append, List.length_cons, List.length_nil, List.set_cons_zero, List.set_cons_succ, List.getElem?_cons_zero, List.getElem?_cons_succ, Option.map_some, Option.map_none, frz_d, frz_l, frzs_n, frzs_c, frzs_map, frzs_ints, outs_z, outs_s, List.contains_cons, List.contains_nil, decide_eq_true_eq, beq_iff_eq, bne_iff_ne, if_true, if_false, Bool.false_eq_true, Bool.not_eq_true, Bool.or_false, Bool.or_true, Bool.not_true, Bool.not_false, Nat.reduceAdd, Nat.reduceSub, Nat.reduceLT, Nat.reduceLeDiff, Nat.reduceBEq, Nat.reduceEqDiff, Int.reduceLT, Int.reduceLE, Int.reduceEq, Int.reduceNeg, Int.reducePow, Int.reduceToNat, Nat.zero_add, and_self, and_true, true_and, reduceIte, ev_cutD, ev_cutT, ev_cutL, it_L, it_D, it_T, it_S, cast0, cast1, Int.add_zero, Int.zero_add, Bool.and_true, Bool.true_and, Bool.and_self, Bool.and_false, Bool.false_and]
    exact hk _ _ _ _ _ hp
theorem any_ok {q : Int} {h : T} {xs : List PyData} (hh : HandOk h) (h0 : xs ≠ []) (h1 : xs.length < 1073741824) : (fAnyH q [h, .d (.list xs)]).wp fun r => ∃ (x : PyData) (h' : T), r = (.d x, [some h', none]) ∧ x ∈ xs ∧ HandOk h' := by
  have hl : 0 < xs.length := List.length_pos_iff.mpr h0
  unfold fAnyH
  rw [wp_fn]
  unfold bAnyH
  simp only [wpS_seq, wpS_if, wpS_asg, wpS_asgs, wpS_ret, wpS_drop, wpS_skip, wpS_for, wpS_nx, wpS_rt, wp_bind, wp_ok, wp_of_some, eTest, eP, eB, eFr, eFrs, eMov, eFrz, eCons, eNil, eLend, eBin, eCmp, eCmpT, e2, eApp, eTupS, eLstS, eIx, tD, eUn, eTrue, eNotT, eIf, eCall, mCall, pb_nil, pb_none, pb_some, eApnd, eExtd, ePop, ePopAt, eAndT, eOrT, iP, iE, iOne, mVar, mD, mK, mBin, mCmp, mCmpT, mChainT, mOfT, tTrue, mTrue, mAnd, mOr, mNot, mAndT, mOrT, mNotT, mIf, mUn, mNil, mCons, mApp, mTupS, mLstS, mPart, mSlice, tInt, mSliceR, mItems, mItA, mMeth, isLs, isTp, isSt, sAug, sAugI, gNm, gIx, gIx2, gPat, gTwo, gThree, gsNil, gsCons, tg_nm, tg_tp, tgs_nil, tgs_cons, Option.bind_some, of_some, of_none, bind_ok, wp_ite, wpS_ite, ev_eqI, ev_neI, ev_ltI, ev_gtI, ev_leI, ev_geI, ev_addI, ev_iaddI, ev_subI, ev_negI, ev_divI, ev_modI, ev_intI, ev_intB, ev_absI, ev_lenL, ev_lenD, ev_lenT, ev_minI, ev_maxI, ev_tupL, ev_tupD, ev_tupT, ev_listD, ev_listT, ev_listL, ev_getL, ev_getD, ev_getT, atI_0, atI_1, atI_2, atI_3, atI_4, atI_end, ev_sz, ixN_0, ixN_1, ixN_2, ixN_3, ixN_4, put_0, put_s, List.map_cons, List.map_nil, List.replicate_succ, List.replicate_zero, List.cons_append, List.nil_append, List.length_cons, List.length_nil, List.set_cons_zero, List.set_cons_succ, List.getElem?_cons_zero, List.getElem?_cons_succ, Option.map_some, Option.map_none, frz_d, frz_l, frzs_n, frzs_c, frzs_map, frzs_ints, outs_z, outs_s, List.contains_cons, List.contains_nil, decide_eq_true_eq, beq_iff_eq, bne_iff_ne, if_true, if_false, Bool.false_eq_true, Bool.not_eq_true, Bool.or_false, Bool.or_true, Bool.not_true, Bool.not_false, Nat.reduceAdd, Nat.reduceSub, Nat.reduceLT, Nat.reduceLeDiff, Nat.reduceBEq, Nat.reduceEqDiff, Int.reduceLT, Int.reduceLE, Int.reduceEq, Int.reduceNeg, Int.reducePow, Int.reduceToNat, Nat.zero_add, and_self, and_true, true_and, reduceIte, ev_cutD, ev_cutT, ev_cutL, it_L, it_D, it_T, it_S, cast0, cast1, Int.add_zero, Int.zero_add, Bool.and_true, Bool.true_and, Bool.and_self, Bool.and_false, Bool.false_and]
  refine (draw_ok (q := q) hh (many := xs.length) (by omega) (by omega)).mono fun r ⟨d, h', er, d0, d1, hh'⟩ => ?_
  subst er
  simp only [wpS_if, wpS_asg, wpS_asgs, wpS_ret, wpS_drop, wpS_skip, wpS_for, wpS_nx, wpS_rt, wp_bind, wp_ok, wp_of_some, eTest, eP, eB, eFr, eFrs, eMov, eFrz, eCons, eNil, eLend, eBin, eCmp, eCmpT, e2, eApp, eTupS, eLstS, eIx, tD, eUn, eTrue, eNotT, eIf, eCall, mCall, pb_nil, pb_none, pb_some, eApnd, eExtd, ePop, ePopAt, eAndT, eOrT, iP, iE, iOne, mVar, mD, mK, mBin, mCmp, mCmpT, mChainT, mOfT, tTrue, mTrue, mAnd, mOr, mNot, mAndT, mOrT, mNotT, mIf, mUn, mNil, mCons, mApp, mTupS, mLstS, mPart, mSlice, tInt, mSliceR, mItems, mItA, mMeth, isLs, isTp, isSt, sAug, sAugI, gNm, gIx, gIx2, gPat, gTwo, gThree, gsNil, gsCons, tg_nm, tg_tp, tgs_nil, tgs_cons, Option.bind_some, of_some, of_none, bind_ok, wp_ite, wpS_ite, ev_eqI, ev_neI, ev_ltI, ev_gtI, ev_leI, ev_geI, ev_addI, ev_iaddI, ev_subI, ev_negI, ev_divI, ev_modI, ev_intI, ev_intB, ev_absI, ev_lenL, ev_lenD, ev_lenT, ev_minI, ev_maxI, ev_tupL, ev_tupD, ev_tupT, ev_listD, ev_listT, ev_listL, ev_getL, ev_getD, ev_getT, atI_0, atI_1, atI_2, atI_3, atI_4, atI_end, ev_sz, ixN_0, ixN_1, ixN_2, ixN_3, ixN_4, put_0, put_s, List.map_cons, List.map_nil, List.replicate_succ, List.replicate_zero, List.cons_append, List.nil_append, List.length_cons, List.length_nil, List.set_cons_zero, List.set_cons_succ, List.getElem?_cons_zero, List.getElem?_cons_succ, Option.map_some, Option.map_none, frz_d, frz_l, frzs_n, frzs_c, frzs_map, frzs_ints, outs_z, outs_s, List.contains_cons, List.contains_nil, decide_eq_true_eq, beq_iff_eq, bne_iff_ne, if_true, if_false, Bool.false_eq_true, Bool.not_eq_true, Bool.or_false, Bool.or_true, Bool.not_true, Bool.not_false, Nat.reduceAdd, Nat.reduceSub, Nat.reduceLT, Nat.reduceLeDiff, Nat.reduceBEq, Nat.reduceEqDiff, Int.reduceLT, Int.reduceLE, Int.reduceEq, Int.reduceNeg, Int.reducePow, Int.reduceToNat, Nat.zero_add, and_self, and_true, true_and, reduceIte, ev_cutD, ev_cutT, ev_cutL, it_L, it_D, it_T, it_S, cast0, cast1, Int.add_zero, Int.zero_add, Bool.and_true, Bool.true_and, Bool.and_self, Bool.and_false, Bool.false_and]
  obtain ⟨x, hx, ex⟩ := atI_mem (xs := xs) d0 d1
  simp only [ex, wpS_if, wpS_asg, wpS_asgs, wpS_ret, wpS_drop, wpS_skip, wpS_for, wpS_nx, wpS_rt, wp_bind, wp_ok, wp_of_some, eTest, eP, eB, eFr, eFrs, eMov, eFrz, eCons, eNil, eLend, eBin, eCmp, eCmpT, e2, eApp, eTupS, eLstS, eIx, tD, eUn, eTrue, eNotT, eIf, eCall, mCall, pb_nil, pb_none, pb_some, eApnd, eExtd, ePop, ePopAt, eAndT, eOrT, iP, iE, iOne, mVar, mD, mK, mBin, mCmp, mCmpT, mChainT, mOfT, tTrue, mTrue, mAnd, mOr, mNot, mAndT, mOrT, mNotT, mIf, mUn, mNil, mCons, mApp, mTupS, mLstS, mPart, mSlice, tInt, mSliceR, mItems, mItA, mMeth, isLs, isTp, isSt, sAug, sAugI, gNm, gIx, gIx2, gPat, gTwo, gThree, gsNil, gsCons, tg_nm, tg_tp, tgs_nil, tgs_cons, Option.bind_some, of_some, of_none, bind_ok, wp_ite, wpS_ite, ev_eqI, ev_neI, ev_ltI, ev_gtI, ev_leI, ev_geI, ev_addI, ev_iaddI, ev_subI, ev_negI, ev_divI, ev_modI, ev_intI, ev_intB, ev_absI, ev_lenL, ev_lenD, ev_lenT, ev_minI, ev_maxI, ev_tupL, ev_tupD, ev_tupT, ev_listD, ev_listT, ev_listL, ev_getL, ev_getD, ev_getT, atI_0, atI_1, atI_2, atI_3, atI_4, atI_end, ev_sz, ixN_0, ixN_1, ixN_2, ixN_3, ixN_4, put_0, put_s, List.map_cons, List.map_nil, List.replicate_succ, List.replicate_zero, List.cons_append, List.nil_append, List.length_cons, List.length_nil, List.set_cons_zero, List.set_cons_succ, List.getElem?_cons_zero, List.getElem?_cons_succ, Option.map_some, Option.map_none, frz_d, frz_l, frzs_n, frzs_c, frzs_map, frzs_ints, outs_z, outs_s, List.contains_cons, List.contains_nil, decide_eq_true_eq, beq_iff_eq, bne_iff_ne, if_true, if_false, Bool.false_eq_true, Bool.not_eq_true, Bool.or_false, Bool.or_true, Bool.not_true, Bool.not_false, Nat.reduceAdd, Nat.reduceSub, Nat.reduceLT, Nat.reduceLeDiff, Nat.reduceBEq, Nat.reduceEqDiff, Int.reduceLT, Int.reduceLE, Int.reduceEq, Int.reduceNeg, Int.reducePow, Int.reduceToNat, Nat.zero_add, and_self, and_true, true_and, reduceIte, ev_cutD, ev_cutT, ev_cutL, it_L, it_D, it_T, it_S, cast0, cast1, Int.add_zero, Int.zero_add, Bool.and_true, Bool.true_and, Bool.and_self, Bool.and_false, Bool.false_and]
  exact ⟨x, h', rfl, hx, hh'⟩
end Mi

set_option maxHeartbeats 200000
namespace Mi
open PySem PySem.Spec L2

/-! ### the hand is made, the law's laps -/
theorem bind_of_eq {α β : Type} {r : Rs α} {a : α} {f : α → Rs β} (h : r = .ok a) : r.bind f = f a := by rw [h]; rfl
theorem hand_ok {p q : Int} (hq : Sm q) {ns : List Int} : (fHandH p q [.d (.list (ns.map .int))]).wp fun r => HandOk r.1 := by
  unfold fHandH
  rw [wp_fn]
  unfold bHandH
  have cut : cutL (ns.map PyData.int) none (some 59) = (ns.take 59).map PyData.int := by rw [show (some (59 : Int)) = some ((59 : Nat) : Int) from rfl, cut_to, List.map_take]
  refine wpS_seqK fun K hK => ?_
  simp only [mLc, wpS_if, wpS_asg, wpS_asgs, wpS_ret, wpS_drop, wpS_skip, wpS_for, wpS_nx, wpS_rt, wp_bind, wp_ok, wp_of_some, eTest, eP, eB, eFr, eFrs, eMov, eFrz, eCons, eNil, eLend, eBin, eCmp, eCmpT, e2, eApp, eTupS, eLstS, eIx, tD, eUn, eTrue, eNotT, eIf, eCall, mCall, pb_nil, pb_none, pb_some, eApnd, eExtd, ePop, ePopAt, eAndT, eOrT, iP, iE, iOne, mVar, mD, mK, mBin, mCmp, mCmpT, mChainT, mOfT, tTrue, mTrue, mAnd, mOr, mNot, mAndT, mOrT, mNotT, mIf, mUn, mNil, mCons, mApp, mTupS, mLstS, mPart, mSlice, tInt, mSliceR, mItems, mItA, mMeth, isLs, isTp, isSt, sAug, sAugI, gNm, gIx, gIx2, gPat, gTwo, gThree, gsNil, gsCons, tg_nm, tg_tp, tgs_nil, tgs_cons, Option.bind_some, of_some, of_none, bind_ok, wp_ite, wpS_ite, ev_eqI, ev_neI, ev_ltI, ev_gtI, ev_leI, ev_geI, ev_addI, ev_iaddI, ev_subI, ev_negI, ev_divI, ev_modI, ev_intI, ev_intB, ev_absI, ev_lenL, ev_lenD, ev_lenT, ev_minI, ev_maxI, ev_tupL, ev_tupD, ev_tupT, ev_listD, ev_listT, ev_listL, ev_getL, ev_getD, ev_getT, atI_0, atI_1, atI_2, atI_3, atI_4, atI_end, ev_sz, ixN_0, ixN_1, ixN_2, ixN_3, ixN_4, put_0, put_s, List.map_cons, List.map_nil, List.replicate_succ, List.replicate_zero, List.cons_append, List.nil_append, List.length_cons, List.length_nil, List.set_cons_zero, List.set_cons_succ, List.getElem?_cons_zero, List.getElem?_cons_succ, Option.map_some, Option.map_none, frz_d, frz_l, frzs_n, frzs_c, frzs_map, frzs_ints, outs_z, outs_s, List.contains_cons, List.contains_nil, decide_eq_true_eq, beq_iff_eq, bne_iff_ne, if_true, if_false, Bool.false_eq_true, Bool.not_eq_true, Bool.or_false, Bool.or_true, Bool.not_true, Bool.not_false, Nat.reduceAdd, Nat.reduceSub, Nat.reduceLT, Nat.reduceLeDiff, Nat.reduceBEq, Nat.reduceEqDiff, Int.reduceLT, Int.reduceLE, Int.reduceEq, Int.reduceNeg, Int.reducePow, Int.reduceToNat, Nat.zero_add, and_self, and_true, true_and, reduceIte, ev_cutD, ev_cutT, ev_cutL, it_L, it_D, it_T, it_S, cast0, cast1, Int.add_zero, Int.zero_add, Bool.and_true, Bool.true_and, Bool.and_self, Bool.and_false, Bool.false_and, cut, datas_map, wipeE]
  rw [lcGo_map (fun x => match x with
    | .int i => .d (.int (if i < 0 then -i else i))
    | _ => .d .none)]
  · have hl : (ns.take 59).length ≤ 59 := by rw [List.length_take]; omega
    simp only [List.length_map, show (ns.take 59).length ≤ 16777216 by omega, wpS_if, wpS_asg, wpS_asgs, wpS_ret, wpS_drop, wpS_skip, wpS_for, wpS_nx, wpS_rt, wp_bind, wp_ok, wp_of_some, eTest, eP, eB, eFr, eFrs, eMov, eFrz, eCons, eNil, eLend, eBin, eCmp, eCmpT, e2, eApp, eTupS, eLstS, eIx, tD, eUn, eTrue, eNotT, eIf, eCall, mCall, pb_nil, pb_none, pb_some, eApnd, eExtd, ePop, ePopAt, eAndT, eOrT, iP, iE, iOne, mVar, mD, mK, mBin, mCmp, mCmpT, mChainT, mOfT, tTrue, mTrue, mAnd, mOr, mNot, mAndT, mOrT, mNotT, mIf, mUn, mNil, mCons, mApp, mTupS, mLstS, mPart, mSlice, tInt, mSliceR, mItems, mItA, mMeth, isLs, isTp, isSt, sAug, sAugI, gNm, gIx, gIx2, gPat, gTwo, gThree, gsNil, gsCons, tg_nm, tg_tp, tgs_nil, tgs_cons, Option.bind_some, of_some, of_none, bind_ok, wp_ite, wpS_ite, ev_eqI, ev_neI, ev_ltI, ev_gtI, ev_leI, ev_geI, ev_addI, ev_iaddI, ev_subI, ev_negI, ev_divI, ev_modI, ev_intI, ev_intB, ev_absI, ev_lenL, ev_lenD, ev_lenT, ev_minI, ev_maxI, ev_tupL, ev_tupD, ev_tupT, ev_listD, ev_listT, ev_listL, ev_getL, ev_getD, ev_getT, atI_0, atI_1, atI_2, atI_3, atI_4, atI_end, ev_sz, ixN_0, ixN_1, ixN_2, ixN_3, ixN_4, put_0, put_s, List.map_cons, List.map_nil, List.replicate_succ, List.replicate_zero, List.cons_append, List.nil_append, List.length_cons, List.length_nil, List.set_cons_zero, List.set_cons_succ, List.getElem?_cons_zero, List.getElem?_cons_succ, Option.map_some, Option.map_none, frz_d, frz_l, frzs_n, frzs_c, frzs_map, frzs_ints, outs_z, outs_s, List.contains_cons, List.contains_nil, decide_eq_true_eq, beq_iff_eq, bne_iff_ne, if_true, if_false, Bool.false_eq_true, Bool.not_eq_true, Bool.or_false, Bool.or_true, Bool.not_true, Bool.not_false, Nat.reduceAdd, Nat.reduceSub, Nat.reduceLT, Nat.reduceLeDiff, Nat.reduceBEq, Nat.reduceEqDiff, Int.reduceLT, Int.reduceLE, Int.reduceEq, Int.reduceNeg, Int.reducePow, Int.reduceToNat, Nat.zero_add, and_self, and_true, true_and, reduceIte, ev_cutD, ev_cutT, ev_cutL, it_L, it_D, it_T, it_S, cast0, cast1, Int.add_zero, Int.zero_add, Bool.and_true, Bool.true_and, Bool.and_self, Bool.and_false, Bool.false_and]
    rw [hK]
    clear hK K
    simp only [wpS_seq, ev_mulL hq, List.map_map, wpS_if, wpS_asg, wpS_asgs, wpS_ret, wpS_drop, wpS_skip, wpS_for, wpS_nx, wpS_rt, wp_bind, wp_ok, wp_of_some, eTest, eP, eB, eFr, eFrs, eMov, eFrz, eCons, eNil, eLend, eBin, eCmp, eCmpT, e2, eApp, eTupS, eLstS, eIx, tD, eUn, eTrue, eNotT, eIf, eCall, mCall, pb_nil, pb_none, pb_some, eApnd, eExtd, ePop, ePopAt, eAndT, eOrT, iP, iE, iOne, mVar, mD, mK, mBin, mCmp, mCmpT, mChainT, mOfT, tTrue, mTrue, mAnd, mOr, mNot, mAndT, mOrT, mNotT, mIf, mUn, mNil, mCons, mApp, mTupS, mLstS, mPart, mSlice, tInt, mSliceR, mItems, mItA, mMeth, isLs, isTp, isSt, sAug, sAugI, gNm, gIx, gIx2, gPat, gTwo, gThree, gsNil, gsCons, tg_nm, tg_tp, tgs_nil, tgs_cons, Option.bind_some, of_some, of_none, bind_ok, wp_ite, wpS_ite, ev_eqI, ev_neI, ev_ltI, ev_gtI, ev_leI, ev_geI, ev_addI, ev_iaddI, ev_subI, ev_negI, ev_divI, ev_modI, ev_intI, ev_intB, ev_absI, ev_lenL, ev_lenD, ev_lenT, ev_minI, ev_maxI, ev_tupL, ev_tupD, ev_tupT, ev_listD, ev_listT, ev_listL, ev_getL, ev_getD, ev_getT, atI_0, atI_1, atI_2, atI_3, atI_4, atI_end, ev_sz, ixN_0, ixN_1, ixN_2, ixN_3, ixN_4, put_0, put_s, List.map_cons, List.map_nil, List.replicate_succ, List.replicate_zero, List.cons_append, List.nil_append, List.length_cons, List.length_nil, List.set_cons_zero, List.set_cons_succ, List.getElem?_cons_zero, List.getElem?_cons_succ, Option.map_some, Option.map_none, frz_d, frz_l, frzs_n, frzs_c, frzs_map, frzs_ints, outs_z, outs_s, List.contains_cons, List.contains_nil, decide_eq_true_eq, beq_iff_eq, bne_iff_ne, if_true, if_false, Bool.false_eq_true, Bool.not_eq_true, Bool.or_false, Bool.or_true, Bool.not_true, Bool.not_false, Nat.reduceAdd, Nat.reduceSub, Nat.reduceLT, Nat.reduceLeDiff, Nat.reduceBEq, Nat.reduceEqDiff, Int.reduceLT, Int.reduceLE, Int.reduceEq, Int.reduceNeg, Int.reducePow, Int.reduceToNat, Nat.zero_add, and_self, and_true, true_and, reduceIte, ev_cutD, ev_cutT, ev_cutL, it_L, it_D, it_T, it_S, cast0, cast1, Int.add_zero, Int.zero_add, Bool.and_true, Bool.true_and, Bool.and_self, Bool.and_false, Bool.false_and]
    have e : ∀ ms : List Int, T.frzs (ms.map ((fun x => match x with
        | PyData.int i => T.d (.int (if i < 0 then -i else i))
        | _ => .d .none) ∘ PyData.int)) = (ms.map fun i => if i < 0 then -i else i).map .int := by
      intro ms
      induction ms with
      | nil => simp only [List.map_nil, frzs_n]
      | cons m ms ih => simp only [List.map_cons, frzs_c, ih, Function.comp, frz_d]
    rw [e]
    exact ⟨_, _, _, _, _, Int.le_refl 0, rfl⟩
  · intro x hx
    obtain ⟨i, hi, rfl⟩ := List.mem_map.mp hx
    simp only [wpS_if, wpS_asg, wpS_asgs, wpS_ret, wpS_drop, wpS_skip, wpS_for, wpS_nx, wpS_rt, wp_bind, wp_ok, wp_of_some, eTest, eP, eB, eFr, eFrs, eMov, eFrz, eCons, eNil, eLend, eBin, eCmp, eCmpT, e2, eApp, eTupS, eLstS, eIx, tD, eUn, eTrue, eNotT, eIf, eCall, mCall, pb_nil, pb_none, pb_some, eApnd, eExtd, ePop, ePopAt, eAndT, eOrT, iP, iE, iOne, mVar, mD, mK, mBin, mCmp, mCmpT, mChainT, mOfT, tTrue, mTrue, mAnd, mOr, mNot, mAndT, mOrT, mNotT, mIf, mUn, mNil, mCons, mApp, mTupS, mLstS, mPart, mSlice, tInt, mSliceR, mItems, mItA, mMeth, isLs, isTp, isSt, sAug, sAugI, gNm, gIx, gIx2, gPat, gTwo, gThree, gsNil, gsCons, tg_nm, tg_tp, tgs_nil, tgs_cons, Option.bind_some, of_some, of_none, bind_ok, wp_ite, wpS_ite, ev_eqI, ev_neI, ev_ltI, ev_gtI, ev_leI, ev_geI, ev_addI, ev_iaddI, ev_subI, ev_negI, ev_divI, ev_modI, ev_intI, ev_intB, ev_absI, ev_lenL, ev_lenD, ev_lenT, ev_minI, ev_maxI, ev_tupL, ev_tupD, ev_tupT, ev_listD, ev_listT, ev_listL, ev_getL, ev_getD, ev_getT, atI_0, atI_1, atI_2, atI_3, atI_4, atI_end, ev_sz, ixN_0, ixN_1, ixN_2, ixN_3, ixN_4, put_0, put_s, List.map_cons, List.map_nil, List.replicate_succ, List.replicate_zero, List.cons_append, List.nil_append, List.length_cons, List.length_nil, List.set_cons_zero, List.set_cons_succ, List.getElem?_cons_zero, List.getElem?_cons_succ, Option.map_some, Option.map_none, frz_d, frz_l, frzs_n, frzs_c, frzs_map, frzs_ints, outs_z, outs_s, List.contains_cons, List.contains_nil, decide_eq_true_eq, beq_iff_eq, bne_iff_ne, if_true, if_false, Bool.false_eq_true, Bool.not_eq_true, Bool.or_false, Bool.or_true, Bool.not_true, Bool.not_false, Nat.reduceAdd, Nat.reduceSub, Nat.reduceLT, Nat.reduceLeDiff, Nat.reduceBEq, Nat.reduceEqDiff, Int.reduceLT, Int.reduceLE, Int.reduceEq, Int.reduceNeg, Int.reducePow, Int.reduceToNat, Nat.zero_add, and_self, and_true, true_and, reduceIte, ev_cutD, ev_cutT, ev_cutL, it_L, it_D, it_T, it_S, cast0, cast1, Int.add_zero, Int.zero_add, Bool.and_true, Bool.true_and, Bool.and_self, Bool.and_false, Bool.false_and]
    exact ⟨_, rfl, rfl⟩
def bLawS (fh fr fg : FM) : SM := (sSeq (sAsg (eP (mCall fh (mCons (mD (mVar 0)) mNil))) (gNm 1))
    (sSeq (sFor (iP (mItA rng1 (mCons (mK (.int 4)) mNil))) (.nm 2) (sSeq (sIf (eNotT (eTrue (eCall fr [some 1] (eCons (eMov 1) eNil)))) (sSeq (sRet (eP (mK (.bool false))))
    sSkip) sSkip)
    (sSeq (sIf (eNotT (eTrue (eCall fg [some 1] (eCons (eMov 1) eNil)))) (sSeq (sRet (eP (mK (.bool false))))
    sSkip) sSkip)
    sSkip)))
    (sSeq (sRet (eP (mK (.bool true))))
    sSkip)))
/-- what is asked of a part of the law: it gives True, and a hand again -/
def Gives (f : FM) : Prop := ∀ h, HandOk h → (f [h]).wp fun r => ∃ h' : T, r = (.d (.bool true), [some h']) ∧ HandOk h'
theorem law_std {p q : Int} {fr fg : FM} (hq : Sm q) (hr : Gives fr) (hg : Gives fg) {ns : List Int} : ∃ us, fnM 1 2 [] (bLawS (fHandH p q) fr fg) [.d (.list (ns.map .int))] = .ok (.d (.bool true), us) := by
  suffices h : (fnM 1 2 [] (bLawS (fHandH p q) fr fg) [.d (.list (ns.map .int))]).wp fun r => r.1 = .d (.bool true) by
    obtain ⟨a, e, e2⟩ := h.ex
    exact ⟨a.2, by rw [e, ← e2]⟩
  rw [wp_fn]
  unfold bLawS
  refine wpS_seqK fun K hK => ?_
  simp only [wpS_if, wpS_asg, wpS_asgs, wpS_ret, wpS_drop, wpS_skip, wpS_for, wpS_nx, wpS_rt, wp_bind, wp_ok, wp_of_some, eTest, eP, eB, eFr, eFrs, eMov, eFrz, eCons, eNil, eLend, eBin, eCmp, eCmpT, e2, eApp, eTupS, eLstS, eIx, tD, eUn, eTrue, eNotT, eIf, eCall, mCall, pb_nil, pb_none, pb_some, eApnd, eExtd, ePop, ePopAt, eAndT, eOrT, iP, iE, iOne, mVar, mD, mK, mBin, mCmp, mCmpT, mChainT, mOfT, tTrue, mTrue, mAnd, mOr, mNot, mAndT, mOrT, mNotT, mIf, mUn, mNil, mCons, mApp, mTupS, mLstS, mPart, mSlice, tInt, mSliceR, mItems, mItA, mMeth, isLs, isTp, isSt, sAug, sAugI, gNm, gIx, gIx2, gPat, gTwo, gThree, gsNil, gsCons, tg_nm, tg_tp, tgs_nil, tgs_cons, Option.bind_some, of_some, of_none, bind_ok, wp_ite, wpS_ite, ev_eqI, ev_neI, ev_ltI, ev_gtI, ev_leI, ev_geI, ev_addI, ev_iaddI, ev_subI, ev_negI, ev_divI, ev_modI, ev_intI, ev_intB, ev_absI, ev_lenL, ev_lenD, ev_lenT, ev_minI, ev_maxI, ev_tupL, ev_tupD, ev_tupT, ev_listD, ev_listT, ev_listL, ev_getL, ev_getD, ev_getT, atI_0, atI_1, atI_2, atI_3, atI_4, atI_end, ev_sz, ixN_0, ixN_1, ixN_2, ixN_3, ixN_4, put_0, put_s, List.map_cons, List.map_nil, List.replicate_succ, List.replicate_zero, List.cons_append, List.nil_append, List.length_cons, List.length_nil, List.set_cons_zero, List.set_cons_succ, List.getElem?_cons_zero, List.getElem?_cons_succ, Option.map_some, Option.map_none, frz_d, frz_l, frzs_n, frzs_c, frzs_map, frzs_ints, outs_z, outs_s, List.contains_cons, List.contains_nil, decide_eq_true_eq, beq_iff_eq, bne_iff_ne, if_true, if_false, Bool.false_eq_true, Bool.not_eq_true, Bool.or_false, Bool.or_true, Bool.not_true, Bool.not_false, Nat.reduceAdd, Nat.reduceSub, Nat.reduceLT, Nat.reduceLeDiff, Nat.reduceBEq, Nat.reduceEqDiff, Int.reduceLT, Int.reduceLE, Int.reduceEq, Int.reduceNeg, Int.reducePow, Int.reduceToNat, Nat.zero_add, and_self, and_true, true_and, reduceIte, ev_cutD, ev_cutT, ev_cutL, it_L, it_D, it_T, it_S, cast0, cast1, Int.add_zero, Int.zero_add, Bool.and_true, Bool.true_and, Bool.and_self, Bool.and_false, Bool.false_and]
  refine (hand_ok hq).mono fun r h => ?_
  rw [hK]
  clear hK K
  refine wpS_seqK fun K hK => ?_
  simp only [rng1, show rngOk 4 = true by decide, wpS_if, wpS_asg, wpS_asgs, wpS_ret, wpS_drop, wpS_skip, wpS_for, wpS_nx, wpS_rt, wp_bind, wp_ok, wp_of_some, eTest, eP, eB, eFr, eFrs, eMov, eFrz, eCons, eNil, eLend, eBin, eCmp, eCmpT, e2, eApp, eTupS, eLstS, eIx, tD, eUn, eTrue, eNotT, eIf, eCall, mCall, pb_nil, pb_none, pb_some, eApnd, eExtd, ePop, ePopAt, eAndT, eOrT, iP, iE, iOne, mVar, mD, mK, mBin, mCmp, mCmpT, mChainT, mOfT, tTrue, mTrue, mAnd, mOr, mNot, mAndT, mOrT, mNotT, mIf, mUn, mNil, mCons, mApp, mTupS, mLstS, mPart, mSlice, tInt, mSliceR, mItems, mItA, mMeth, isLs, isTp, isSt, sAug, sAugI, gNm, gIx, gIx2, gPat, gTwo, gThree, gsNil, gsCons, tg_nm, tg_tp, tgs_nil, tgs_cons, Option.bind_some, of_some, of_none, bind_ok, wp_ite, wpS_ite, ev_eqI, ev_neI, ev_ltI, ev_gtI, ev_leI, ev_geI, ev_addI, ev_iaddI, ev_subI, ev_negI, ev_divI, ev_modI, ev_intI, ev_intB, ev_absI, ev_lenL, ev_lenD, ev_lenT, ev_minI, ev_maxI, ev_tupL, ev_tupD, ev_tupT, ev_listD, ev_listT, ev_listL, ev_getL, ev_getD, ev_getT, atI_0, atI_1, atI_2, atI_3, atI_4, atI_end, ev_sz, ixN_0, ixN_1, ixN_2, ixN_3, ixN_4, put_0, put_s, List.map_cons, List.map_nil, List.replicate_succ, List.replicate_zero, List.cons_append, List.nil_append, List.length_cons, List.length_nil, List.set_cons_zero, List.set_cons_succ, List.getElem?_cons_zero, List.getElem?_cons_succ, Option.map_some, Option.map_none, frz_d, frz_l, frzs_n, frzs_c, frzs_map, frzs_ints, outs_z, outs_s, List.contains_cons, List.contains_nil, decide_eq_true_eq, beq_iff_eq, bne_iff_ne, if_true, if_false, Bool.false_eq_true, Bool.not_eq_true, Bool.or_false, Bool.or_true, Bool.not_true, Bool.not_false, Nat.reduceAdd, Nat.reduceSub, Nat.reduceLT, Nat.reduceLeDiff, Nat.reduceBEq, Nat.reduceEqDiff, Int.reduceLT, Int.reduceLE, Int.reduceEq, Int.reduceNeg, Int.reducePow, Int.reduceToNat, Nat.zero_add, and_self, and_true, true_and, reduceIte, ev_cutD, ev_cutT, ev_cutL, it_L, it_D, it_T, it_S, cast0, cast1, Int.add_zero, Int.zero_add, Bool.and_true, Bool.true_and, Bool.and_self, Bool.and_false, Bool.false_and]
  refine wpS_fGo (fun _ e => ∃ h x, e = [some (.d (.list (ns.map .int))), some h, x] ∧ HandOk h) _ ⟨_, _, rfl, h⟩ ?_ ?_
  · rintro x post e _ ⟨h, y, rfl, hh⟩
    refine ⟨[some (.d (.list (ns.map .int))), some h, some (.d x)], by simp only [wpS_if, wpS_asg, wpS_asgs, wpS_ret, wpS_drop, wpS_skip, wpS_for, wpS_nx, wpS_rt, wp_bind, wp_ok, wp_of_some, eTest, eP, eB, eFr, eFrs, eMov, eFrz, eCons, eNil, eLend, eBin, eCmp, eCmpT, e2, eApp, eTupS, eLstS, eIx, tD, eUn, eTrue, eNotT, eIf, eCall, mCall, pb_nil, pb_none, pb_some, eApnd, eExtd, ePop, ePopAt, eAndT, eOrT, iP, iE, iOne, mVar, mD, mK, mBin, mCmp, mCmpT, mChainT, mOfT, tTrue, mTrue, mAnd, mOr, mNot, mAndT, mOrT, mNotT, mIf, mUn, mNil, mCons, mApp, mTupS, mLstS, mPart, mSlice, tInt, mSliceR, mItems, mItA, mMeth, isLs, isTp, isSt, sAug, sAugI, gNm, gIx, gIx2, gPat, gTwo, gThree, gsNil, gsCons, tg_nm, tg_tp, tgs_nil, tgs_cons, Option.bind_some, of_some, of_none, bind_ok, wp_ite, wpS_ite, ev_eqI, ev_neI, ev_ltI, ev_gtI, ev_leI, ev_geI, ev_addI, ev_iaddI, ev_subI, ev_negI, ev_divI, ev_modI, ev_intI, ev_intB, ev_absI, ev_lenL, ev_lenD, ev_lenT, ev_minI, ev_maxI, ev_tupL, ev_tupD, ev_tupT, ev_listD, ev_listT, ev_listL, ev_getL, ev_getD, ev_getT, atI_0, atI_1, atI_2, atI_3, atI_4, atI_end, ev_sz, ixN_0, ixN_1, ixN_2, ixN_3, ixN_4, put_0, put_s, List.map_cons, List.map_nil, List.replicate_succ, List.replicate_zero, List.cons_append, List.nil_append, List.length_cons, List.length_nil, List.set_cons_zero, List.set_cons_succ, List.getElem?_cons_zero, List.getElem?_cons_succ, Option.map_some, Option.map_none, frz_d, frz_l, frzs_n, frzs_c, frzs_map, frzs_ints, outs_z, outs_s, List.contains_cons, List.contains_nil, decide_eq_true_eq, beq_iff_eq, bne_iff_ne, if_true, if_false, Bool.false_eq_true, Bool.not_eq_true, Bool.or_false, Bool.or_true, Bool.not_true, Bool.not_false, Nat.reduceAdd, Nat.reduceSub, Nat.reduceLT, Nat.reduceLeDiff, Nat.reduceBEq, Nat.reduceEqDiff, Int.reduceLT, Int.reduceLE, Int.reduceEq, Int.reduceNeg, Int.reducePow, Int.reduceToNat, Nat.zero_add, and_self, and_true, true_and, reduceIte, ev_cutD, ev_cutT, ev_cutL, it_L, it_D, it_T, it_S, cast0, cast1, Int.add_zero, Int.zero_add, Bool.and_true, Bool.true_and, Bool.and_self, Bool.and_false, Bool.false_and], ?_⟩
    simp only [wpS_seq, wpS_if, wpS_asg, wpS_asgs, wpS_ret, wpS_drop, wpS_skip, wpS_for, wpS_nx, wpS_rt, wp_bind, wp_ok, wp_of_some, eTest, eP, eB, eFr, eFrs, eMov, eFrz, eCons, eNil, eLend, eBin, eCmp, eCmpT, e2, eApp, eTupS, eLstS, eIx, tD, eUn, eTrue, eNotT, eIf, eCall, mCall, pb_nil, pb_none, pb_some, eApnd, eExtd, ePop, ePopAt, eAndT, eOrT, iP, iE, iOne, mVar, mD, mK, mBin, mCmp, mCmpT, mChainT, mOfT, tTrue, mTrue, mAnd, mOr, mNot, mAndT, mOrT, mNotT, mIf, mUn, mNil, mCons, mApp, mTupS, mLstS, mPart, mSlice, tInt, mSliceR, mItems, mItA, mMeth, isLs, isTp, isSt, sAug, sAugI, gNm, gIx, gIx2, gPat, gTwo, gThree, gsNil, gsCons, tg_nm, tg_tp, tgs_nil, tgs_cons, Option.bind_some, of_some, of_none, bind_ok, wp_ite, wpS_ite, ev_eqI, ev_neI, ev_ltI, ev_gtI, ev_leI, ev_geI, ev_addI, ev_iaddI, ev_subI, ev_negI, ev_divI, ev_modI, ev_intI, ev_intB, ev_absI, ev_lenL, ev_lenD, ev_lenT, ev_minI, ev_maxI, ev_tupL, ev_tupD, ev_tupT, ev_listD, ev_listT, ev_listL, ev_getL, ev_getD, ev_getT, atI_0, atI_1, atI_2, atI_3, atI_4, atI_end, ev_sz, ixN_0, ixN_1, ixN_2, ixN_3, ixN_4, put_0, put_s, List.map_cons, List.map_nil, List.replicate_succ, List.replicate_zero, List.cons_append, List.nil_append, List.length_cons, List.length_nil, List.set_cons_zero, List.set_cons_succ, List.getElem?_cons_zero, List.getElem?_cons_succ, Option.map_some, Option.map_none, frz_d, frz_l, frzs_n, frzs_c, frzs_map, frzs_ints, outs_z, outs_s, List.contains_cons, List.contains_nil, decide_eq_true_eq, beq_iff_eq, bne_iff_ne, if_true, if_false, Bool.false_eq_true, Bool.not_eq_true, Bool.or_false, Bool.or_true, Bool.not_true, Bool.not_false, Nat.reduceAdd, Nat.reduceSub, Nat.reduceLT, Nat.reduceLeDiff, Nat.reduceBEq, Nat.reduceEqDiff, Int.reduceLT, Int.reduceLE, Int.reduceEq, Int.reduceNeg, Int.reducePow, Int.reduceToNat, Nat.zero_add, and_self, and_true, true_and, reduceIte, ev_cutD, ev_cutT, ev_cutL, it_L, it_D, it_T, it_S, cast0, cast1, Int.add_zero, Int.zero_add, Bool.and_true, Bool.true_and, Bool.and_self, Bool.and_false, Bool.false_and]
    refine (hr h hh).mono fun r ⟨h', er, hh'⟩ => ?_
    subst er
    simp only [wpS_if, wpS_asg, wpS_asgs, wpS_ret, wpS_drop, wpS_skip, wpS_for, wpS_nx, wpS_rt, wp_bind, wp_ok, wp_of_some, eTest, eP, eB, eFr, eFrs, eMov, eFrz, eCons, eNil, eLend, eBin, eCmp, eCmpT, e2, eApp, eTupS, eLstS, eIx, tD, eUn, eTrue, eNotT, eIf, eCall, mCall, pb_nil, pb_none, pb_some, eApnd, eExtd, ePop, ePopAt, eAndT, eOrT, iP, iE, iOne, mVar, mD, mK, mBin, mCmp, mCmpT, mChainT, mOfT, tTrue, mTrue, mAnd, mOr, mNot, mAndT, mOrT, mNotT, mIf, mUn, mNil, mCons, mApp, mTupS, mLstS, mPart, mSlice, tInt, mSliceR, mItems, mItA, mMeth, isLs, isTp, isSt, sAug, sAugI, gNm, gIx, gIx2, gPat, gTwo, gThree, gsNil, gsCons, tg_nm, tg_tp, tgs_nil, tgs_cons, Option.bind_some, of_some, of_none, bind_ok, wp_ite, wpS_ite, ev_eqI, ev_neI, ev_ltI, ev_gtI, ev_leI, ev_geI, ev_addI, ev_iaddI, ev_subI, ev_negI, ev_divI, ev_modI, ev_intI, ev_intB, ev_absI, ev_lenL, ev_lenD, ev_lenT, ev_minI, ev_maxI, ev_tupL, ev_tupD, ev_tupT, ev_listD, ev_listT, ev_listL, ev_getL, ev_getD, ev_getT, atI_0, atI_1, atI_2, atI_3, atI_4, atI_end, ev_sz, ixN_0, ixN_1, ixN_2, ixN_3, ixN_4, put_0, put_s, List.map_cons, List.map_nil, List.replicate_succ, List.replicate_zero, List.cons_append, List.nil_append, List.length_cons, List.length_nil, List.set_cons_zero, List.set_cons_succ, List.getElem?_cons_zero, List.getElem?_cons_succ, Option.map_some, Option.map_none, frz_d, frz_l, frzs_n, frzs_c, frzs_map, frzs_ints, outs_z, outs_s, List.contains_cons, List.contains_nil, decide_eq_true_eq, beq_iff_eq, bne_iff_ne, if_true, if_false, Bool.false_eq_true, Bool.not_eq_true, Bool.or_false, Bool.or_true, Bool.not_true, Bool.not_false, Nat.reduceAdd, Nat.reduceSub, Nat.reduceLT, Nat.reduceLeDiff, Nat.reduceBEq, Nat.reduceEqDiff, Int.reduceLT, Int.reduceLE, Int.reduceEq, Int.reduceNeg, Int.reducePow, Int.reduceToNat, Nat.zero_add, and_self, and_true, true_and, reduceIte, ev_cutD, ev_cutT, ev_cutL, it_L, it_D, it_T, it_S, cast0, cast1, Int.add_zero, Int.zero_add, Bool.and_true, Bool.true_and, Bool.and_self, Bool.and_false, Bool.false_and]
    refine (hg h' hh').mono fun r ⟨h2, er, hh2⟩ => ?_
    subst er
    simp only [wpS_if, wpS_asg, wpS_asgs, wpS_ret, wpS_drop, wpS_skip, wpS_for, wpS_nx, wpS_rt, wp_bind, wp_ok, wp_of_some, eTest, eP, eB, eFr, eFrs, eMov, eFrz, eCons, eNil, eLend, eBin, eCmp, eCmpT, e2, eApp, eTupS, eLstS, eIx, tD, eUn, eTrue, eNotT, eIf, eCall, mCall, pb_nil, pb_none, pb_some, eApnd, eExtd, ePop, ePopAt, eAndT, eOrT, iP, iE, iOne, mVar, mD, mK, mBin, mCmp, mCmpT, mChainT, mOfT, tTrue, mTrue, mAnd, mOr, mNot, mAndT, mOrT, mNotT, mIf, mUn, mNil, mCons, mApp, mTupS, mLstS, mPart, mSlice, tInt, mSliceR, mItems, mItA, mMeth, isLs, isTp, isSt, sAug, sAugI, gNm, gIx, gIx2, gPat, gTwo, gThree, gsNil, gsCons, tg_nm, tg_tp, tgs_nil, tgs_cons, Option.bind_some, of_some, of_none, bind_ok, wp_ite, wpS_ite, ev_eqI, ev_neI, ev_ltI, ev_gtI, ev_leI, ev_geI, ev_addI, ev_iaddI, ev_subI, ev_negI, ev_divI, ev_modI, ev_intI, ev_intB, ev_absI, ev_lenL, ev_lenD, ev_lenT, ev_minI, ev_maxI, ev_tupL, ev_tupD, ev_tupT, ev_listD, ev_listT, ev_listL, ev_getL, ev_getD, ev_getT, atI_0, atI_1, atI_2, atI_3, atI_4, atI_end, ev_sz, ixN_0, ixN_1, ixN_2, ixN_3, ixN_4, put_0, put_s, List.map_cons, List.map_nil, List.replicate_succ, List.replicate_zero, List.cons_append, List.nil_append, List.length_cons, List.length_nil, List.set_cons_zero, List.set_cons_succ, List.getElem?_cons_zero, List.getElem?_cons_succ, Option.map_some, Option.map_none, frz_d, frz_l, frzs_n, frzs_c, frzs_map, frzs_ints, outs_z, outs_s, List.contains_cons, List.contains_nil, decide_eq_true_eq, beq_iff_eq, bne_iff_ne, if_true, if_false, Bool.false_eq_true, Bool.not_eq_true, Bool.or_false, Bool.or_true, Bool.not_true, Bool.not_false, Nat.reduceAdd, Nat.reduceSub, Nat.reduceLT, Nat.reduceLeDiff, Nat.reduceBEq, Nat.reduceEqDiff, Int.reduceLT, Int.reduceLE, Int.reduceEq, Int.reduceNeg, Int.reducePow, Int.reduceToNat, Nat.zero_add, and_self, and_true, true_and, reduceIte, ev_cutD, ev_cutT, ev_cutL, it_L, it_D, it_T, it_S, cast0, cast1, Int.add_zero, Int.zero_add, Bool.and_true, Bool.true_and, Bool.and_self, Bool.and_false, Bool.false_and]
    exact ⟨_, _, rfl, hh2⟩
  · rintro e ⟨h, y, rfl, hh⟩
    rw [hK]
    simp only [wpS_seq, wpS_if, wpS_asg, wpS_asgs, wpS_ret, wpS_drop, wpS_skip, wpS_for, wpS_nx, wpS_rt, wp_bind, wp_ok, wp_of_some, eTest, eP, eB, eFr, eFrs, eMov, eFrz, eCons, eNil, eLend, eBin, eCmp, eCmpT, e2, eApp, eTupS, eLstS, eIx, tD, eUn, eTrue, eNotT, eIf, eCall, mCall, pb_nil, pb_none, pb_some, eApnd, eExtd, ePop, ePopAt, eAndT, eOrT, iP, iE, iOne, mVar, mD, mK, mBin, mCmp, mCmpT, mChainT, mOfT, tTrue, mTrue, mAnd, mOr, mNot, mAndT, mOrT, mNotT, mIf, mUn, mNil, mCons, mApp, mTupS, mLstS, mPart, mSlice, tInt, mSliceR, mItems, mItA, mMeth, isLs, isTp, isSt, sAug, sAugI, gNm, gIx, gIx2, gPat, gTwo, gThree, gsNil, gsCons, tg_nm, tg_tp, tgs_nil, tgs_cons, Option.bind_some, of_some, of_none, bind_ok, wp_ite, wpS_ite, ev_eqI, ev_neI, ev_ltI, ev_gtI, ev_leI, ev_geI, ev_addI, ev_iaddI, ev_subI, ev_negI, ev_divI, ev_modI, ev_intI, ev_intB, ev_absI, ev_lenL, ev_lenD, ev_lenT, ev_minI, ev_maxI, ev_tupL, ev_tupD, ev_tupT, ev_listD, ev_listT, ev_listL, ev_getL, ev_getD, ev_getT, atI_0, atI_1, atI_2, atI_3, atI_4, atI_end, ev_sz, ixN_0, ixN_1, ixN_2, ixN_3, ixN_4, put_0, put_s, List.map_cons, List.map_nil, List.replicate_succ, List.replicate_zero, List.cons_append, List.nil_append, List.length_cons, List.length_nil, List.set_cons_zero, List.set_cons_succ, List.getElem?_cons_zero, List.getElem?_cons_succ, Option.map_some, Option.map_none, frz_d, frz_l, frzs_n, frzs_c, frzs_map, frzs_ints, outs_z, outs_s, List.contains_cons, List.contains_nil, decide_eq_true_eq, beq_iff_eq, bne_iff_ne, if_true, if_false, Bool.false_eq_true, Bool.not_eq_true, Bool.or_false, Bool.or_true, Bool.not_true, Bool.not_false, Nat.reduceAdd, Nat.reduceSub, Nat.reduceLT, Nat.reduceLeDiff, Nat.reduceBEq, Nat.reduceEqDiff, Int.reduceLT, Int.reduceLE, Int.reduceEq, Int.reduceNeg, Int.reducePow, Int.reduceToNat, Nat.zero_add, and_self, and_true, true_and, reduceIte, ev_cutD, ev_cutT, ev_cutL, it_L, it_D, it_T, it_S, cast0, cast1, Int.add_zero, Int.zero_add, Bool.and_true, Bool.true_and, Bool.and_self, Bool.and_false, Bool.false_and]
end Mi

set_option maxHeartbeats 200000
namespace Mi
open PySem PySem.Spec
/-! ### how long what repr shows is -/
mutual
def wt : PyData → Nat
  | .none => 4
  | .bool _ => 5
  | .int i => i.natAbs.log2 + 3
  | .str x => 10 * x.length + 2
  | .list xs => wts xs + 4
  | .tuple xs => wts xs + 4
  | .dict _ => 0
def wts : List PyData → Nat
  | [] => 0
  | x :: xs => wt x + 2 + wts xs
end
theorem nat_len (n : Nat) : (Nat.repr n).length ≤ n.log2 + 1 := by
  refine (Nat.length_repr_le_iff (Nat.succ_pos _)).mpr ?_
  have h := Nat.lt_log2_self (n := n)
  exact Nat.lt_of_lt_of_le h (Nat.pow_le_pow_left (by decide) _)
theorem int_len (i : Int) : (toString i : String).length ≤ i.natAbs.log2 + 2 := by
  cases i with
  | ofNat n => exact Nat.le_succ_of_le (nat_len n)
  | negSucc n =>
    show ("-" ++ Nat.repr (n + 1)).length ≤ _
    rw [String.length_append]
    have := nat_len (n + 1)
    have e : (Int.negSucc n).natAbs = n + 1 := rfl
    rw [e]
    have : ("-" : String).length = 1 := rfl
    omega
theorem ofString_len (s : String) : (Str.ofString s).length = s.length := by
  show (cpsOfBytes 0 0 s.toByteArray.data.toList).toArray.size = _
  rw [cpsOfBytes_string, List.size_toArray, List.length_map]
  exact String.length_toList ..
end Mi

set_option maxHeartbeats 200000
namespace Mi
open PySem PySem.Spec L2

/-! ### loops over rows -/
theorem wpS_fn {g : Tg} {b : SM} {env : Env} {Qn : Env → Prop} {Qr : T → Env → Prop} : (fGo g b [] env).wpS Qn Qr = Qn env := propext Iff.rfl
theorem wpS_fc {g : Tg} {b : SM} {x : PyData} {xs : List PyData} {env : Env} {Qn : Env → Prop} {Qr : T → Env → Prop} : (fGo g b (x :: xs) env).wpS Qn Qr = (Rs.of (g.put x env)).wp fun e => (b e).wpS (fun e2 => (fGo g b xs e2).wpS Qn Qr) Qr := by
  rw [fGo]
  cases g.put x env with
  | none => rfl
  | some e =>
    show (match b e with
      | .ok (.nx, env2) => fGo g b xs env2
      | r => r).wpS _ _ = (b e).wpS _ _
    rcases b e with ⟨fl, e2⟩ | c | _
    · cases fl <;> rfl
    · rfl
    · rfl
section
variable {α : Type} {g : Tg} {b : SM} {Qn : Env → Prop} {Qr : T → Env → Prop}
theorem wpS_fL (f : α → PyData) (I : List α → List α → Env → Prop) (xs : List α)
    (st : ∀ pre x post env, xs = pre ++ x :: post → I pre (x :: post) env → (Rs.of (g.put (f x) env)).wp fun e => (b e).wpS (I (pre ++ [x]) post) Qr) (k : ∀ env, I xs [] env → Qn env) :
    ∀ (post pre : List α) {env : Env}, xs = pre ++ post → I pre post env → (fGo g b (post.map f) env).wpS Qn Qr
  | [], pre, env, e, h => by
    rw [List.append_nil] at e
    subst e
    exact k _ h
  | x :: post, pre, env, e, h => by
    rw [List.map_cons, wpS_fc]
    refine (st pre x post env e h).mono fun e1 h1 => h1.mono (fun e2 h2 => ?_) fun _ _ z => z
    exact wpS_fL f I xs st k post (pre ++ [x]) (by rw [e, List.append_assoc]; rfl) h2
theorem wpS_fE (f : α → PyData) (I : List α → List α → Env → Prop) (xs : List α)
    (st : ∀ pre x post env, xs = pre ++ x :: post → I pre (x :: post) env → (Rs.of (g.put (.tuple [.int pre.length, f x]) env)).wp fun e => (b e).wpS (I (pre ++ [x]) post) Qr) (k : ∀ env, I xs [] env → Qn env) :
    ∀ (post pre : List α) {env : Env}, xs = pre ++ post → I pre post env → (fGo g b (enumI pre.length (post.map f)) env).wpS Qn Qr
  | [], pre, env, e, h => by
    rw [List.append_nil] at e
    subst e
    exact k _ h
  | x :: post, pre, env, e, h => by
    rw [List.map_cons, enumI, wpS_fc]
    refine (st pre x post env e h).mono fun e1 h1 => h1.mono (fun e2 h2 => ?_) fun _ _ z => z
    have q := wpS_fE f I xs st k post (pre ++ [x]) (by rw [e, List.append_assoc]; rfl) h2
    rwa [List.length_append] at q
/-- range(n) -/
theorem wpS_fR (lo : Int) (I : Nat → Env → Prop) (n : Nat)
    (st : ∀ i env, i < n → I i env → (Rs.of (g.put (.int (lo + i)) env)).wp fun e => (b e).wpS (I (i + 1)) Qr) (k : ∀ env, I n env → Qn env) :
    ∀ (m i : Nat) {env : Env}, i + m = n → I i env → (fGo g b (rng (lo + i) m) env).wpS Qn Qr
  | 0, i, env, e, h => by
    have : i = n := by omega
    subst this
    exact k _ h
  | m + 1, i, env, e, h => by
    rw [rng, wpS_fc]
    refine (st i env (by omega) h).mono fun e1 h1 => h1.mono (fun e2 h2 => ?_) fun _ _ z => z
    have q := wpS_fR lo I n st k m (i + 1) (by omega) h2
    rwa [show lo + ((i + 1 : Nat) : Int) = lo + i + 1 by omega] at q
end
theorem rng_ln (lo : Int) (n : Nat) : (rng lo n).length = n := by
  induction n generalizing lo with
  | zero => rfl
  | succ n ih => simp [rng, ih]
theorem rng1_ok {n : Int} (h0 : 0 ≤ n) (h1 : n < 4611686018427387904) : rng1 [.d (.int n)] = some (rng 0 n.toNat) := by
  show (if rngOk n = true then _ else _) = _
  rw [if_pos]
  unfold rngOk
  rw [decide_eq_true (by omega), decide_eq_true (by omega)]; rfl
theorem rng2_ok {m n : Int} (h0 : -4611686018427387904 ≤ m) (h1 : m < 4611686018427387904) (h2 : -4611686018427387904 ≤ n) (h3 : n < 4611686018427387904) : rng2 [.d (.int m), .d (.int n)] = some (rng m (n - m).toNat) := by
  show (if (rngOk m && rngOk n) = true then _ else _) = _
  rw [if_pos]
  unfold rngOk
  rw [decide_eq_true (by omega), decide_eq_true (by omega), decide_eq_true (by omega), decide_eq_true (by omega)]; rfl
/-! ### own rows of ints -/
def fI (i : Int) : T := .d (.int i)
theorem atI_fI {ns : List Int} {i : Int} : L2.atI (ns.map fI) i = (L2.atI ns i).map fI := by
  unfold L2.atI
  rw [List.length_map]
  cases ixN ns.length i with
  | none => rfl
  | some j => simp
theorem set_fI {ns : List Int} {j : Nat} {y : Int} : (ns.map fI).set j (.d (.int y)) = (ns.set j y).map fI := by rw [List.map_set]; rfl
theorem app_fI {ns : List Int} {y : Int} : ns.map fI ++ [.d (.int y)] = (ns ++ [y]).map fI := by rw [List.map_append]; rfl
theorem frz_fI {ns : List Int} : T.frzs (ns.map fI) = ns.map .int := frzs_ints ns
theorem datas_fI {ns : List Int} : T.datas (ns.map fI) = some (ns.map .int) := datas_ints ns
theorem map_fI {ns : List Int} : (ns.map PyData.int).map T.d = ns.map fI := by rw [List.map_map]; rfl
theorem enum0 {xs : List PyData} : enumI 0 [] = [] := rfl
theorem enumc {i : Nat} {x : PyData} {xs : List PyData} : enumI i (x :: xs) = .tuple [.int i, x] :: enumI (i + 1) xs := Eq.trans rfl rfl
theorem enumn {i : Nat} : enumI i [] = [] := Eq.trans rfl rfl
theorem mul_row {k : Int} {y : Int} (h0 : 0 ≤ k) (h1 : k ≤ 100000) : oMul (.l [.d (.int y)]) (.d (.int k)) = some (.l ((List.replicate k.toNat y).map fI)) := by
  show (match T.datas [T.d (.int y)] with
    | some xs => if 0 ≤ k ∧ k ≤ 100000 ∧ xs.length ≤ 100 then some (T.l ((rep k.toNat xs).map .d)) else none
    | none => none) = _
  simp only [T.datas, Option.map_some, List.length_cons, List.length_nil]
  rw [if_pos ⟨h0, h1, by omega⟩]
  have : ∀ n : Nat, (rep n [PyData.int y]).map T.d = (List.replicate n y).map fI := by
    intro n
    induction n with
    | zero => rfl
    | succ n ih =>
      have e : rep (n + 1) [PyData.int y] = .int y :: rep n [PyData.int y] := by unfold rep; rw [List.replicate_succ]; rfl
      rw [e, List.map_cons, ih, List.replicate_succ, List.map_cons]; rfl
  rw [this]
section
variable {α : Type} {A R : List α} {y z v : α} {n : Nat}
theorem at_A (h : A.length = n) : L2.atI (A ++ y :: R) (n : Int) = some y := by
  subst h
  rw [Mi.atI_nat]; simp
theorem set_A : ∀ {A : List α} {n : Nat} (h : A.length = n), (A ++ y :: R).set n z = A ++ z :: R
  | [], _, h => by subst h; rfl
  | a :: A, _, h => by
    subst h
    simp only [List.cons_append, List.length_cons, List.set_cons_succ, set_A rfl]
theorem ix_A {m : Nat} (h : n < m) : ixN m (n : Int) = some n := ixN_nat h
theorem at_A1 (h : A.length = n) : L2.atI (A ++ v :: y :: R) ((n : Int) + 1) = some y := by
  have := at_A (A := A ++ [v]) (R := R) (y := y) (n := n + 1) (by simp [h])
  rwa [List.append_assoc] at this
theorem set_A1 (h : A.length = n) : (A ++ v :: y :: R).set (n + 1) z = A ++ v :: z :: R := by
  have := set_A (A := A ++ [v]) (R := R) (y := y) (z := z) (n := n + 1) (by simp [h])
  rwa [List.append_assoc, List.append_assoc] at this
theorem ix_A1 {m : Nat} (h : n + 1 < m) : ixN m ((n : Int) + 1) = some (n + 1) := ixN_nat h
end
/-! ### comprehensions over a row -/
section
variable {α : Type} {g : Tg} {tt : Env → Rs Bool} {te : PM} {env : Env}
theorem lcMa (k : α → PyData) (f : α → T) : ∀ (xs : List α), (∀ x ∈ xs, (Rs.of (g.put (k x) env)).wp fun e => (te e).wp fun t => t = f x) → lcGo g mYes te env (xs.map k) = .ok (xs.map f)
  | [], _ => rfl
  | x :: xs, h => by
    have h1 := h x List.mem_cons_self
    obtain ⟨e, q1, q2⟩ := h1.ex
    cases ep : g.put (k x) env with
    | none => rw [ep] at q1; cases q1
    | some e' =>
      rw [ep] at q1
      cases q1
      rw [List.map_cons, lcGo, ep]
      simp only [mYes, q2.eq, lcMa k f xs fun y hy => h y (List.mem_cons_of_mem _ hy), List.map_cons]
theorem lcFa (k : α → PyData) (p : α → Bool) (f : α → T) : ∀ (xs : List α), (∀ x ∈ xs, (Rs.of (g.put (k x) env)).wp fun e => ((tt e).wp fun b => b = p x) ∧ (p x = true → (te e).wp fun t => t = f x)) → lcGo g tt te env (xs.map k) = .ok ((xs.filter p).map f)
  | [], _ => rfl
  | x :: xs, h => by
    have h1 := h x List.mem_cons_self
    obtain ⟨e, q1, q2, q3⟩ := h1.ex
    have ih := lcFa k p f xs fun y hy => h y (List.mem_cons_of_mem _ hy)
    cases ep : g.put (k x) env with
    | none => rw [ep] at q1; cases q1
    | some e' =>
      rw [ep] at q1
      cases q1
      rw [List.map_cons, lcGo, ep]
      cases hp : p x with
      | true => simp only [q2.eq, hp, (q3 hp).eq, ih, List.filter_cons_of_pos, List.map_cons]
      | false => simp only [q2.eq, hp, ih]; rw [List.filter_cons_of_neg (by simp [hp])]
theorem boolsD_map (p : α → Bool) : ∀ xs : List α, boolsD (xs.map fun x => PyData.bool (p x)) = some (xs.map p)
  | [] => rfl
  | x :: xs => by rw [List.map_cons, boolsD, boolsD_map p xs]; rfl
theorem datas_of (p : α → PyData) : ∀ xs : List α, T.datas (xs.map fun x => T.d (p x)) = some (xs.map p)
  | [] => rfl
  | x :: xs => by rw [List.map_cons, T.datas, datas_of p xs]; rfl
theorem frzs_of (p : α → PyData) : ∀ xs : List α, T.frzs (xs.map fun x => T.d (p x)) = xs.map p
  | [] => by rw [List.map_nil, T.frzs]; rfl
  | x :: xs => by rw [List.map_cons, T.frzs, frzs_of p xs, T.frz]; rfl
theorem all_of (p : α → Bool) (xs : List α) : bAll [.l (xs.map fun x => T.d (.bool (p x)))] = some (.d (.bool (xs.all p))) := by
  show Option.map _ ((T.datas _).bind boolsD) = _
  rw [datas_of fun x => PyData.bool (p x)]
  simp only [Option.bind_some, boolsD_map, Option.map_some, List.all_map]
  rfl
theorem any_of (p : α → Bool) (xs : List α) : bAny [.l (xs.map fun x => T.d (.bool (p x)))] = some (.d (.bool (xs.any p))) := by
  show Option.map _ ((T.datas _).bind boolsD) = _
  rw [datas_of fun x => PyData.bool (p x)]
  simp only [Option.bind_some, boolsD_map, Option.map_some, List.any_map]
  rfl
end
/-! ### repr of both is the same -/
/-- it can be shown, in w signs at most, nested k deep at most -/
structure Sh (w k : Nat) (d : PyData) : Prop where
  sb : d.showable = true
  nd : d.hasDict = false
  dp : d.depth ≤ k
  ln : d.shown.length ≤ w
theorem Sh.up {w k w' k' : Nat} {d : PyData} (h : Sh w k d) (hw : w ≤ w') (hk : k ≤ k') : Sh w' k' d := ⟨h.sb, h.nd, Nat.le_trans h.dp hk, Nat.le_trans h.ln hw⟩
theorem sh_non : Sh 4 0 .none := ⟨rfl, rfl, Nat.le_refl _, by show (Str.ofString "None").length ≤ 4; decide +kernel⟩
theorem sh_bool {b : Bool} : Sh 5 0 (.bool b) := ⟨rfl, rfl, Nat.le_refl _, by cases b <;> decide +kernel⟩
theorem sh_int {i : Int} (h : i.natAbs < 2 ^ 100) : Sh 110 0 (.int i) := by
  have hl : i.natAbs.log2 < 100 := by
    rcases Nat.eq_zero_or_pos i.natAbs with z | z
    · rw [z]; decide
    · exact (Nat.log2_lt (by omega)).mpr h
  refine ⟨by simp only [PyData.showable, decide_eq_true_eq]; omega, rfl, Nat.le_refl _, ?_⟩
  have e : (PyData.shown (.int i)).length = (toString i : String).length := ofString_len _
  rw [e]
  have := int_len i
  omega
theorem sh_str {x : Str} {w : Nat} (h : (reprText x).length ≤ w) : Sh w 0 (.str x) := ⟨rfl, rfl, Nat.le_refl _, h⟩
theorem shs {w k : Nat} : ∀ {xs : List PyData}, (∀ x ∈ xs, Sh w k x) → PyData.showableAll xs = true ∧ PyData.hasDictAll xs = false ∧ PyData.depthAll xs ≤ k ∧ ((PyData.shownAll xs).map (·.length)).sum + 2 * (PyData.shownAll xs).length ≤ xs.length * (w + 2)
  | [], _ => ⟨rfl, rfl, Nat.zero_le _, by simp [PyData.shownAll]⟩
  | x :: xs, h => by
    obtain ⟨h1, h2, h3, h4⟩ := shs fun y hy => h y (List.mem_cons_of_mem _ hy)
    have q := h x List.mem_cons_self
    refine ⟨by rw [PyData.showableAll, q.sb, h1]; rfl, by rw [PyData.hasDictAll, q.nd, h2]; rfl, by rw [PyData.depthAll]; exact Nat.max_le.mpr ⟨q.dp, h3⟩, ?_⟩
    have := q.ln
    have e1 := Nat.add_mul xs.length 1 (w + 2)
    rw [PyData.shownAll, List.map_cons, List.sum_cons, List.length_cons, List.length_cons]
    omega
theorem sh_list {w k n : Nat} {xs : List PyData} (h : ∀ x ∈ xs, Sh w k x) (hn : xs.length ≤ n) : Sh (n * (w + 2) + 3) (k + 1) (.list xs) := by
  obtain ⟨h1, h2, h3, h4⟩ := shs h
  refine ⟨by rw [PyData.showable]; exact h1, by rw [PyData.hasDict]; exact h2, by rw [PyData.depth]; omega, ?_⟩
  rw [PyData.shown]
  have := listText_len_le (PyData.shownAll xs)
  have := Nat.mul_le_mul_right (w + 2) hn
  omega
theorem sh_tup {w k n : Nat} {xs : List PyData} (h : ∀ x ∈ xs, Sh w k x) (hn : xs.length ≤ n) : Sh (n * (w + 2) + 3) (k + 1) (.tuple xs) := by
  obtain ⟨h1, h2, h3, h4⟩ := shs h
  refine ⟨by rw [PyData.showable]; exact h1, by rw [PyData.hasDict]; exact h2, by rw [PyData.depth]; omega, ?_⟩
  rw [PyData.shown]
  have := tupleText_len_le (PyData.shownAll xs)
  have := Nat.mul_le_mul_right (w + 2) hn
  omega
theorem repr_ok {w k : Nat} {t : T} (h : Sh w k t.frz) (hw : w ≤ 16777216) (hk : k ≤ 60) : bRepr [t] = some (.d (.str t.frz.shown)) := by
  show (if (t.frz.showable && !t.frz.hasDict && decide (t.frz.depth ≤ 60) && decide (t.frz.shown.length ≤ sizeLine)) = true then some (T.d (PyData.str t.frz.shown)) else none) = _
  have hd := h.dp
  have hl := h.ln
  have : sizeLine = 16777216 := rfl
  rw [if_pos]
  rw [h.sb, h.nd, decide_eq_true (by omega), decide_eq_true (by omega)]
  rfl
theorem eq_str {x : Str} : cEq (.d (.str x)) (.d (.str x)) = some true := by
  show (if min (T.d (.str x)).frz.depth (T.d (.str x)).frz.depth ≤ 60 then some (PyData.eqv (T.d (.str x)).frz (T.d (.str x)).frz) else none) = some true
  rw [frz_d, PyData.depth, if_pos (by omega), PyData.eqv, beq_self_eq_true]
def bIsS : SM := (sSeq (sRet (eP (mCmp cEq (mApp bRepr (mCons (mVar 0) mNil)) (mApp bRepr (mCons (mVar 1) mNil)))))
    sSkip)
def fIsS : FM := fnM 2 0 [] bIsS
theorem is_ok {w k : Nat} {t u : T} (e : t.frz = u.frz) (h : Sh w k u.frz) (hw : w ≤ 16777216) (hk : k ≤ 60) : fIsS [t, u] = .ok (.d (.bool true), [none, none]) := by
  refine Rs.wp.eq ?_
  unfold fIsS
  rw [wp_fn]
  unfold bIsS
  simp only [wpS_seq, repr_ok h hw hk, repr_ok (t := t) (e ▸ h) hw hk, e, eq_str, wpS_if, wpS_asg, wpS_asgs, wpS_ret, wpS_drop, wpS_skip, wpS_for, wpS_nx, wpS_rt, wp_bind, wp_ok, wp_of_some, eTest, eP, eB, eFr, eFrs, eMov, eFrz, eCons, eNil, eLend, eBin, eCmp, eCmpT, e2, eApp, eTupS, eLstS, eIx, tD, eUn, eTrue, eNotT, eIf, eCall, mCall, pb_nil, pb_none, pb_some, eApnd, eExtd, ePop, ePopAt, eAndT, eOrT, iP, iE, iOne, mVar, mD, mK, mBin, mCmp, mCmpT, mChainT, mOfT, tTrue, mTrue, mAnd, mOr, mNot, mAndT, mOrT, mNotT, mIf, mUn, mNil, mCons, mApp, mTupS, mLstS, mPart, mSlice, tInt, mSliceR, mItems, mItA, mMeth, isLs, isTp, isSt, sAug, sAugI, gNm, gIx, gIx2, gPat, gTwo, gThree, gsNil, gsCons, tg_nm, tg_tp, tgs_nil, tgs_cons, Option.bind_some, of_some, of_none, bind_ok, wp_ite, wpS_ite, ev_eqI, ev_neI, ev_ltI, ev_gtI, ev_leI, ev_geI, ev_addI, ev_iaddI, ev_subI, ev_negI, ev_divI, ev_modI, ev_intI, ev_intB, ev_absI, ev_lenL, ev_lenD, ev_lenT, ev_minI, ev_maxI, ev_tupL, ev_tupD, ev_tupT, ev_listD, ev_listT, ev_listL, ev_getL, ev_getD, ev_getT, atI_0, atI_1, atI_2, atI_3, atI_4, atI_end, ev_sz, ixN_0, ixN_1, ixN_2, ixN_3, ixN_4, put_0, put_s, List.map_cons, List.map_nil, List.replicate_succ, List.replicate_zero, List.cons_append, List.nil_append, List.length_cons, List.length_nil, List.set_cons_zero, List.set_cons_succ, List.getElem?_cons_zero, List.getElem?_cons_succ, Option.map_some, Option.map_none, frz_d, frz_l, frzs_n, frzs_c, frzs_map, frzs_ints, outs_z, outs_s, List.contains_cons, List.contains_nil, decide_eq_true_eq, beq_iff_eq, bne_iff_ne, if_true, if_false, Bool.false_eq_true, Bool.not_eq_true, Bool.or_false, Bool.or_true, Bool.not_true, Bool.not_false, Nat.reduceAdd, Nat.reduceSub, Nat.reduceLT, Nat.reduceLeDiff, Nat.reduceBEq, Nat.reduceEqDiff, Int.reduceLT, Int.reduceLE, Int.reduceEq, Int.reduceNeg, Int.reducePow, Int.reduceToNat, Nat.zero_add, and_self, and_true, true_and, reduceIte, ev_cutD, ev_cutT, ev_cutL, it_L, it_D, it_T, it_S, cast0, cast1, Int.add_zero, Int.zero_add, Bool.and_true, Bool.true_and, Bool.and_self, Bool.and_false, Bool.false_and]
/-! ### comprehensions that draw -/
theorem eLcGo_wp {g : Tg} {te : EM} {vs : List Nat} (J : Env → Prop) (P : T → Prop) : ∀ (xs : List PyData) {env : Env}, J env → (∀ x ∈ xs, ∀ env, J env → (Rs.of (g.put x env)).wp fun e => (te e).wp fun p => P p.1 ∧ J (wipeE p.2 vs)) → (eLcGo g eYes te vs xs env).wp fun p => p.1.length = xs.length ∧ (∀ t ∈ p.1, P t) ∧ J p.2
  | [], env, h, _ => ⟨rfl, fun _ h => (nomatch h), h⟩
  | x :: xs, env, h, st => by
    obtain ⟨e, q1, q2⟩ := (st x List.mem_cons_self env h).ex
    cases ep : g.put x env with
    | none => rw [ep] at q1; cases q1
    | some e' =>
      rw [ep] at q1
      cases q1
      obtain ⟨p, q3, q4, q5⟩ := q2.ex
      obtain ⟨p2, q6, q7, q8, q9⟩ := (eLcGo_wp J P xs q5 fun y hy => st y (List.mem_cons_of_mem _ hy)).ex
      rw [eLcGo, ep]
      simp only [eYes, q3, q6]
      exact ⟨by simp [q7], fun t ht => by
        rcases List.mem_cons.mp ht with rfl | ht
        · exact q4
        · exact q8 t ht, q9⟩
theorem eLc_wp {im : Env → Rs (List PyData × Env)} {g : Tg} {te : EM} {vs : List Nat} {env : Env} {Q : T × Env → Prop} (h : (im env).wp fun p => (vs.all (plainAt p.2) && nodupB vs && decide (p.1.length ≤ sizeLine)) = true ∧ (eLcGo g eYes te vs p.1 (wipeE p.2 vs)).wp fun q => Q (.l q.1, restE p.2 vs q.2)) : (eLc im g eYes te vs env).wp Q := by
  unfold eLc
  rw [wp_bind]
  refine h.mono fun p ⟨h1, h2⟩ => ?_
  rw [if_pos h1]
  obtain ⟨q, e, hq⟩ := h2.ex
  rw [e]
  exact hq
theorem of_map {α : Type} {f : α → T} {R : α → Prop} : ∀ {ts : List T}, (∀ t ∈ ts, ∃ a, t = f a ∧ R a) → ∃ as : List α, ts = as.map f ∧ ∀ a ∈ as, R a
  | [], _ => ⟨[], rfl, fun _ h => (nomatch h)⟩
  | t :: ts, h => by
    obtain ⟨a, e, r⟩ := h t List.mem_cons_self
    obtain ⟨as, e2, r2⟩ := of_map fun t' ht => h t' (List.mem_cons_of_mem _ ht)
    exact ⟨a :: as, by rw [e, e2]; rfl, fun b hb => by
      rcases List.mem_cons.mp hb with rfl | hb
      · exact r
      · exact r2 b hb⟩
/-! ### sorted -/
def ile (a b : Int) : Bool := decide (a ≤ b)
theorem dle_int {a b : Int} : dle (.int a) (.int b) = ile a b := by
  unfold dle ile
  show (!PySem.W.dataLt (.int b) (.int a)) = _
  rw [PySem.W.dataLt_int]
  by_cases h : a ≤ b
  · rw [decide_eq_true h, decide_eq_false (by omega)]; rfl
  · rw [decide_eq_false h, decide_eq_true (by omega)]; rfl
theorem ins_map {α β : Type} {f : α → β} {le : α → α → Bool} {le2 : β → β → Bool} (h : ∀ a b, le2 (f a) (f b) = le a b) (x : α) : ∀ ys : List α, ins le2 (f x) (ys.map f) = (ins le x ys).map f
  | [] => rfl
  | y :: ys => by
    rw [List.map_cons, ins, ins, h]
    split
    · rfl
    · rw [ins_map h x ys]; rfl
theorem isort_map {α β : Type} {f : α → β} {le : α → α → Bool} {le2 : β → β → Bool} (h : ∀ a b, le2 (f a) (f b) = le a b) : ∀ ys : List α, isort le2 (ys.map f) = (isort le ys).map f
  | [] => rfl
  | y :: ys => by rw [List.map_cons, isort, isort, isort_map h ys, ins_map h]
theorem mem_ins {α : Type} {le : α → α → Bool} {x z : α} : ∀ {ys : List α}, z ∈ ins le x ys ↔ z = x ∨ z ∈ ys
  | [] => by simp [ins]
  | y :: ys => by
    rw [ins]
    split
    · simp
    · rw [List.mem_cons, mem_ins, List.mem_cons]
      constructor
      · rintro (h | h | h) <;> simp [h]
      · rintro (h | h | h) <;> simp [h]
theorem mem_isort {α : Type} {le : α → α → Bool} {z : α} : ∀ {ys : List α}, z ∈ isort le ys ↔ z ∈ ys
  | [] => Iff.rfl
  | y :: ys => by rw [isort, mem_ins, mem_isort, List.mem_cons]
theorem len_ins {α : Type} {le : α → α → Bool} {x : α} : ∀ {ys : List α}, (ins le x ys).length = ys.length + 1
  | [] => rfl
  | y :: ys => by
    rw [ins]
    split
    · rfl
    · rw [List.length_cons, len_ins, List.length_cons]
theorem len_isort {α : Type} {le : α → α → Bool} : ∀ {ys : List α}, (isort le ys).length = ys.length
  | [] => rfl
  | y :: ys => by rw [isort, len_ins, len_isort, List.length_cons]
theorem ins_sorted {x : Int} : ∀ {ys : List Int}, ys.Pairwise (· ≤ ·) → (ins ile x ys).Pairwise (· ≤ ·)
  | [], _ => by simp [ins]
  | y :: ys, h => by
    rw [ins]
    rw [List.pairwise_cons] at h
    split
    · rename_i hx
      have hx : x ≤ y := by simpa [ile] using hx
      refine List.pairwise_cons.mpr ⟨fun z hz => ?_, List.pairwise_cons.mpr h⟩
      rcases List.mem_cons.mp hz with rfl | hz
      · exact hx
      · exact Int.le_trans hx (h.1 z hz)
    · rename_i hx
      have hx : ¬ x ≤ y := by simpa [ile] using hx
      refine List.pairwise_cons.mpr ⟨fun z hz => ?_, ins_sorted h.2⟩
      rcases mem_ins.mp hz with rfl | hz
      · omega
      · exact h.1 z hz
theorem isort_sorted : ∀ (ys : List Int), (isort ile ys).Pairwise (· ≤ ·)
  | [] => .nil
  | y :: ys => ins_sorted (isort_sorted ys)
theorem sorted_ok {ns : List Int} (h : ns.length ≤ 1000) : bSorted [.l (ns.map fI)] = some (.l ((isort ile ns).map fI)) := by
  show (T.datas (ns.map fI)).bind _ = _
  rw [datas_fI, Option.bind_some, if_pos, isort_map (fun a b => dle_int), map_fI]
  have h1 : alikesB (ns.map .int) = true := by
    unfold alikesB
    rw [List.all_eq_true]
    intro a ha
    rw [List.all_eq_true]
    intro b hb
    obtain ⟨i, _, rfl⟩ := List.mem_map.mp ha
    obtain ⟨j, _, rfl⟩ := List.mem_map.mp hb
    rfl
  have h2 : (ns.map PyData.int).all notTup = true := by
    rw [List.all_eq_true]
    intro a ha
    obtain ⟨i, _, rfl⟩ := List.mem_map.mp ha
    rfl
  have h3 : ((ns.map PyData.int).all fun d => decide (d.depth ≤ 60)) = true := by
    rw [List.all_eq_true]
    intro a ha
    obtain ⟨i, _, rfl⟩ := List.mem_map.mp ha
    exact decide_eq_true (Nat.zero_le _)
  have : sizeLine = 16777216 := rfl
  unfold sortOk
  rw [h1, h2, h3, decide_eq_true (by rw [List.length_map]; omega), Bool.or_true]
  rfl
end Mi

set_option maxHeartbeats 4000000
namespace K22
open PySem PySem.Spec PyProof.Rows L2 Mi
variable [Tb]

def topS (i : Nat) : Stmt := PySem.Challenge.pw_roomscut_k22_whole_refusals_of_runs.main.body.getD i (.Pass ⟨0, 0, 0, 0⟩)
def wd : Nat → Option Str := fun c => ([some "other", some "number", some "planes", some "poly", some "integer", some "run"] : List (Option Str)).getD c none
def isub (c j : Nat) : Bool := (([[true, false, false, false, false, false], [true, true, false, false, false, false], [true, false, true, false, false, false], [true, false, false, true, false, false], [true, false, false, false, true, false], [true, false, false, false, false, true]] : List (List Bool)).getD c []).getD j false
structure G (K : PySem.W.Frag) (mg : Str → Option Value) (ct : Nat → Addr) : Prop where
  b_abs : mg "abs" = none
  b_all : mg "all" = none
  b_any : mg "any" = none
  b_bool : mg "bool" = none
  b_enumerate : mg "enumerate" = none
  b_int : mg "int" = none
  b_isinstance : mg "isinstance" = none
  b_len : mg "len" = none
  b_list : mg "list" = none
  b_max : mg "max" = none
  b_min : mg "min" = none
  b_range : mg "range" = none
  b_repr : mg "repr" = none
  b_sorted : mg "sorted" = none
  b_tuple : mg "tuple" = none
  b_zip : mg "zip" = none
  k_LEAST_N : GK K mg "LEAST_N" (.int 2)
  k_LEAST_SPACE : GK K mg "LEAST_SPACE" (.int 2)
  k_MOST_END : GK K mg "MOST_END" (.int 20)
  k_MOST_N : GK K mg "MOST_N" (.int 12)
  k_MOST_PLANES : GK K mg "MOST_PLANES" (.int 30)
  k_MOST_ROOT : GK K mg "MOST_ROOT" (.int 400)
  k_MOST_SIZE : GK K mg "MOST_SIZE" (.int 1000000000000000000000000000000)
  k_MOST_SPACE : GK K mg "MOST_SPACE" (.int 5)
  k_MOST_X : GK K mg "MOST_X" (.int 1000000000)
  x_NoInteger : EK K mg ct "NoInteger" 4
  x_NoNumber : EK K mg ct "NoNumber" 1
  x_NoPlanes : EK K mg ct "NoPlanes" 2
  x_NoPoly : EK K mg ct "NoPoly" 3
  x_NoRun : EK K mg ct "NoRun" 5
  x_0 : mg "CutError" = some (.ref (ct 0))
  x_w : ∀ c w, wd c = some w → ExcC K (ct c)
  x_is : ∀ c w, wd c = some w → ∀ j ∈ ([1, 5, 3, 4, 2] : List Nat), PySem.W.kitOne K (.ref (ct c)) (.ref (ct j)) = some (isub c j)
  x_err : ∀ c w, wd c = some w → PySem.W.exmOne K (.ref (ct c)) (.ref (ct 0)) = some true
variable {P : Program} {w : World} {K : PySem.W.Frag} {mg : Str → Option Value} {base : Heap} {ct : Nat → Addr}
/-! _law_hand -/
abbrev s__law_hand : Stmt := topS 43
def b__law_hand : SM := (sSeq (sAsg (eP (mLc (mItems true (mSlice (mVar 0) none (some (mK (.int 59))))) (.nm 2) mYes (mApp bAbs (mCons (mApp bInt (mCons (mVar 2) mNil)) mNil)) [2])) (gNm 1))
    (sSeq (sRet (eLstS (eCons (eFrz 1) (eCons (eP (mK (.int 0))) (eCons (eP (mK (.int 0))) (eCons (eP (mBin oAdd (mK (.int 71167)) (mBin oMul (mK (.int 21)) (mApp bLen (mCons (mVar 1) mNil))))) (eCons (eP (mK (.int 0))) eNil)))))))
    sSkip))
def f__law_hand : FM := fnM 1 2 [] b__law_hand
theorem sc__law_hand : FnScope ["script", "cells", "cell"] ["script"] (defScope s__law_hand) := ⟨rfl, rfl, rfl, by decide +kernel, rfl, by decide +kernel, by decide +kernel⟩
theorem w__law_hand (g : G K mg ct) {fa : Addr} {cdv : Value} {A : Around} {outer : List PySem.Env} {s : Shared} {H : Hp} {E : XK} (hr : Room 0 (A.deeper (envOfC "_law_hand" (defScope s__law_hand) s.heap.objs.size fa cdv))) (hgd : A.guards = some []) :
    SSs (cxOf (L2.CX P w) P w K mg base ["script", "cells", "cell"] "_law_hand" (defScope s__law_hand) fa cdv A outer s H E) ct E [] (defBody s__law_hand) b__law_hand :=
  have S := sc__law_hand
  have tk : Takes (cxOf (L2.CX P w) P w K mg base ["script", "cells", "cell"] "_law_hand" (defScope s__law_hand) fa cdv A outer s H E) (fun cls d _ H => E cls d H) := takes_of rfl rfl rfl rfl
  have hx : Passes (L2.CX P w) (cxOf (L2.CX P w) P w K mg base ["script", "cells", "cell"] "_law_hand" (defScope s__law_hand) fa cdv A outer s H E) E := passes_call tk fun _ _ _ _ h => h
  have hp := passes_of (X := cxOf (L2.CX P w) P w K mg base ["script", "cells", "cell"] "_law_hand" (defScope s__law_hand) fa cdv A outer s H E) rfl
  (sss_cons (ss_setLc rfl S.nd (si_val (SP.v (sp_slice (sv_var 0) so_none (so_some (SP.v sp_int))))) (blkOk_by (own := [("cell", 2)]) (by kernel_rfl)) (fun _ _ _ _ _ => (sg_name S.nd (i := 2))) (fun _ _ _ _ _ => (sp_callB cal_abs (by rfl) g.b_abs (by decide +kernel) (svs_cons (SP.v (sp_callT cal_int (by rfl) g.b_int (by decide +kernel) (svs_cons (sv_var 2) svs_nil))) svs_nil))) (by decide) (sw_true (by rfl) (by rfl) (by rfl) (by rfl)) (i := 1))
      (sss_cons (ss_ret (se_lst (ses_cons (se_frz 1) (ses_cons (SP.en sp_int) (ses_cons (SP.en sp_int) (ses_cons (SP.en (sp_bin opo_add (SP.v sp_int) (SP.v (sp_bin opo_mul (SP.v sp_int) (SP.v (sp_callB cal_len (by rfl) g.b_len (by decide +kernel) (svs_cons (sv_var 1) svs_nil))))))) (ses_cons (SP.en sp_int) ses_nil)))))))
      sss_nil))
/-! _law_draw -/
abbrev s__law_draw : Stmt := topS 44
def b__law_draw : SM := (sSeq (sIf (eTest (mAndT (mCmpT cEq (mBin iGet (mVar 0) (mK (.int 2))) (mK (.int 0))) (mCmpT cLt (mBin iGet (mVar 0) (mK (.int 1))) (mApp bLen (mCons (mBin iGet (mVar 0) (mK (.int 0))) mNil))))) (sSeq (sAsg (eP (mD (mBin iGet (mBin iGet (mVar 0) (mK (.int 0))) (mBin iGet (mVar 0) (mK (.int 1)))))) (gNm 3))
    (sSeq (sAsg (eP (mBin oAdd (mBin iGet (mVar 0) (mK (.int 1))) (mK (.int 1)))) (gIx 0 (mK (.int 1))))
    (sSeq (sAsg (eP (mBin oMod (mApp bInt (mCons (mBin oAdd (mBin oAdd (mBin oMul (mBin iGet (mVar 0) (mK (.int 3))) (mK (.int 69621))) (mBin oMul (mVar 3) (mK (.int 40692)))) (mK (.int 85))) mNil)) (mK (.int 2147483629)))) (gIx 0 (mK (.int 3))))
    (sSeq (sIf (eTest (mCmpT cGe (mVar 3) (mBin oPow (mK (.int 10)) (mK (.int 18))))) (sSeq (sAsg (eFrz 3) (gIx 0 (mK (.int 2))))
    sSkip) sSkip)
    sSkip)))) sSkip)
    (sSeq (sIf (eTest (mCmpT cGt (mBin iGet (mVar 0) (mK (.int 2))) (mK (.int 0)))) (sSeq (sAsg (eP (mBin oMod (mApp bInt (mCons (mBin iGet (mVar 0) (mK (.int 2))) mNil)) (mVar 1))) (gNm 4))
    (sSeq (sAsg (eP (mBin oDiv (mBin iGet (mVar 0) (mK (.int 2))) (mVar 1))) (gIx 0 (mK (.int 2))))
    (sSeq (sRet (eMov 4))
    sSkip))) sSkip)
    (sSeq (sAsg (eP (mBin oAdd (mBin iGet (mVar 0) (mK (.int 4))) (mK (.int 1)))) (gIx 0 (mK (.int 4))))
    (sSeq (sAsg (eP (mBin oMod (mApp bInt (mCons (mBin oMul (mApp bInt (mCons (mBin oAdd (mBin iGet (mVar 0) (mK (.int 3))) (mBin oMul (mK (.int 7919)) (mBin iGet (mVar 0) (mK (.int 4))))) mNil)) (mK (.int 48271))) mNil)) (mK (.int 2147483647)))) (gNm 2))
    (sSeq (sAsg (eP (mBin oMod (mApp bInt (mCons (mBin oMul (mVar 2) (mBin oAdd (mBin oDiv (mVar 2) (mK (.int 1009))) (mK (.int 69621)))) mNil)) (mK (.int 2147483647)))) (gNm 2))
    (sSeq (sAsg (eP (mBin oMod (mApp bInt (mCons (mBin oMul (mVar 2) (mBin oAdd (mBin oDiv (mVar 2) (mK (.int 2003))) (mK (.int 40014)))) mNil)) (mK (.int 2147483563)))) (gNm 2))
    (sSeq (sRet (eP (mBin oMod (mApp bInt (mCons (mBin oDiv (mVar 2) (mK (.int 16))) mNil)) (mVar 1))))
    sSkip)))))))
def f__law_draw : FM := fnM 2 3 [0] b__law_draw
theorem sc__law_draw : FnScope ["hand", "many", "number", "cell", "digit"] ["hand", "many"] (defScope s__law_draw) := ⟨rfl, rfl, rfl, by decide +kernel, rfl, by decide +kernel, by decide +kernel⟩
theorem w__law_draw (g : G K mg ct) {fa : Addr} {cdv : Value} {A : Around} {outer : List PySem.Env} {s : Shared} {H : Hp} {E : XK} (hr : Room 0 (A.deeper (envOfC "_law_draw" (defScope s__law_draw) s.heap.objs.size fa cdv))) (hgd : A.guards = some []) :
    SSs (cxOf (L2.CX P w) P w K mg base ["hand", "many", "number", "cell", "digit"] "_law_draw" (defScope s__law_draw) fa cdv A outer s H E) ct E [0] (defBody s__law_draw) b__law_draw :=
  have S := sc__law_draw
  have tk : Takes (cxOf (L2.CX P w) P w K mg base ["hand", "many", "number", "cell", "digit"] "_law_draw" (defScope s__law_draw) fa cdv A outer s H E) (fun cls d _ H => E cls d H) := takes_of rfl rfl rfl rfl
  have hx : Passes (L2.CX P w) (cxOf (L2.CX P w) P w K mg base ["hand", "many", "number", "cell", "digit"] "_law_draw" (defScope s__law_draw) fa cdv A outer s H E) E := passes_call tk fun _ _ _ _ h => h
  have hp := passes_of (X := cxOf (L2.CX P w) P w K mg base ["hand", "many", "number", "cell", "digit"] "_law_draw" (defScope s__law_draw) fa cdv A outer s H E) rfl
  (sss_cons (ss_if (STt.en (SW.t (sw_and (stt_cmp (opc_eq hr) (sv_ix (sv_var 0) (SP.v sp_int) (by intro _ _; rfl)) (SP.v sp_int) (nomark _)) (sw_and1 (stt_cmp (opc_lt hr) (sv_ix (sv_var 0) (SP.v sp_int) (by intro _ _; rfl)) (SP.v (sp_callB cal_len (by rfl) g.b_len (by decide +kernel) (svs_cons (sv_ix (sv_var 0) (SP.v sp_int) (by intro _ _; rfl)) svs_nil))) (nomark _)))))) (sss_cons (ss_asg (SP.en (sp_ix (sv_ix (sv_var 0) (SP.v sp_int) (by intro _ _; rfl)) (sv_ix (sv_var 0) (SP.v sp_int) (by intro _ _; rfl)) (by intro _ _; rfl))) (sge_name S.nd (i := 3)))
      (sss_cons (ss_asg (SP.en (sp_bin opo_add (sv_ix (sv_var 0) (SP.v sp_int) (by intro _ _; rfl)) (SP.v sp_int))) (sge_ix 0 (SP.v sp_int)))
      (sss_cons (ss_asg (SP.en (sp_bin opo_mod (SP.v (sp_callT cal_int (by rfl) g.b_int (by decide +kernel) (svs_cons (SP.v (sp_bin opo_add (SP.v (sp_bin opo_add (SP.v (sp_bin opo_mul (sv_ix (sv_var 0) (SP.v sp_int) (by intro _ _; rfl)) (SP.v sp_int))) (SP.v (sp_bin opo_mul (sv_var 3) (SP.v sp_int))))) (SP.v sp_int))) svs_nil))) (SP.v sp_int))) (sge_ix 0 (SP.v sp_int)))
      (sss_cons (ss_if (STt.en (stt_cmp (opc_ge hr) (sv_var 3) (SP.v (sp_bin opo_pow (SP.v sp_int) (SP.v sp_int))) (nomark _))) (sss_cons (ss_asg (se_frz 3) (sge_ix 0 (SP.v sp_int)))
      sss_nil) sss_nil)
      sss_nil)))) sss_nil)
      (sss_cons (ss_if (STt.en (stt_cmp (opc_gt hr) (sv_ix (sv_var 0) (SP.v sp_int) (by intro _ _; rfl)) (SP.v sp_int) (nomark _))) (sss_cons (ss_asg (SP.en (sp_bin opo_mod (SP.v (sp_callT cal_int (by rfl) g.b_int (by decide +kernel) (svs_cons (sv_ix (sv_var 0) (SP.v sp_int) (by intro _ _; rfl)) svs_nil))) (sv_var 1))) (sge_name S.nd (i := 4)))
      (sss_cons (ss_asg (SP.en (sp_bin opo_div (sv_ix (sv_var 0) (SP.v sp_int) (by intro _ _; rfl)) (sv_var 1))) (sge_ix 0 (SP.v sp_int)))
      (sss_cons (ss_ret (se_mov 4))
      sss_nil))) sss_nil)
      (sss_cons (ss_asg (SP.en (sp_bin opo_add (sv_ix (sv_var 0) (SP.v sp_int) (by intro _ _; rfl)) (SP.v sp_int))) (sge_ix 0 (SP.v sp_int)))
      (sss_cons (ss_asg (SP.en (sp_bin opo_mod (SP.v (sp_callT cal_int (by rfl) g.b_int (by decide +kernel) (svs_cons (SP.v (sp_bin opo_mul (SP.v (sp_callT cal_int (by rfl) g.b_int (by decide +kernel) (svs_cons (SP.v (sp_bin opo_add (sv_ix (sv_var 0) (SP.v sp_int) (by intro _ _; rfl)) (SP.v (sp_bin opo_mul (SP.v sp_int) (sv_ix (sv_var 0) (SP.v sp_int) (by intro _ _; rfl)))))) svs_nil))) (SP.v sp_int))) svs_nil))) (SP.v sp_int))) (sge_name S.nd (i := 2)))
      (sss_cons (ss_asg (SP.en (sp_bin opo_mod (SP.v (sp_callT cal_int (by rfl) g.b_int (by decide +kernel) (svs_cons (SP.v (sp_bin opo_mul (sv_var 2) (SP.v (sp_bin opo_add (SP.v (sp_bin opo_div (sv_var 2) (SP.v sp_int))) (SP.v sp_int))))) svs_nil))) (SP.v sp_int))) (sge_name S.nd (i := 2)))
      (sss_cons (ss_asg (SP.en (sp_bin opo_mod (SP.v (sp_callT cal_int (by rfl) g.b_int (by decide +kernel) (svs_cons (SP.v (sp_bin opo_mul (sv_var 2) (SP.v (sp_bin opo_add (SP.v (sp_bin opo_div (sv_var 2) (SP.v sp_int))) (SP.v sp_int))))) svs_nil))) (SP.v sp_int))) (sge_name S.nd (i := 2)))
      (sss_cons (ss_ret (SP.en (sp_bin opo_mod (SP.v (sp_callT cal_int (by rfl) g.b_int (by decide +kernel) (svs_cons (SP.v (sp_bin opo_div (sv_var 2) (SP.v sp_int))) svs_nil))) (sv_var 1))))
      sss_nil)))))))
/-! _law_any -/
abbrev s__law_any : Stmt := topS 45
def b__law_any : SM := (sSeq (sRet (eIx (eFrz 1) (eCall f__law_draw [some 0, none] (eCons (eMov 0) (eCons (eFr (eP (mApp bLen (mCons (mVar 1) mNil)))) eNil)))))
    sSkip)
def f__law_any : FM := fnM 2 0 [0] b__law_any
theorem sc__law_any : FnScope ["hand", "some"] ["hand", "some"] (defScope s__law_any) := ⟨rfl, rfl, rfl, by decide +kernel, rfl, by decide +kernel, by decide +kernel⟩
theorem w__law_any (g : G K mg ct) (c__law_draw : Cal P w K mg base ct "_law_draw" 1 2 f__law_draw) {fa : Addr} {cdv : Value} {A : Around} {outer : List PySem.Env} {s : Shared} {H : Hp} {E : XK} (hr : Room 1 (A.deeper (envOfC "_law_any" (defScope s__law_any) s.heap.objs.size fa cdv))) (hgd : A.guards = some []) :
    SSs (cxOf (L2.CX P w) P w K mg base ["hand", "some"] "_law_any" (defScope s__law_any) fa cdv A outer s H E) ct E [0] (defBody s__law_any) b__law_any :=
  have S := sc__law_any
  have tk : Takes (cxOf (L2.CX P w) P w K mg base ["hand", "some"] "_law_any" (defScope s__law_any) fa cdv A outer s H E) (fun cls d _ H => E cls d H) := takes_of rfl rfl rfl rfl
  have hx : Passes (L2.CX P w) (cxOf (L2.CX P w) P w K mg base ["hand", "some"] "_law_any" (defScope s__law_any) fa cdv A outer s H E) E := passes_call tk fun _ _ _ _ h => h
  have hp := passes_of (X := cxOf (L2.CX P w) P w K mg base ["hand", "some"] "_law_any" (defScope s__law_any) fa cdv A outer s H E) rfl
  (sss_cons (ss_ret (se_ix (se_frz 1) (se_callC c__law_draw hr hgd hx (sls_lend 0 (sls_cons (SE.fr (SP.en (sp_callB cal_len (by rfl) g.b_len (by decide +kernel) (svs_cons (sv_var 1) svs_nil)))) sls_nil))) (by intro _ _; rfl)))
      sss_nil)
/-! _law_refusal -/
abbrev s__law_refusal : Stmt := topS 46
def b__law_refusal (c : Nat) : SM := (sSeq (sAsg (eLstS (eCons (eB (isub c 1)) (eCons (eB (isub c 5)) (eCons (eB (isub c 3)) eNil)))) (gNm 2))
    (sSeq (sAsg (eBin oAdd (eMov 2) (eLstS (eCons (eB (isub c 4)) (eCons (eB (isub c 2)) eNil)))) (gNm 2))
    (sSeq (sAsg (eP (mLstS (mCons (mK (.str "number")) (mCons (mK (.str "run")) (mCons (mK (.str "poly")) (mCons (mK (.str "integer")) (mCons (mK (.str "planes")) mNil))))))) (gNm 3))
    (sSeq (sRet (eP (mIf (mCmpT cEq (mMeth isLs xCountL (mVar 2) (mCons (mK (.bool true)) mNil)) (mK (.int 1))) (mD (mBin iGet (mVar 3) (mMeth isLs xIndex (mVar 2) (mCons (mK (.bool true)) mNil)))) (mK (.str "other")))))
    sSkip))))
theorem sc__law_refusal : FnScope ["call", "error", "flags", "words"] ["call"] (defScope s__law_refusal) := ⟨rfl, rfl, rfl, by decide +kernel, rfl, by decide +kernel, by decide +kernel⟩
theorem gives__law_refusal (g : G K mg ct) {ga : Addr} {cdg : Value} (X : Cx) (q : Str) (h1 : X.prog = P) (h2 : X.w = w) (h3 : X.K = K) (h4 : X.mg = mg) (h5 : X.base = base) :
    GivesG X ["call", "error", "flags", "words"] "_law_refusal" (defScope s__law_refusal) ga cdg (defBody s__law_refusal) "call" q (RefTT ct wd) := by
  subst h1 h2 h3 h4 h5
  have S := sc__law_refusal
  refine tells (hm := b__law_refusal) (cc := .ref (ct 0)) S rfl (by decide +kernel) (by decide +kernel) (by decide) g.x_0 g.x_err ?_ ?_
  · intro s H ad oe pn c w hrm hwd hz hf
    have hun : ((cxOf C8.CX0 X.prog X.w X.K X.mg X.base ["call", "error", "flags", "words"] "_law_refusal" (defScope s__law_refusal) ga cdg X.A X.stack s H C8.E0).suite ad ((ad, oe) :: pn)).A.units + 100 < cLine := by have := hrm.un; exact Nat.lt_of_le_of_lt (by simp only [Nat.mul_zero, Nat.add_zero]; exact Nat.add_le_add_left (by decide) _) this
    have hZ : ∀ σ σ' : Sg, Pn [1] σ σ' → σ[1]? = some (some (.ref ad)) → σ'[1]? = some (some (.ref ad)) := fun σ σ' p h => (p 1 (by decide)).trans h
    have S_v : Vis (defScope s__law_refusal) "error" := Or.inl rfl
    exact (sssz_cons hZ (ssz_asg (sez_lst (sesz_cons (sez_isE (i := 1) (g.x_w c w hwd) hz hf (by rfl) g.b_isinstance rfl S_v (by rfl) g.x_NoNumber.mg (g.x_is c w hwd 1 (by decide))) (sesz_cons (sez_isE (i := 1) (g.x_w c w hwd) hz hf (by rfl) g.b_isinstance rfl S_v (by rfl) g.x_NoRun.mg (g.x_is c w hwd 5 (by decide))) (sesz_cons (sez_isE (i := 1) (g.x_w c w hwd) hz hf (by rfl) g.b_isinstance rfl S_v (by rfl) g.x_NoPoly.mg (g.x_is c w hwd 3 (by decide))) sesz_nil)))) (sge_name S.nd (i := 2)))
      (sssz_cons hZ (ssz_asg (sez_bin opo_add (se_mov 2) (sez_lst (sesz_cons (sez_isE (i := 1) (g.x_w c w hwd) hz hf (by rfl) g.b_isinstance rfl S_v (by rfl) g.x_NoInteger.mg (g.x_is c w hwd 4 (by decide))) (sesz_cons (sez_isE (i := 1) (g.x_w c w hwd) hz hf (by rfl) g.b_isinstance rfl S_v (by rfl) g.x_NoPlanes.mg (g.x_is c w hwd 2 (by decide))) sesz_nil)))) (sge_name S.nd (i := 2)))
      (SSs.z (sss_cons (ss_asg (SP.en (sp_lst (sps_cons (sp_str "number" rfl) (sps_cons (sp_str "run" rfl) (sps_cons (sp_str "poly" rfl) (sps_cons (sp_str "integer" rfl) (sps_cons (sp_str "planes" rfl) sps_nil))))))) (sge_name S.nd (i := 3)))
      (sss_cons (ss_ret (SP.en (sp_if (stt_cmp (opc_eqU hun) (SP.v (sp_meth ty_ls PySem.F.plainAttrs_list PySem.F.slot_list_count PySem.F.type_list_count (mtr_countU hun) (sv_var 2) (svs_cons (SP.v sp_bl) svs_nil))) (SP.v sp_int) (nomark _)) (sp_ix (sv_var 3) (SP.v (sp_meth ty_ls PySem.F.plainAttrs_list PySem.F.slot_list_index PySem.F.type_list_index (mtr_indexU hun) (sv_var 2) (svs_cons (SP.v sp_bl) svs_nil))) (by intro _ _; rfl)) (sp_str "other" rfl))))
      sss_nil)))))
  · exact fun c w hwd => words_ok (b := b__law_refusal) (by decide +kernel) c w hwd
/-! is_integer -/
abbrev s_is_integer : Stmt := topS 11
def b_is_integer : SM := (sSeq (sRet (eP (mAnd (mIsa PyData.isInt (mVar 0)) (mNot (mIsa PyData.isBool (mVar 0))))))
    sSkip)
def f_is_integer : FM := fnM 1 0 [] b_is_integer
theorem sc_is_integer : FnScope ["thing"] ["thing"] (defScope s_is_integer) := ⟨rfl, rfl, rfl, by decide +kernel, rfl, by decide +kernel, by decide +kernel⟩
theorem w_is_integer (g : G K mg ct) {fa : Addr} {cdv : Value} {A : Around} {outer : List PySem.Env} {s : Shared} {H : Hp} {E : XK} (hr : Room 0 (A.deeper (envOfC "is_integer" (defScope s_is_integer) s.heap.objs.size fa cdv))) (hgd : A.guards = some []) :
    SSs (cxOf (L2.CX P w) P w K mg base ["thing"] "is_integer" (defScope s_is_integer) fa cdv A outer s H E) ct E [] (defBody s_is_integer) b_is_integer :=
  have S := sc_is_integer
  have tk : Takes (cxOf (L2.CX P w) P w K mg base ["thing"] "is_integer" (defScope s_is_integer) fa cdv A outer s H E) (fun cls d _ H => E cls d H) := takes_of rfl rfl rfl rfl
  have hx : Passes (L2.CX P w) (cxOf (L2.CX P w) P w K mg base ["thing"] "is_integer" (defScope s_is_integer) fa cdv A outer s H E) E := passes_call tk fun _ _ _ _ h => h
  have hp := passes_of (X := cxOf (L2.CX P w) P w K mg base ["thing"] "is_integer" (defScope s_is_integer) fa cdv A outer s H E) rfl
  (sss_cons (ss_ret (SP.en (sp_and (SP.v (sp_isa isa_int (by rfl) g.b_isinstance (by rfl) g.b_int (by decide +kernel) (sv_var 0))) (sp_one (sp_not (SP.v (sp_isa isa_bool (by rfl) g.b_isinstance (by rfl) g.b_bool (by decide +kernel) (sv_var 0))))))))
      sss_nil)
/-! is_within -/
abbrev s_is_within : Stmt := topS 12
def b_is_within : SM := (sSeq (sRet (eP (mAnd (mCall f_is_integer (mCons (mD (mVar 0)) mNil)) (mOfT (mChainT cLe cLe (mVar 1) (mVar 0) (mVar 2))))))
    sSkip)
def f_is_within : FM := fnM 3 0 [] b_is_within
theorem sc_is_within : FnScope ["thing", "low", "high"] ["thing", "low", "high"] (defScope s_is_within) := ⟨rfl, rfl, rfl, by decide +kernel, rfl, by decide +kernel, by decide +kernel⟩
theorem w_is_within (g : G K mg ct) (c_is_integer : Cal P w K mg base ct "is_integer" 1 1 f_is_integer) {fa : Addr} {cdv : Value} {A : Around} {outer : List PySem.Env} {s : Shared} {H : Hp} {E : XK} (hr : Room 1 (A.deeper (envOfC "is_within" (defScope s_is_within) s.heap.objs.size fa cdv))) (hgd : A.guards = some []) :
    SSs (cxOf (L2.CX P w) P w K mg base ["thing", "low", "high"] "is_within" (defScope s_is_within) fa cdv A outer s H E) ct E [] (defBody s_is_within) b_is_within :=
  have S := sc_is_within
  have tk : Takes (cxOf (L2.CX P w) P w K mg base ["thing", "low", "high"] "is_within" (defScope s_is_within) fa cdv A outer s H E) (fun cls d _ H => E cls d H) := takes_of rfl rfl rfl rfl
  have hx : Passes (L2.CX P w) (cxOf (L2.CX P w) P w K mg base ["thing", "low", "high"] "is_within" (defScope s_is_within) fa cdv A outer s H E) E := passes_call tk fun _ _ _ _ h => h
  have hp := passes_of (X := cxOf (L2.CX P w) P w K mg base ["thing", "low", "high"] "is_within" (defScope s_is_within) fa cdv A outer s H E) rfl
  (sss_cons (ss_ret (SP.en (sp_and (SP.v (sp_callC c_is_integer hr hgd hx (sps_cons (sp_var 0) sps_nil))) (sp_one (sp_chain (opc_le hr) (opc_le hr) (sv_var 1) (sv_var 0) (sv_var 2))))))
      sss_nil)
/-! check_space -/
abbrev s_check_space : Stmt := topS 13
def b_check_space : SM := (sSeq (sIf (eTest (mNotT (mTrue (mCall f_is_within (mCons (mD (mVar 0)) (mCons (mK (.int 2)) (mCons (mK (.int 5)) mNil))))))) (sSeq (sRaise 1)
    sSkip) sSkip)
    sSkip)
def f_check_space : FM := fnM 1 0 [] b_check_space
theorem sc_check_space : FnScope ["n"] ["n"] (defScope s_check_space) := ⟨rfl, rfl, rfl, by decide +kernel, rfl, by decide +kernel, by decide +kernel⟩
theorem w_check_space (g : G K mg ct) (c_is_within : Cal P w K mg base ct "is_within" 2 3 f_is_within) {fa : Addr} {cdv : Value} {A : Around} {outer : List PySem.Env} {s : Shared} {H : Hp} {E : XK} (hr : Room 2 (A.deeper (envOfC "check_space" (defScope s_check_space) s.heap.objs.size fa cdv))) (hgd : A.guards = some []) :
    SSs (cxOf (L2.CX P w) P w K mg base ["n"] "check_space" (defScope s_check_space) fa cdv A outer s H E) ct E [] (defBody s_check_space) b_check_space :=
  have S := sc_check_space
  have tk : Takes (cxOf (L2.CX P w) P w K mg base ["n"] "check_space" (defScope s_check_space) fa cdv A outer s H E) (fun cls d _ H => E cls d H) := takes_of rfl rfl rfl rfl
  have hx : Passes (L2.CX P w) (cxOf (L2.CX P w) P w K mg base ["n"] "check_space" (defScope s_check_space) fa cdv A outer s H E) E := passes_call tk fun _ _ _ _ h => h
  have hp := passes_of (X := cxOf (L2.CX P w) P w K mg base ["n"] "check_space" (defScope s_check_space) fa cdv A outer s H E) rfl
  (sss_cons (ss_if (STt.en (stt_not (stt_val (SP.v (sp_callC c_is_within hr hgd hx (sps_cons (sp_var 0) (sps_cons (sp_gk g.k_LEAST_SPACE) (sps_cons (sp_gk g.k_MOST_SPACE) sps_nil)))))))) (sss_cons (ss_raiseC 1 g.x_NoNumber rfl tk)
      sss_nil) sss_nil)
      sss_nil)
/-! check_run -/
abbrev s_check_run : Stmt := topS 27
def b_check_run : SM := (sSeq (sIf (eTest (mOrT (mNotT (mTrue (mCall f_is_within (mCons (mD (mVar 0)) (mCons (mUn oNeg (mK (.int 20))) (mCons (mK (.int 1)) mNil)))))) (mOrT (mNotT (mTrue (mCall f_is_within (mCons (mD (mVar 1)) (mCons (mUn oNeg (mK (.int 1))) (mCons (mK (.int 20)) mNil)))))) (mCmpT cGt (mVar 0) (mVar 1))))) (sSeq (sRaise 5)
    sSkip) sSkip)
    sSkip)
def f_check_run : FM := fnM 2 0 [] b_check_run
theorem sc_check_run : FnScope ["low", "high"] ["low", "high"] (defScope s_check_run) := ⟨rfl, rfl, rfl, by decide +kernel, rfl, by decide +kernel, by decide +kernel⟩
theorem w_check_run (g : G K mg ct) (c_is_within : Cal P w K mg base ct "is_within" 2 3 f_is_within) {fa : Addr} {cdv : Value} {A : Around} {outer : List PySem.Env} {s : Shared} {H : Hp} {E : XK} (hr : Room 2 (A.deeper (envOfC "check_run" (defScope s_check_run) s.heap.objs.size fa cdv))) (hgd : A.guards = some []) :
    SSs (cxOf (L2.CX P w) P w K mg base ["low", "high"] "check_run" (defScope s_check_run) fa cdv A outer s H E) ct E [] (defBody s_check_run) b_check_run :=
  have S := sc_check_run
  have tk : Takes (cxOf (L2.CX P w) P w K mg base ["low", "high"] "check_run" (defScope s_check_run) fa cdv A outer s H E) (fun cls d _ H => E cls d H) := takes_of rfl rfl rfl rfl
  have hx : Passes (L2.CX P w) (cxOf (L2.CX P w) P w K mg base ["low", "high"] "check_run" (defScope s_check_run) fa cdv A outer s H E) E := passes_call tk fun _ _ _ _ h => h
  have hp := passes_of (X := cxOf (L2.CX P w) P w K mg base ["low", "high"] "check_run" (defScope s_check_run) fa cdv A outer s H E) rfl
  (sss_cons (ss_if (STt.en (SW.t (sw_or (stt_not (stt_val (SP.v (sp_callC c_is_within hr hgd hx (sps_cons (sp_var 0) (sps_cons (sp_un unr_neg (SP.v (sp_gk g.k_MOST_END))) (sps_cons sp_int sps_nil))))))) (sw_or (stt_not (stt_val (SP.v (sp_callC c_is_within hr hgd hx (sps_cons (sp_var 1) (sps_cons (sp_un unr_neg (SP.v sp_int)) (sps_cons (sp_gk g.k_MOST_END) sps_nil))))))) (sw_or1 (stt_cmp (opc_gt hr) (sv_var 0) (sv_var 1) (nomark _))))))) (sss_cons (ss_raiseC 5 g.x_NoRun rfl tk)
      sss_nil) sss_nil)
      sss_nil)
/-! all_pairs -/
abbrev s_all_pairs : Stmt := topS 14
def b_all_pairs : SM := (sSeq (sRet (eP (mLc2 (mItA rng1 (mCons (mVar 0) mNil)) (.nm 1) mYes (mItA rng1 (mCons (mVar 1) mNil)) (.nm 2) mYes (mTupS (mCons (mD (mVar 2)) (mCons (mD (mVar 1)) mNil))) [1, 2] [2])))
    sSkip)
def f_all_pairs : FM := fnM 1 2 [] b_all_pairs
theorem sc_all_pairs : FnScope ["n", "j", "i"] ["n"] (defScope s_all_pairs) := ⟨rfl, rfl, rfl, by decide +kernel, rfl, by decide +kernel, by decide +kernel⟩
theorem w_all_pairs (g : G K mg ct) {fa : Addr} {cdv : Value} {A : Around} {outer : List PySem.Env} {s : Shared} {H : Hp} {E : XK} (hr : Room 0 (A.deeper (envOfC "all_pairs" (defScope s_all_pairs) s.heap.objs.size fa cdv))) (hgd : A.guards = some []) :
    SSs (cxOf (L2.CX P w) P w K mg base ["n", "j", "i"] "all_pairs" (defScope s_all_pairs) fa cdv A outer s H E) ct E [] (defBody s_all_pairs) b_all_pairs :=
  have S := sc_all_pairs
  have tk : Takes (cxOf (L2.CX P w) P w K mg base ["n", "j", "i"] "all_pairs" (defScope s_all_pairs) fa cdv A outer s H E) (fun cls d _ H => E cls d H) := takes_of rfl rfl rfl rfl
  have hx : Passes (L2.CX P w) (cxOf (L2.CX P w) P w K mg base ["n", "j", "i"] "all_pairs" (defScope s_all_pairs) fa cdv A outer s H E) E := passes_call tk fun _ _ _ _ h => h
  have hp := passes_of (X := cxOf (L2.CX P w) P w K mg base ["n", "j", "i"] "all_pairs" (defScope s_all_pairs) fa cdv A outer s H E) rfl
  (sss_cons (ss_ret (SP.en (sp_lc2 rfl S.nd (si_range1 (by rfl) g.b_range (svs_cons (sv_var 0) svs_nil)) (blkOk_by (own := [("j", 1), ("i", 2)]) (by kernel_rfl)) (fun _ _ _ _ _ => (sg_name S.nd (i := 1))) (fun _ _ _ _ _ => (si_range1 (by rfl) g.b_range (svs_cons (sv_var 1) svs_nil))) (fun _ _ _ _ _ => (sg_name S.nd (i := 2))) (fun _ _ _ _ _ => (sp_tup (sps_cons (sp_var 2) (sps_cons (sp_var 1) sps_nil)))) [2] (by decide) (by decide) (by decide))))
      sss_nil)
/-! run_cut -/
abbrev s_run_cut : Stmt := topS 28
def b_run_cut : SM := (sSeq (sDrop (eP (mCall f_check_space (mCons (mD (mVar 0)) mNil))))
    (sSeq (sDrop (eP (mCall f_check_run (mCons (mD (mVar 1)) (mCons (mD (mVar 2)) mNil)))))
    (sSeq (sAsg (eP (mApp bTuple (mCons (mApp bSorted (mCons (mLc2 (mItems true (mCall f_all_pairs (mCons (mD (mVar 0)) mNil))) (.tp [(.nm 5), (.nm 6)]) mYes (mItA rng2 (mCons (mVar 1) (mCons (mBin oAdd (mVar 2) (mK (.int 1))) mNil))) (.nm 4) mYes (mTupS (mCons (mD (mVar 5)) (mCons (mD (mVar 6)) (mCons (mD (mVar 4)) mNil)))) [5, 6, 4] [4]) mNil)) mNil))) (gNm 3))
    (sSeq (sIf (eTest (mCmpT cGt (mApp bLen (mCons (mVar 3) mNil)) (mK (.int 30)))) (sSeq (sRaise 2)
    sSkip) sSkip)
    (sSeq (sRet (eP (mTupS (mCons (mD (mVar 0)) (mCons (mD (mVar 3)) mNil)))))
    sSkip)))))
def f_run_cut : FM := fnM 3 4 [] b_run_cut
theorem sc_run_cut : FnScope ["n", "low", "high", "planes", "a", "i", "j"] ["n", "low", "high"] (defScope s_run_cut) := ⟨rfl, rfl, rfl, by decide +kernel, rfl, by decide +kernel, by decide +kernel⟩
theorem w_run_cut (g : G K mg ct) (c_all_pairs : Cal P w K mg base ct "all_pairs" 1 1 f_all_pairs) (c_check_run : Cal P w K mg base ct "check_run" 3 2 f_check_run) (c_check_space : Cal P w K mg base ct "check_space" 3 1 f_check_space) {fa : Addr} {cdv : Value} {A : Around} {outer : List PySem.Env} {s : Shared} {H : Hp} {E : XK} (hr : Room 3 (A.deeper (envOfC "run_cut" (defScope s_run_cut) s.heap.objs.size fa cdv))) (hgd : A.guards = some []) :
    SSs (cxOf (L2.CX P w) P w K mg base ["n", "low", "high", "planes", "a", "i", "j"] "run_cut" (defScope s_run_cut) fa cdv A outer s H E) ct E [] (defBody s_run_cut) b_run_cut :=
  have S := sc_run_cut
  have tk : Takes (cxOf (L2.CX P w) P w K mg base ["n", "low", "high", "planes", "a", "i", "j"] "run_cut" (defScope s_run_cut) fa cdv A outer s H E) (fun cls d _ H => E cls d H) := takes_of rfl rfl rfl rfl
  have hx : Passes (L2.CX P w) (cxOf (L2.CX P w) P w K mg base ["n", "low", "high", "planes", "a", "i", "j"] "run_cut" (defScope s_run_cut) fa cdv A outer s H E) E := passes_call tk fun _ _ _ _ h => h
  have hp := passes_of (X := cxOf (L2.CX P w) P w K mg base ["n", "low", "high", "planes", "a", "i", "j"] "run_cut" (defScope s_run_cut) fa cdv A outer s H E) rfl
  (sss_cons (ss_expr (SP.en (sp_callC c_check_space hr hgd hx (sps_cons (sp_var 0) sps_nil))))
      (sss_cons (ss_expr (SP.en (sp_callC c_check_run hr hgd hx (sps_cons (sp_var 1) (sps_cons (sp_var 2) sps_nil)))))
      (sss_cons (ss_asg (SP.en (sp_callT cal_tuple (by rfl) g.b_tuple (by decide +kernel) (svs_cons (SP.v (sp_callB (cal_sorted hr) (by rfl) g.b_sorted (by decide +kernel) (svs_cons (SP.v (sp_lc2 rfl S.nd (si_val (SP.v (sp_callC c_all_pairs hr hgd hx (sps_cons (sp_var 0) sps_nil)))) (blkOk_by (own := [("i", 5), ("j", 6), ("a", 4)]) (by kernel_rfl)) (fun _ _ _ _ _ => (sg_tup rfl (sgs_cons (sg_name S.nd (i := 5)) (sgs_cons (sg_name S.nd (i := 6)) sgs_nil)))) (fun _ _ _ _ _ => (si_range2 (by rfl) g.b_range (svs_cons (sv_var 1) (svs_cons (SP.v (sp_bin opo_add (sv_var 2) (SP.v sp_int))) svs_nil)))) (fun _ _ _ _ _ => (sg_name S.nd (i := 4))) (fun _ _ _ _ _ => (sp_tup (sps_cons (sp_var 5) (sps_cons (sp_var 6) (sps_cons (sp_var 4) sps_nil))))) [4] (by decide) (by decide) (by decide))) svs_nil))) svs_nil))) (sge_name S.nd (i := 3)))
      (sss_cons (ss_if (STt.en (stt_cmp (opc_gt hr) (SP.v (sp_callB cal_len (by rfl) g.b_len (by decide +kernel) (svs_cons (sv_var 3) svs_nil))) (SP.v (sp_gk g.k_MOST_PLANES)) (nomark _))) (sss_cons (ss_raiseC 2 g.x_NoPlanes rfl tk)
      sss_nil) sss_nil)
      (sss_cons (ss_ret (SP.en (sp_tup (sps_cons (sp_var 0) (sps_cons (sp_var 3) sps_nil)))))
      sss_nil)))))
/-! check_ruled -/
abbrev s_check_ruled : Stmt := topS 29
def b_check_ruled : SM := (sSeq (sIf (eTest (mNotT (mTrue (mCall f_is_within (mCons (mD (mVar 0)) (mCons (mK (.int 2)) (mCons (mK (.int 12)) mNil))))))) (sSeq (sRaise 1)
    sSkip) sSkip)
    (sSeq (sDrop (eP (mCall f_check_run (mCons (mD (mVar 1)) (mCons (mD (mVar 2)) mNil)))))
    sSkip))
def f_check_ruled : FM := fnM 3 0 [] b_check_ruled
theorem sc_check_ruled : FnScope ["n", "low", "high"] ["n", "low", "high"] (defScope s_check_ruled) := ⟨rfl, rfl, rfl, by decide +kernel, rfl, by decide +kernel, by decide +kernel⟩
theorem w_check_ruled (g : G K mg ct) (c_check_run : Cal P w K mg base ct "check_run" 3 2 f_check_run) (c_is_within : Cal P w K mg base ct "is_within" 2 3 f_is_within) {fa : Addr} {cdv : Value} {A : Around} {outer : List PySem.Env} {s : Shared} {H : Hp} {E : XK} (hr : Room 3 (A.deeper (envOfC "check_ruled" (defScope s_check_ruled) s.heap.objs.size fa cdv))) (hgd : A.guards = some []) :
    SSs (cxOf (L2.CX P w) P w K mg base ["n", "low", "high"] "check_ruled" (defScope s_check_ruled) fa cdv A outer s H E) ct E [] (defBody s_check_ruled) b_check_ruled :=
  have S := sc_check_ruled
  have tk : Takes (cxOf (L2.CX P w) P w K mg base ["n", "low", "high"] "check_ruled" (defScope s_check_ruled) fa cdv A outer s H E) (fun cls d _ H => E cls d H) := takes_of rfl rfl rfl rfl
  have hx : Passes (L2.CX P w) (cxOf (L2.CX P w) P w K mg base ["n", "low", "high"] "check_ruled" (defScope s_check_ruled) fa cdv A outer s H E) E := passes_call tk fun _ _ _ _ h => h
  have hp := passes_of (X := cxOf (L2.CX P w) P w K mg base ["n", "low", "high"] "check_ruled" (defScope s_check_ruled) fa cdv A outer s H E) rfl
  (sss_cons (ss_if (STt.en (stt_not (stt_val (SP.v (sp_callC c_is_within hr hgd hx (sps_cons (sp_var 0) (sps_cons (sp_gk g.k_LEAST_N) (sps_cons (sp_gk g.k_MOST_N) sps_nil)))))))) (sss_cons (ss_raiseC 1 g.x_NoNumber rfl tk)
      sss_nil) sss_nil)
      (sss_cons (ss_expr (SP.en (sp_callC c_check_run hr hgd hx (sps_cons (sp_var 1) (sps_cons (sp_var 2) sps_nil)))))
      sss_nil))
/-! trimmed -/
abbrev s_trimmed : Stmt := topS 18
def b_trimmed : SM := (sSeq (sAsg (eP (mApp bList (mCons (mVar 0) mNil))) (gNm 1))
    (sSeq (sWhile 1000000 (eTest (mAndT (mCmpT cGt (mApp bLen (mCons (mVar 1) mNil)) (mK (.int 1))) (mCmpT cEq (mBin iGet (mVar 1) (mUn oNeg (mK (.int 1)))) (mK (.int 0))))) (sSeq (sDrop (ePop 1))
    sSkip))
    (sSeq (sRet (eP (mApp bTuple (mCons (mVar 1) mNil))))
    sSkip)))
def f_trimmed : FM := fnM 1 1 [] b_trimmed
theorem sc_trimmed : FnScope ["terms", "found"] ["terms"] (defScope s_trimmed) := ⟨rfl, rfl, rfl, by decide +kernel, rfl, by decide +kernel, by decide +kernel⟩
theorem w_trimmed (g : G K mg ct) {fa : Addr} {cdv : Value} {A : Around} {outer : List PySem.Env} {s : Shared} {H : Hp} {E : XK} (hr : Room 0 (A.deeper (envOfC "trimmed" (defScope s_trimmed) s.heap.objs.size fa cdv))) (hgd : A.guards = some []) :
    SSs (cxOf (L2.CX P w) P w K mg base ["terms", "found"] "trimmed" (defScope s_trimmed) fa cdv A outer s H E) ct E [] (defBody s_trimmed) b_trimmed :=
  have S := sc_trimmed
  have tk : Takes (cxOf (L2.CX P w) P w K mg base ["terms", "found"] "trimmed" (defScope s_trimmed) fa cdv A outer s H E) (fun cls d _ H => E cls d H) := takes_of rfl rfl rfl rfl
  have hx : Passes (L2.CX P w) (cxOf (L2.CX P w) P w K mg base ["terms", "found"] "trimmed" (defScope s_trimmed) fa cdv A outer s H E) E := passes_call tk fun _ _ _ _ h => h
  have hp := passes_of (X := cxOf (L2.CX P w) P w K mg base ["terms", "found"] "trimmed" (defScope s_trimmed) fa cdv A outer s H E) rfl
  (sss_cons (ss_asg (SP.en (sp_callT cal_list (by rfl) g.b_list (by decide +kernel) (svs_cons (sv_var 0) svs_nil))) (sge_name S.nd (i := 1)))
      (sss_cons (ss_while 1000000 hp (STt.en (SW.t (sw_and (stt_cmp (opc_gt hr) (SP.v (sp_callB cal_len (by rfl) g.b_len (by decide +kernel) (svs_cons (sv_var 1) svs_nil))) (SP.v sp_int) (nomark _)) (sw_and1 (stt_cmp (opc_eq hr) (sv_ix (sv_var 1) (SP.v (sp_un unr_neg (SP.v sp_int))) (by intro _ _; rfl)) (SP.v sp_int) (nomark _)))))) (sss_cons (ss_expr (se_pop 1))
      sss_nil))
      (sss_cons (ss_ret (SP.en (sp_callT cal_tuple (by rfl) g.b_tuple (by decide +kernel) (svs_cons (sv_var 1) svs_nil))))
      sss_nil)))
/-! terms_product -/
abbrev s_terms_product : Stmt := topS 30
def b_terms_product : SM := (sSeq (sAsg (eP (mBin oMul (mLstS (mCons (mK (.int 0)) mNil)) (mBin oSub (mBin oAdd (mApp bLen (mCons (mVar 0) mNil)) (mApp bLen (mCons (mVar 1) mNil))) (mK (.int 1))))) (gNm 2))
    (sSeq (sFor (iE (itEnum false) (eFrs (eCons (eFrz 0) eNil))) (.tp [(.nm 3), (.nm 4)]) (sSeq (sFor (iE (itEnum false) (eFrs (eCons (eFrz 1) eNil))) (.tp [(.nm 5), (.nm 6)]) (sSeq (sAugI 2 (mBin oAdd (mVar 3) (mVar 5)) (mBin oMul (mVar 4) (mVar 6)))
    sSkip))
    sSkip))
    (sSeq (sRet (eMov 2))
    sSkip)))
def f_terms_product : FM := fnM 2 5 [] b_terms_product
theorem sc_terms_product : FnScope ["one", "other", "found", "i", "first", "j", "last"] ["one", "other"] (defScope s_terms_product) := ⟨rfl, rfl, rfl, by decide +kernel, rfl, by decide +kernel, by decide +kernel⟩
theorem w_terms_product (g : G K mg ct) {fa : Addr} {cdv : Value} {A : Around} {outer : List PySem.Env} {s : Shared} {H : Hp} {E : XK} (hr : Room 0 (A.deeper (envOfC "terms_product" (defScope s_terms_product) s.heap.objs.size fa cdv))) (hgd : A.guards = some []) :
    SSs (cxOf (L2.CX P w) P w K mg base ["one", "other", "found", "i", "first", "j", "last"] "terms_product" (defScope s_terms_product) fa cdv A outer s H E) ct E [] (defBody s_terms_product) b_terms_product :=
  have S := sc_terms_product
  have tk : Takes (cxOf (L2.CX P w) P w K mg base ["one", "other", "found", "i", "first", "j", "last"] "terms_product" (defScope s_terms_product) fa cdv A outer s H E) (fun cls d _ H => E cls d H) := takes_of rfl rfl rfl rfl
  have hx : Passes (L2.CX P w) (cxOf (L2.CX P w) P w K mg base ["one", "other", "found", "i", "first", "j", "last"] "terms_product" (defScope s_terms_product) fa cdv A outer s H E) E := passes_call tk fun _ _ _ _ h => h
  have hp := passes_of (X := cxOf (L2.CX P w) P w K mg base ["one", "other", "found", "i", "first", "j", "last"] "terms_product" (defScope s_terms_product) fa cdv A outer s H E) rfl
  (sss_cons (ss_asg (SP.en (sp_bin opo_mul (SP.v (sp_lst (sps_cons sp_int sps_nil))) (SP.v (sp_bin opo_sub (SP.v (sp_bin opo_add (SP.v (sp_callB cal_len (by rfl) g.b_len (by decide +kernel) (svs_cons (sv_var 0) svs_nil))) (SP.v (sp_callB cal_len (by rfl) g.b_len (by decide +kernel) (svs_cons (sv_var 1) svs_nil))))) (SP.v sp_int))))) (sge_name S.nd (i := 2)))
      (sss_cons (ss_for hp rfl (sie_enum (by rfl) g.b_enumerate (ses_cons (se_frz 0) ses_nil)) (sg_tup rfl (sgs_cons (sg_name S.nd (i := 3)) (sgs_cons (sg_name S.nd (i := 4)) sgs_nil))) (sss_cons (ss_for hp rfl (sie_enum (by rfl) g.b_enumerate (ses_cons (se_frz 1) ses_nil)) (sg_tup rfl (sgs_cons (sg_name S.nd (i := 5)) (sgs_cons (sg_name S.nd (i := 6)) sgs_nil))) (sss_cons (ss_augI 2 (SP.v (sp_bin opo_add (sv_var 3) (sv_var 5))) (SP.v (sp_bin opo_mul (sv_var 4) (sv_var 6))))
      sss_nil) (by decide))
      sss_nil) (by decide))
      (sss_cons (ss_ret (se_mov 2))
      sss_nil)))
/-! raised_to -/
abbrev s_raised_to : Stmt := topS 31
def b_raised_to : SM := (sSeq (sAsg (eP (mLstS (mCons (mK (.int 1)) mNil))) (gNm 2))
    (sSeq (sFor (iP (mItA rng1 (mCons (mVar 1) mNil))) (.nm 3) (sSeq (sAsg (eCall f_terms_product [none, none] (eCons (eFrz 2) (eCons (eFrz 0) eNil))) (gNm 2))
    sSkip))
    (sSeq (sRet (eMov 2))
    sSkip)))
def f_raised_to : FM := fnM 2 2 [] b_raised_to
theorem sc_raised_to : FnScope ["row", "power", "found", "turn"] ["row", "power"] (defScope s_raised_to) := ⟨rfl, rfl, rfl, by decide +kernel, rfl, by decide +kernel, by decide +kernel⟩
theorem w_raised_to (g : G K mg ct) (c_terms_product : Cal P w K mg base ct "terms_product" 1 2 f_terms_product) {fa : Addr} {cdv : Value} {A : Around} {outer : List PySem.Env} {s : Shared} {H : Hp} {E : XK} (hr : Room 1 (A.deeper (envOfC "raised_to" (defScope s_raised_to) s.heap.objs.size fa cdv))) (hgd : A.guards = some []) :
    SSs (cxOf (L2.CX P w) P w K mg base ["row", "power", "found", "turn"] "raised_to" (defScope s_raised_to) fa cdv A outer s H E) ct E [] (defBody s_raised_to) b_raised_to :=
  have S := sc_raised_to
  have tk : Takes (cxOf (L2.CX P w) P w K mg base ["row", "power", "found", "turn"] "raised_to" (defScope s_raised_to) fa cdv A outer s H E) (fun cls d _ H => E cls d H) := takes_of rfl rfl rfl rfl
  have hx : Passes (L2.CX P w) (cxOf (L2.CX P w) P w K mg base ["row", "power", "found", "turn"] "raised_to" (defScope s_raised_to) fa cdv A outer s H E) E := passes_call tk fun _ _ _ _ h => h
  have hp := passes_of (X := cxOf (L2.CX P w) P w K mg base ["row", "power", "found", "turn"] "raised_to" (defScope s_raised_to) fa cdv A outer s H E) rfl
  (sss_cons (ss_asg (SP.en (sp_lst (sps_cons sp_int sps_nil))) (sge_name S.nd (i := 2)))
      (sss_cons (ss_for hp rfl (SI.en (si_range1 (by rfl) g.b_range (svs_cons (sv_var 1) svs_nil))) (sg_name S.nd (i := 3)) (sss_cons (ss_asg (se_callC c_terms_product hr hgd hx (sls_cons (se_frz 2) (sls_cons (se_frz 0) sls_nil))) (sge_name S.nd (i := 2)))
      sss_nil) (by decide))
      (sss_cons (ss_ret (se_mov 2))
      sss_nil)))
/-! poly_of_unlike -/
abbrev s_poly_of_unlike : Stmt := topS 33
def b_poly_of_unlike : SM := (sSeq (sAsg (eCall f_raised_to [none, none] (eCons (eFr (eP (mBin oAdd (mBin oMul (mLstS (mCons (mK (.int 0)) mNil)) (mVar 1)) (mBin oMul (mLstS (mCons (mK (.int 1)) mNil)) (mBin oSub (mVar 2) (mVar 1)))))) (eCons (eFrz 0) eNil))) (gNm 3))
    (sSeq (sAsg (eP (mBin oMul (mLstS (mCons (mK (.int 0)) mNil)) (mVar 0))) (gNm 4))
    (sSeq (sFor (iE (itEnum false) (eFrs (eCons (eFrz 3) eNil))) (.tp [(.nm 7), (.nm 8)]) (sSeq (sIf (eTest (mCmpT cNe (mVar 8) (mK (.int 0)))) (sSeq (sAsg (eCall f_raised_to [none, none] (eCons (eFr (eP (mLstS (mCons (mUn oNeg (mVar 7)) (mCons (mK (.int 1)) mNil))))) (eCons (eFr (eP (mBin oSub (mVar 0) (mK (.int 1))))) eNil))) (gNm 9))
    (sSeq (sAsg (eP (mLc (mItA (itZip true) (mCons (mVar 4) (mCons (mVar 9) mNil))) (.tp [(.nm 11), (.nm 12)]) mYes (mBin oAdd (mVar 11) (mBin oMul (mVar 8) (mVar 12))) [11, 12])) (gNm 4))
    sSkip)) sSkip)
    sSkip))
    (sSeq (sAsg (eP (mK (.int 1))) (gNm 5))
    (sSeq (sFor (iP (mItA rng1 (mCons (mVar 0) mNil))) (.nm 6) (sSeq (sAsg (eP (mBin oMul (mVar 5) (mBin oSub (mVar 2) (mVar 1)))) (gNm 5))
    sSkip))
    (sSeq (sRet (eP (mBin oAdd (mLstS (mCons (mK (.int 0)) mNil)) (mLc (mItems true (mVar 4)) (.nm 10) mYes (mBin oDiv (mVar 10) (mVar 5)) [10]))))
    sSkip))))))
def f_poly_of_unlike : FM := fnM 3 10 [] b_poly_of_unlike
theorem sc_poly_of_unlike : FnScope ["n", "first", "last", "weights", "total", "by", "turn", "k", "weight", "row", "term", "mine", "its"] ["n", "first", "last"] (defScope s_poly_of_unlike) := ⟨rfl, rfl, rfl, by decide +kernel, rfl, by decide +kernel, by decide +kernel⟩
theorem w_poly_of_unlike (g : G K mg ct) (c_raised_to : Cal P w K mg base ct "raised_to" 2 2 f_raised_to) {fa : Addr} {cdv : Value} {A : Around} {outer : List PySem.Env} {s : Shared} {H : Hp} {E : XK} (hr : Room 2 (A.deeper (envOfC "poly_of_unlike" (defScope s_poly_of_unlike) s.heap.objs.size fa cdv))) (hgd : A.guards = some []) :
    SSs (cxOf (L2.CX P w) P w K mg base ["n", "first", "last", "weights", "total", "by", "turn", "k", "weight", "row", "term", "mine", "its"] "poly_of_unlike" (defScope s_poly_of_unlike) fa cdv A outer s H E) ct E [] (defBody s_poly_of_unlike) b_poly_of_unlike :=
  have S := sc_poly_of_unlike
  have tk : Takes (cxOf (L2.CX P w) P w K mg base ["n", "first", "last", "weights", "total", "by", "turn", "k", "weight", "row", "term", "mine", "its"] "poly_of_unlike" (defScope s_poly_of_unlike) fa cdv A outer s H E) (fun cls d _ H => E cls d H) := takes_of rfl rfl rfl rfl
  have hx : Passes (L2.CX P w) (cxOf (L2.CX P w) P w K mg base ["n", "first", "last", "weights", "total", "by", "turn", "k", "weight", "row", "term", "mine", "its"] "poly_of_unlike" (defScope s_poly_of_unlike) fa cdv A outer s H E) E := passes_call tk fun _ _ _ _ h => h
  have hp := passes_of (X := cxOf (L2.CX P w) P w K mg base ["n", "first", "last", "weights", "total", "by", "turn", "k", "weight", "row", "term", "mine", "its"] "poly_of_unlike" (defScope s_poly_of_unlike) fa cdv A outer s H E) rfl
  (sss_cons (ss_asg (se_callC c_raised_to hr hgd hx (sls_cons (SE.fr (SP.en (sp_bin opo_add (SP.v (sp_bin opo_mul (SP.v (sp_lst (sps_cons sp_int sps_nil))) (sv_var 1))) (SP.v (sp_bin opo_mul (SP.v (sp_lst (sps_cons sp_int sps_nil))) (SP.v (sp_bin opo_sub (sv_var 2) (sv_var 1)))))))) (sls_cons (se_frz 0) sls_nil))) (sge_name S.nd (i := 3)))
      (sss_cons (ss_asg (SP.en (sp_bin opo_mul (SP.v (sp_lst (sps_cons sp_int sps_nil))) (sv_var 0))) (sge_name S.nd (i := 4)))
      (sss_cons (ss_for hp rfl (sie_enum (by rfl) g.b_enumerate (ses_cons (se_frz 3) ses_nil)) (sg_tup rfl (sgs_cons (sg_name S.nd (i := 7)) (sgs_cons (sg_name S.nd (i := 8)) sgs_nil))) (sss_cons (ss_if (STt.en (stt_cmp (opc_ne hr) (sv_var 8) (SP.v sp_int) (nomark _))) (sss_cons (ss_asg (se_callC c_raised_to hr hgd hx (sls_cons (SE.fr (SP.en (sp_lst (sps_cons (sp_un unr_neg (sv_var 7)) (sps_cons sp_int sps_nil))))) (sls_cons (SE.fr (SP.en (sp_bin opo_sub (sv_var 0) (SP.v sp_int)))) sls_nil))) (sge_name S.nd (i := 9)))
      (sss_cons (ss_setLc rfl S.nd (si_zip (by rfl) g.b_zip (svs_cons (sv_var 4) (svs_cons (sv_var 9) svs_nil))) (blkOk_by (own := [("mine", 11), ("its", 12)]) (by kernel_rfl)) (fun _ _ _ _ _ => (sg_tup rfl (sgs_cons (sg_name S.nd (i := 11)) (sgs_cons (sg_name S.nd (i := 12)) sgs_nil)))) (fun _ _ _ _ _ => (sp_bin opo_add (sv_var 11) (SP.v (sp_bin opo_mul (sv_var 8) (sv_var 12))))) (by decide) (sw_true (by rfl) (by rfl) (by rfl) (by rfl)) (i := 4))
      sss_nil)) sss_nil)
      sss_nil) (by decide))
      (sss_cons (ss_asg (SP.en sp_int) (sge_name S.nd (i := 5)))
      (sss_cons (ss_for hp rfl (SI.en (si_range1 (by rfl) g.b_range (svs_cons (sv_var 0) svs_nil))) (sg_name S.nd (i := 6)) (sss_cons (ss_asg (SP.en (sp_bin opo_mul (sv_var 5) (SP.v (sp_bin opo_sub (sv_var 2) (sv_var 1))))) (sge_name S.nd (i := 5)))
      sss_nil) (by decide))
      (sss_cons (ss_ret (SP.en (sp_bin opo_add (SP.v (sp_lst (sps_cons sp_int sps_nil))) (SP.v (sp_lc rfl S.nd (si_val (sv_var 4)) (blkOk_by (own := [("term", 10)]) (by kernel_rfl)) (fun _ _ _ _ _ => (sg_name S.nd (i := 10))) (fun _ _ _ _ _ => (sp_bin opo_div (sv_var 10) (sv_var 5))) (by decide))))))
      sss_nil))))))
/-! poly_of_like -/
abbrev s_poly_of_like : Stmt := topS 32
def b_poly_of_like : SM := (sSeq (sAsg (eP (mLstS (mCons (mK (.int 0)) (mCons (mK (.int 1)) mNil)))) (gNm 2))
    (sSeq (sFor (iP (mItA rng2 (mCons (mK (.int 1)) (mCons (mVar 0) mNil)))) (.nm 3) (sSeq (sAsg (eCall f_terms_product [none, none] (eCons (eFrz 2) (eCons (eFr (eP (mLstS (mCons (mUn oNeg (mBin oAdd (mBin oMul (mVar 0) (mVar 1)) (mVar 3))) (mCons (mK (.int 1)) mNil))))) eNil))) (gNm 2))
    sSkip))
    (sSeq (sRet (eMov 2))
    sSkip)))
def f_poly_of_like : FM := fnM 2 2 [] b_poly_of_like
theorem sc_poly_of_like : FnScope ["n", "high", "found", "j"] ["n", "high"] (defScope s_poly_of_like) := ⟨rfl, rfl, rfl, by decide +kernel, rfl, by decide +kernel, by decide +kernel⟩
theorem w_poly_of_like (g : G K mg ct) (c_terms_product : Cal P w K mg base ct "terms_product" 1 2 f_terms_product) {fa : Addr} {cdv : Value} {A : Around} {outer : List PySem.Env} {s : Shared} {H : Hp} {E : XK} (hr : Room 1 (A.deeper (envOfC "poly_of_like" (defScope s_poly_of_like) s.heap.objs.size fa cdv))) (hgd : A.guards = some []) :
    SSs (cxOf (L2.CX P w) P w K mg base ["n", "high", "found", "j"] "poly_of_like" (defScope s_poly_of_like) fa cdv A outer s H E) ct E [] (defBody s_poly_of_like) b_poly_of_like :=
  have S := sc_poly_of_like
  have tk : Takes (cxOf (L2.CX P w) P w K mg base ["n", "high", "found", "j"] "poly_of_like" (defScope s_poly_of_like) fa cdv A outer s H E) (fun cls d _ H => E cls d H) := takes_of rfl rfl rfl rfl
  have hx : Passes (L2.CX P w) (cxOf (L2.CX P w) P w K mg base ["n", "high", "found", "j"] "poly_of_like" (defScope s_poly_of_like) fa cdv A outer s H E) E := passes_call tk fun _ _ _ _ h => h
  have hp := passes_of (X := cxOf (L2.CX P w) P w K mg base ["n", "high", "found", "j"] "poly_of_like" (defScope s_poly_of_like) fa cdv A outer s H E) rfl
  (sss_cons (ss_asg (SP.en (sp_lst (sps_cons sp_int (sps_cons sp_int sps_nil)))) (sge_name S.nd (i := 2)))
      (sss_cons (ss_for hp rfl (SI.en (si_range2 (by rfl) g.b_range (svs_cons (SP.v sp_int) (svs_cons (sv_var 0) svs_nil)))) (sg_name S.nd (i := 3)) (sss_cons (ss_asg (se_callC c_terms_product hr hgd hx (sls_cons (se_frz 2) (sls_cons (SE.fr (SP.en (sp_lst (sps_cons (sp_un unr_neg (SP.v (sp_bin opo_add (SP.v (sp_bin opo_mul (sv_var 0) (sv_var 1))) (sv_var 3)))) (sps_cons sp_int sps_nil))))) sls_nil))) (sge_name S.nd (i := 2)))
      sss_nil) (by decide))
      (sss_cons (ss_ret (se_mov 2))
      sss_nil)))
/-! raw_run_poly -/
abbrev s_raw_run_poly : Stmt := topS 34
def b_raw_run_poly : SM := (sSeq (sAsgs (eCons (eP (mBin oSub (mK (.int 1)) (mVar 1))) (eCons (eP (mBin oAdd (mVar 2) (mK (.int 1)))) eNil)) (gTwo 3 4))
    (sSeq (sIf (eTest (mCmpT cEq (mVar 3) (mVar 4))) (sSeq (sRet (eCall f_trimmed [none] (eCons (eFr (eP (mCall f_poly_of_like (mCons (mD (mVar 0)) (mCons (mD (mVar 2)) mNil))))) eNil)))
    sSkip) sSkip)
    (sSeq (sRet (eCall f_trimmed [none] (eCons (eFr (eP (mCall f_poly_of_unlike (mCons (mD (mVar 0)) (mCons (mApp bMin (mCons (mVar 3) (mCons (mVar 4) mNil))) (mCons (mApp bMax (mCons (mVar 3) (mCons (mVar 4) mNil))) mNil)))))) eNil)))
    sSkip)))
def f_raw_run_poly : FM := fnM 3 2 [] b_raw_run_poly
theorem sc_raw_run_poly : FnScope ["n", "low", "high", "first", "last"] ["n", "low", "high"] (defScope s_raw_run_poly) := ⟨rfl, rfl, rfl, by decide +kernel, rfl, by decide +kernel, by decide +kernel⟩
theorem w_raw_run_poly (g : G K mg ct) (c_poly_of_like : Cal P w K mg base ct "poly_of_like" 2 2 f_poly_of_like) (c_poly_of_unlike : Cal P w K mg base ct "poly_of_unlike" 3 3 f_poly_of_unlike) (c_trimmed : Cal P w K mg base ct "trimmed" 1 1 f_trimmed) {fa : Addr} {cdv : Value} {A : Around} {outer : List PySem.Env} {s : Shared} {H : Hp} {E : XK} (hr : Room 3 (A.deeper (envOfC "raw_run_poly" (defScope s_raw_run_poly) s.heap.objs.size fa cdv))) (hgd : A.guards = some []) :
    SSs (cxOf (L2.CX P w) P w K mg base ["n", "low", "high", "first", "last"] "raw_run_poly" (defScope s_raw_run_poly) fa cdv A outer s H E) ct E [] (defBody s_raw_run_poly) b_raw_run_poly :=
  have S := sc_raw_run_poly
  have tk : Takes (cxOf (L2.CX P w) P w K mg base ["n", "low", "high", "first", "last"] "raw_run_poly" (defScope s_raw_run_poly) fa cdv A outer s H E) (fun cls d _ H => E cls d H) := takes_of rfl rfl rfl rfl
  have hx : Passes (L2.CX P w) (cxOf (L2.CX P w) P w K mg base ["n", "low", "high", "first", "last"] "raw_run_poly" (defScope s_raw_run_poly) fa cdv A outer s H E) E := passes_call tk fun _ _ _ _ h => h
  have hp := passes_of (X := cxOf (L2.CX P w) P w K mg base ["n", "low", "high", "first", "last"] "raw_run_poly" (defScope s_raw_run_poly) fa cdv A outer s H E) rfl
  (sss_cons (ss_par rfl S.nd (ses_cons (SP.en (sp_bin opo_sub (SP.v sp_int) (sv_var 1))) (ses_cons (SP.en (sp_bin opo_add (sv_var 2) (SP.v sp_int))) ses_nil)) (by kernel_rfl) (i := 3) (j := 4))
      (sss_cons (ss_if (STt.en (stt_cmp (opc_eq hr) (sv_var 3) (sv_var 4) (nomark _))) (sss_cons (ss_ret (se_callC c_trimmed hr hgd hx (sls_cons (SE.fr (SP.en (sp_callC c_poly_of_like hr hgd hx (sps_cons (sp_var 0) (sps_cons (sp_var 2) sps_nil))))) sls_nil)))
      sss_nil) sss_nil)
      (sss_cons (ss_ret (se_callC c_trimmed hr hgd hx (sls_cons (SE.fr (SP.en (sp_callC c_poly_of_unlike hr hgd hx (sps_cons (sp_var 0) (sps_cons (sp_callB (cal_min rfl) (by rfl) g.b_min (by decide +kernel) (svs_cons (sv_var 3) (svs_cons (sv_var 4) svs_nil))) (sps_cons (sp_callB (cal_max rfl) (by rfl) g.b_max (by decide +kernel) (svs_cons (sv_var 3) (svs_cons (sv_var 4) svs_nil))) sps_nil)))))) sls_nil)))
      sss_nil)))
/-! run_poly -/
abbrev s_run_poly : Stmt := topS 35
def b_run_poly : SM := (sSeq (sDrop (eP (mCall f_check_ruled (mCons (mD (mVar 0)) (mCons (mD (mVar 1)) (mCons (mD (mVar 2)) mNil))))))
    (sSeq (sRet (eP (mCall f_raw_run_poly (mCons (mD (mVar 0)) (mCons (mD (mVar 1)) (mCons (mD (mVar 2)) mNil))))))
    sSkip))
def f_run_poly : FM := fnM 3 0 [] b_run_poly
theorem sc_run_poly : FnScope ["n", "low", "high"] ["n", "low", "high"] (defScope s_run_poly) := ⟨rfl, rfl, rfl, by decide +kernel, rfl, by decide +kernel, by decide +kernel⟩
theorem w_run_poly (g : G K mg ct) (c_check_ruled : Cal P w K mg base ct "check_ruled" 4 3 f_check_ruled) (c_raw_run_poly : Cal P w K mg base ct "raw_run_poly" 4 3 f_raw_run_poly) {fa : Addr} {cdv : Value} {A : Around} {outer : List PySem.Env} {s : Shared} {H : Hp} {E : XK} (hr : Room 4 (A.deeper (envOfC "run_poly" (defScope s_run_poly) s.heap.objs.size fa cdv))) (hgd : A.guards = some []) :
    SSs (cxOf (L2.CX P w) P w K mg base ["n", "low", "high"] "run_poly" (defScope s_run_poly) fa cdv A outer s H E) ct E [] (defBody s_run_poly) b_run_poly :=
  have S := sc_run_poly
  have tk : Takes (cxOf (L2.CX P w) P w K mg base ["n", "low", "high"] "run_poly" (defScope s_run_poly) fa cdv A outer s H E) (fun cls d _ H => E cls d H) := takes_of rfl rfl rfl rfl
  have hx : Passes (L2.CX P w) (cxOf (L2.CX P w) P w K mg base ["n", "low", "high"] "run_poly" (defScope s_run_poly) fa cdv A outer s H E) E := passes_call tk fun _ _ _ _ h => h
  have hp := passes_of (X := cxOf (L2.CX P w) P w K mg base ["n", "low", "high"] "run_poly" (defScope s_run_poly) fa cdv A outer s H E) rfl
  (sss_cons (ss_expr (SP.en (sp_callC c_check_ruled hr hgd hx (sps_cons (sp_var 0) (sps_cons (sp_var 1) (sps_cons (sp_var 2) sps_nil))))))
      (sss_cons (ss_ret (SP.en (sp_callC c_raw_run_poly hr hgd hx (sps_cons (sp_var 0) (sps_cons (sp_var 1) (sps_cons (sp_var 2) sps_nil))))))
      sss_nil))
/-! value_at -/
abbrev s_value_at : Stmt := topS 19
def b_value_at : SM := (sSeq (sAsg (eP (mK (.int 0))) (gNm 2))
    (sSeq (sFor (iE itVal (iOne (eFr (eP (mSliceR (mVar 0) none (mUn oNeg (mK (.int 1)))))))) (.nm 3) (sSeq (sAsg (eP (mBin oAdd (mBin oMul (mVar 2) (mVar 1)) (mVar 3))) (gNm 2))
    sSkip))
    (sSeq (sRet (eMov 2))
    sSkip)))
def f_value_at : FM := fnM 2 2 [] b_value_at
theorem sc_value_at : FnScope ["poly", "q", "found", "term"] ["poly", "q"] (defScope s_value_at) := ⟨rfl, rfl, rfl, by decide +kernel, rfl, by decide +kernel, by decide +kernel⟩
theorem w_value_at (g : G K mg ct) {fa : Addr} {cdv : Value} {A : Around} {outer : List PySem.Env} {s : Shared} {H : Hp} {E : XK} (hr : Room 0 (A.deeper (envOfC "value_at" (defScope s_value_at) s.heap.objs.size fa cdv))) (hgd : A.guards = some []) :
    SSs (cxOf (L2.CX P w) P w K mg base ["poly", "q", "found", "term"] "value_at" (defScope s_value_at) fa cdv A outer s H E) ct E [] (defBody s_value_at) b_value_at :=
  have S := sc_value_at
  have tk : Takes (cxOf (L2.CX P w) P w K mg base ["poly", "q", "found", "term"] "value_at" (defScope s_value_at) fa cdv A outer s H E) (fun cls d _ H => E cls d H) := takes_of rfl rfl rfl rfl
  have hx : Passes (L2.CX P w) (cxOf (L2.CX P w) P w K mg base ["poly", "q", "found", "term"] "value_at" (defScope s_value_at) fa cdv A outer s H E) E := passes_call tk fun _ _ _ _ h => h
  have hp := passes_of (X := cxOf (L2.CX P w) P w K mg base ["poly", "q", "found", "term"] "value_at" (defScope s_value_at) fa cdv A outer s H E) rfl
  (sss_cons (ss_asg (SP.en sp_int) (sge_name S.nd (i := 2)))
      (sss_cons (ss_for hp rfl (sie_val (SP.en (sp_sliceR (sv_var 0) so_none (SP.v (sp_un unr_neg (SP.v sp_int)))))) (sg_name S.nd (i := 3)) (sss_cons (ss_asg (SP.en (sp_bin opo_add (SP.v (sp_bin opo_mul (sv_var 2) (sv_var 1))) (sv_var 3))) (sge_name S.nd (i := 2)))
      sss_nil) (by decide))
      (sss_cons (ss_ret (se_mov 2))
      sss_nil)))
/-! run_rooms -/
abbrev s_run_rooms : Stmt := topS 36
def b_run_rooms : SM := (sSeq (sDrop (eP (mCall f_check_ruled (mCons (mD (mVar 0)) (mCons (mD (mVar 1)) (mCons (mD (mVar 2)) mNil))))))
    (sSeq (sRet (eP (mApp bAbs (mCons (mCall f_value_at (mCons (mCall f_raw_run_poly (mCons (mD (mVar 0)) (mCons (mD (mVar 1)) (mCons (mD (mVar 2)) mNil)))) (mCons (mUn oNeg (mK (.int 1))) mNil))) mNil))))
    sSkip))
def f_run_rooms : FM := fnM 3 0 [] b_run_rooms
theorem sc_run_rooms : FnScope ["n", "low", "high"] ["n", "low", "high"] (defScope s_run_rooms) := ⟨rfl, rfl, rfl, by decide +kernel, rfl, by decide +kernel, by decide +kernel⟩
theorem w_run_rooms (g : G K mg ct) (c_check_ruled : Cal P w K mg base ct "check_ruled" 4 3 f_check_ruled) (c_raw_run_poly : Cal P w K mg base ct "raw_run_poly" 4 3 f_raw_run_poly) (c_value_at : Cal P w K mg base ct "value_at" 1 2 f_value_at) {fa : Addr} {cdv : Value} {A : Around} {outer : List PySem.Env} {s : Shared} {H : Hp} {E : XK} (hr : Room 4 (A.deeper (envOfC "run_rooms" (defScope s_run_rooms) s.heap.objs.size fa cdv))) (hgd : A.guards = some []) :
    SSs (cxOf (L2.CX P w) P w K mg base ["n", "low", "high"] "run_rooms" (defScope s_run_rooms) fa cdv A outer s H E) ct E [] (defBody s_run_rooms) b_run_rooms :=
  have S := sc_run_rooms
  have tk : Takes (cxOf (L2.CX P w) P w K mg base ["n", "low", "high"] "run_rooms" (defScope s_run_rooms) fa cdv A outer s H E) (fun cls d _ H => E cls d H) := takes_of rfl rfl rfl rfl
  have hx : Passes (L2.CX P w) (cxOf (L2.CX P w) P w K mg base ["n", "low", "high"] "run_rooms" (defScope s_run_rooms) fa cdv A outer s H E) E := passes_call tk fun _ _ _ _ h => h
  have hp := passes_of (X := cxOf (L2.CX P w) P w K mg base ["n", "low", "high"] "run_rooms" (defScope s_run_rooms) fa cdv A outer s H E) rfl
  (sss_cons (ss_expr (SP.en (sp_callC c_check_ruled hr hgd hx (sps_cons (sp_var 0) (sps_cons (sp_var 1) (sps_cons (sp_var 2) sps_nil))))))
      (sss_cons (ss_ret (SP.en (sp_callB cal_abs (by rfl) g.b_abs (by decide +kernel) (svs_cons (SP.v (sp_callC c_value_at hr hgd hx (sps_cons (sp_callC c_raw_run_poly hr hgd hx (sps_cons (sp_var 0) (sps_cons (sp_var 1) (sps_cons (sp_var 2) sps_nil)))) (sps_cons (sp_un unr_neg (SP.v sp_int)) sps_nil)))) svs_nil))))
      sss_nil))
/-! run_bounded -/
abbrev s_run_bounded : Stmt := topS 37
def b_run_bounded : SM := (sSeq (sDrop (eP (mCall f_check_ruled (mCons (mD (mVar 0)) (mCons (mD (mVar 1)) (mCons (mD (mVar 2)) mNil))))))
    (sSeq (sRet (eP (mApp bAbs (mCons (mCall f_value_at (mCons (mSlice (mCall f_raw_run_poly (mCons (mD (mVar 0)) (mCons (mD (mVar 1)) (mCons (mD (mVar 2)) mNil)))) (some (mK (.int 1))) none) (mCons (mK (.int 1)) mNil))) mNil))))
    sSkip))
def f_run_bounded : FM := fnM 3 0 [] b_run_bounded
theorem sc_run_bounded : FnScope ["n", "low", "high"] ["n", "low", "high"] (defScope s_run_bounded) := ⟨rfl, rfl, rfl, by decide +kernel, rfl, by decide +kernel, by decide +kernel⟩
theorem w_run_bounded (g : G K mg ct) (c_check_ruled : Cal P w K mg base ct "check_ruled" 4 3 f_check_ruled) (c_raw_run_poly : Cal P w K mg base ct "raw_run_poly" 4 3 f_raw_run_poly) (c_value_at : Cal P w K mg base ct "value_at" 1 2 f_value_at) {fa : Addr} {cdv : Value} {A : Around} {outer : List PySem.Env} {s : Shared} {H : Hp} {E : XK} (hr : Room 4 (A.deeper (envOfC "run_bounded" (defScope s_run_bounded) s.heap.objs.size fa cdv))) (hgd : A.guards = some []) :
    SSs (cxOf (L2.CX P w) P w K mg base ["n", "low", "high"] "run_bounded" (defScope s_run_bounded) fa cdv A outer s H E) ct E [] (defBody s_run_bounded) b_run_bounded :=
  have S := sc_run_bounded
  have tk : Takes (cxOf (L2.CX P w) P w K mg base ["n", "low", "high"] "run_bounded" (defScope s_run_bounded) fa cdv A outer s H E) (fun cls d _ H => E cls d H) := takes_of rfl rfl rfl rfl
  have hx : Passes (L2.CX P w) (cxOf (L2.CX P w) P w K mg base ["n", "low", "high"] "run_bounded" (defScope s_run_bounded) fa cdv A outer s H E) E := passes_call tk fun _ _ _ _ h => h
  have hp := passes_of (X := cxOf (L2.CX P w) P w K mg base ["n", "low", "high"] "run_bounded" (defScope s_run_bounded) fa cdv A outer s H E) rfl
  (sss_cons (ss_expr (SP.en (sp_callC c_check_ruled hr hgd hx (sps_cons (sp_var 0) (sps_cons (sp_var 1) (sps_cons (sp_var 2) sps_nil))))))
      (sss_cons (ss_ret (SP.en (sp_callB cal_abs (by rfl) g.b_abs (by decide +kernel) (svs_cons (SP.v (sp_callC c_value_at hr hgd hx (sps_cons (sp_slice (SP.v (sp_callC c_raw_run_poly hr hgd hx (sps_cons (sp_var 0) (sps_cons (sp_var 1) (sps_cons (sp_var 2) sps_nil))))) (so_some (SP.v sp_int)) so_none) (sps_cons sp_int sps_nil)))) svs_nil))))
      sss_nil))
/-! run_middle -/
abbrev s_run_middle : Stmt := topS 39
def b_run_middle : SM := (sSeq (sDrop (eP (mCall f_check_ruled (mCons (mD (mVar 0)) (mCons (mD (mVar 1)) (mCons (mD (mVar 2)) mNil))))))
    (sSeq (sRet (eP (mBin oMul (mVar 0) (mBin oAdd (mBin oSub (mVar 2) (mVar 1)) (mK (.int 1))))))
    sSkip))
def f_run_middle : FM := fnM 3 0 [] b_run_middle
theorem sc_run_middle : FnScope ["n", "low", "high"] ["n", "low", "high"] (defScope s_run_middle) := ⟨rfl, rfl, rfl, by decide +kernel, rfl, by decide +kernel, by decide +kernel⟩
theorem w_run_middle (g : G K mg ct) (c_check_ruled : Cal P w K mg base ct "check_ruled" 4 3 f_check_ruled) {fa : Addr} {cdv : Value} {A : Around} {outer : List PySem.Env} {s : Shared} {H : Hp} {E : XK} (hr : Room 4 (A.deeper (envOfC "run_middle" (defScope s_run_middle) s.heap.objs.size fa cdv))) (hgd : A.guards = some []) :
    SSs (cxOf (L2.CX P w) P w K mg base ["n", "low", "high"] "run_middle" (defScope s_run_middle) fa cdv A outer s H E) ct E [] (defBody s_run_middle) b_run_middle :=
  have S := sc_run_middle
  have tk : Takes (cxOf (L2.CX P w) P w K mg base ["n", "low", "high"] "run_middle" (defScope s_run_middle) fa cdv A outer s H E) (fun cls d _ H => E cls d H) := takes_of rfl rfl rfl rfl
  have hx : Passes (L2.CX P w) (cxOf (L2.CX P w) P w K mg base ["n", "low", "high"] "run_middle" (defScope s_run_middle) fa cdv A outer s H E) E := passes_call tk fun _ _ _ _ h => h
  have hp := passes_of (X := cxOf (L2.CX P w) P w K mg base ["n", "low", "high"] "run_middle" (defScope s_run_middle) fa cdv A outer s H E) rfl
  (sss_cons (ss_expr (SP.en (sp_callC c_check_ruled hr hgd hx (sps_cons (sp_var 0) (sps_cons (sp_var 1) (sps_cons (sp_var 2) sps_nil))))))
      (sss_cons (ss_ret (SP.en (sp_bin opo_mul (sv_var 0) (SP.v (sp_bin opo_add (SP.v (sp_bin opo_sub (sv_var 2) (sv_var 1))) (SP.v sp_int))))))
      sss_nil))
/-! is_poly -/
abbrev s_is_poly : Stmt := topS 20
def b_is_poly : SM := (sSeq (sIf (eTest (mOrT (mNotT (mTrue (mIsa PyData.isTuple (mVar 0)))) (mOrT (mNotT (mChainT cLe cLe (mK (.int 1)) (mApp bLen (mCons (mVar 0) mNil)) (mK (.int 40)))) (mNotT (mTrue (mApp bAll (mCons (mLc (mItems true (mVar 0)) (.nm 1) mYes (mCall f_is_integer (mCons (mD (mVar 1)) mNil)) [1]) mNil))))))) (sSeq (sRet (eP (mK (.bool false))))
    sSkip) sSkip)
    (sSeq (sIf (eTest (mTrue (mApp bAny (mCons (mLc (mItems true (mVar 0)) (.nm 1) mYes (mCmp cGe (mApp bAbs (mCons (mVar 1) mNil)) (mK (.int 1000000000000000000000000000000))) [1]) mNil)))) (sSeq (sRet (eP (mK (.bool false))))
    sSkip) sSkip)
    (sSeq (sRet (eP (mOr (mCmp cNe (mBin iGet (mVar 0) (mUn oNeg (mK (.int 1)))) (mK (.int 0))) (mCmp cEq (mVar 0) (mTupS (mCons (mK (.int 0)) mNil))))))
    sSkip)))
def f_is_poly : FM := fnM 1 1 [] b_is_poly
theorem sc_is_poly : FnScope ["thing", "one"] ["thing"] (defScope s_is_poly) := ⟨rfl, rfl, rfl, by decide +kernel, rfl, by decide +kernel, by decide +kernel⟩
theorem w_is_poly (g : G K mg ct) (c_is_integer : Cal P w K mg base ct "is_integer" 1 1 f_is_integer) {fa : Addr} {cdv : Value} {A : Around} {outer : List PySem.Env} {s : Shared} {H : Hp} {E : XK} (hr : Room 1 (A.deeper (envOfC "is_poly" (defScope s_is_poly) s.heap.objs.size fa cdv))) (hgd : A.guards = some []) :
    SSs (cxOf (L2.CX P w) P w K mg base ["thing", "one"] "is_poly" (defScope s_is_poly) fa cdv A outer s H E) ct E [] (defBody s_is_poly) b_is_poly :=
  have S := sc_is_poly
  have tk : Takes (cxOf (L2.CX P w) P w K mg base ["thing", "one"] "is_poly" (defScope s_is_poly) fa cdv A outer s H E) (fun cls d _ H => E cls d H) := takes_of rfl rfl rfl rfl
  have hx : Passes (L2.CX P w) (cxOf (L2.CX P w) P w K mg base ["thing", "one"] "is_poly" (defScope s_is_poly) fa cdv A outer s H E) E := passes_call tk fun _ _ _ _ h => h
  have hp := passes_of (X := cxOf (L2.CX P w) P w K mg base ["thing", "one"] "is_poly" (defScope s_is_poly) fa cdv A outer s H E) rfl
  (sss_cons (ss_if (STt.en (SW.t (sw_or (stt_not (stt_val (SP.v (sp_isa isa_tuple (by rfl) g.b_isinstance (by rfl) g.b_tuple (by decide +kernel) (sv_var 0))))) (sw_or (stt_not (stt_chain (opc_le hr) (opc_le hr) (SP.v sp_int) (SP.v (sp_callB cal_len (by rfl) g.b_len (by decide +kernel) (svs_cons (sv_var 0) svs_nil))) (SP.v sp_int))) (sw_or1 (stt_not (stt_val (SP.v (sp_callB (cal_all rfl) (by rfl) g.b_all (by decide +kernel) (svs_cons (SP.v (sp_lc rfl S.nd (si_val (sv_var 0)) (blkOk_by (own := [("one", 1)]) (by kernel_rfl)) (fun _ _ _ _ _ => (sg_name S.nd (i := 1))) (fun _ _ _ _ _ => (sp_callC c_is_integer hr hgd passL (sps_cons (sp_var 1) sps_nil))) (by decide))) svs_nil)))))))))) (sss_cons (ss_ret (SP.en sp_bl))
      sss_nil) sss_nil)
      (sss_cons (ss_if (STt.en (stt_val (SP.v (sp_callB (cal_any rfl) (by rfl) g.b_any (by decide +kernel) (svs_cons (SP.v (sp_lc rfl S.nd (si_val (sv_var 0)) (blkOk_by (own := [("one", 1)]) (by kernel_rfl)) (fun _ _ _ _ _ => (sg_name S.nd (i := 1))) (fun _ _ _ _ _ => (sp_cmp (opc_ge hr) (SP.v (sp_callB cal_abs (by rfl) g.b_abs (by decide +kernel) (svs_cons (sv_var 1) svs_nil))) (SP.v (sp_gk g.k_MOST_SIZE)) (nomark _))) (by decide))) svs_nil))))) (sss_cons (ss_ret (SP.en sp_bl))
      sss_nil) sss_nil)
      (sss_cons (ss_ret (SP.en (sp_or (SP.v (sp_cmp (opc_ne hr) (sv_ix (sv_var 0) (SP.v (sp_un unr_neg (SP.v sp_int))) (by intro _ _; rfl)) (SP.v sp_int) (nomark _))) (sp_one (sp_cmp (opc_eq hr) (sv_var 0) (SP.v (sp_tup (sps_cons sp_int sps_nil))) (nomark _))))))
      sss_nil)))
/-! check_poly -/
abbrev s_check_poly : Stmt := topS 21
def b_check_poly : SM := (sSeq (sIf (eTest (mNotT (mTrue (mCall f_is_poly (mCons (mD (mVar 0)) mNil))))) (sSeq (sRaise 3)
    sSkip) sSkip)
    sSkip)
def f_check_poly : FM := fnM 1 0 [] b_check_poly
theorem sc_check_poly : FnScope ["thing"] ["thing"] (defScope s_check_poly) := ⟨rfl, rfl, rfl, by decide +kernel, rfl, by decide +kernel, by decide +kernel⟩
theorem w_check_poly (g : G K mg ct) (c_is_poly : Cal P w K mg base ct "is_poly" 2 1 f_is_poly) {fa : Addr} {cdv : Value} {A : Around} {outer : List PySem.Env} {s : Shared} {H : Hp} {E : XK} (hr : Room 2 (A.deeper (envOfC "check_poly" (defScope s_check_poly) s.heap.objs.size fa cdv))) (hgd : A.guards = some []) :
    SSs (cxOf (L2.CX P w) P w K mg base ["thing"] "check_poly" (defScope s_check_poly) fa cdv A outer s H E) ct E [] (defBody s_check_poly) b_check_poly :=
  have S := sc_check_poly
  have tk : Takes (cxOf (L2.CX P w) P w K mg base ["thing"] "check_poly" (defScope s_check_poly) fa cdv A outer s H E) (fun cls d _ H => E cls d H) := takes_of rfl rfl rfl rfl
  have hx : Passes (L2.CX P w) (cxOf (L2.CX P w) P w K mg base ["thing"] "check_poly" (defScope s_check_poly) fa cdv A outer s H E) E := passes_call tk fun _ _ _ _ h => h
  have hp := passes_of (X := cxOf (L2.CX P w) P w K mg base ["thing"] "check_poly" (defScope s_check_poly) fa cdv A outer s H E) rfl
  (sss_cons (ss_if (STt.en (stt_not (stt_val (SP.v (sp_callC c_is_poly hr hgd hx (sps_cons (sp_var 0) sps_nil)))))) (sss_cons (ss_raiseC 3 g.x_NoPoly rfl tk)
      sss_nil) sss_nil)
      sss_nil)
/-! turned_about -/
abbrev s_turned_about : Stmt := topS 38
def b_turned_about : SM := (sSeq (sDrop (eP (mCall f_check_poly (mCons (mD (mVar 0)) mNil))))
    (sSeq (sIf (eTest (mNotT (mTrue (mCall f_is_within (mCons (mD (mVar 1)) (mCons (mUn oNeg (mK (.int 1000000000))) (mCons (mK (.int 1000000000)) mNil))))))) (sSeq (sRaise 4)
    sSkip) sSkip)
    (sSeq (sAsg (eP (mLstS (mCons (mK (.int 0)) mNil))) (gNm 2))
    (sSeq (sFor (iE itVal (iOne (eFr (eP (mSliceR (mVar 0) none (mUn oNeg (mK (.int 1)))))))) (.nm 3) (sSeq (sAsg (eCall f_terms_product [none, none] (eCons (eFrz 2) (eCons (eFr (eP (mLstS (mCons (mD (mVar 1)) (mCons (mUn oNeg (mK (.int 1))) mNil))))) eNil))) (gNm 2))
    (sSeq (sAugI 2 (mK (.int 0)) (mVar 3))
    sSkip)))
    (sSeq (sRet (eCall f_trimmed [none] (eCons (eFrz 2) eNil)))
    sSkip)))))
def f_turned_about : FM := fnM 2 2 [] b_turned_about
theorem sc_turned_about : FnScope ["poly", "s", "found", "term"] ["poly", "s"] (defScope s_turned_about) := ⟨rfl, rfl, rfl, by decide +kernel, rfl, by decide +kernel, by decide +kernel⟩
theorem w_turned_about (g : G K mg ct) (c_check_poly : Cal P w K mg base ct "check_poly" 3 1 f_check_poly) (c_is_within : Cal P w K mg base ct "is_within" 2 3 f_is_within) (c_terms_product : Cal P w K mg base ct "terms_product" 1 2 f_terms_product) (c_trimmed : Cal P w K mg base ct "trimmed" 1 1 f_trimmed) {fa : Addr} {cdv : Value} {A : Around} {outer : List PySem.Env} {s : Shared} {H : Hp} {E : XK} (hr : Room 3 (A.deeper (envOfC "turned_about" (defScope s_turned_about) s.heap.objs.size fa cdv))) (hgd : A.guards = some []) :
    SSs (cxOf (L2.CX P w) P w K mg base ["poly", "s", "found", "term"] "turned_about" (defScope s_turned_about) fa cdv A outer s H E) ct E [] (defBody s_turned_about) b_turned_about :=
  have S := sc_turned_about
  have tk : Takes (cxOf (L2.CX P w) P w K mg base ["poly", "s", "found", "term"] "turned_about" (defScope s_turned_about) fa cdv A outer s H E) (fun cls d _ H => E cls d H) := takes_of rfl rfl rfl rfl
  have hx : Passes (L2.CX P w) (cxOf (L2.CX P w) P w K mg base ["poly", "s", "found", "term"] "turned_about" (defScope s_turned_about) fa cdv A outer s H E) E := passes_call tk fun _ _ _ _ h => h
  have hp := passes_of (X := cxOf (L2.CX P w) P w K mg base ["poly", "s", "found", "term"] "turned_about" (defScope s_turned_about) fa cdv A outer s H E) rfl
  (sss_cons (ss_expr (SP.en (sp_callC c_check_poly hr hgd hx (sps_cons (sp_var 0) sps_nil))))
      (sss_cons (ss_if (STt.en (stt_not (stt_val (SP.v (sp_callC c_is_within hr hgd hx (sps_cons (sp_var 1) (sps_cons (sp_un unr_neg (SP.v (sp_gk g.k_MOST_X))) (sps_cons (sp_gk g.k_MOST_X) sps_nil)))))))) (sss_cons (ss_raiseC 4 g.x_NoInteger rfl tk)
      sss_nil) sss_nil)
      (sss_cons (ss_asg (SP.en (sp_lst (sps_cons sp_int sps_nil))) (sge_name S.nd (i := 2)))
      (sss_cons (ss_for hp rfl (sie_val (SP.en (sp_sliceR (sv_var 0) so_none (SP.v (sp_un unr_neg (SP.v sp_int)))))) (sg_name S.nd (i := 3)) (sss_cons (ss_asg (se_callC c_terms_product hr hgd hx (sls_cons (se_frz 2) (sls_cons (SE.fr (SP.en (sp_lst (sps_cons (sp_var 1) (sps_cons (sp_un unr_neg (SP.v sp_int)) sps_nil))))) sls_nil))) (sge_name S.nd (i := 2)))
      (sss_cons (ss_augI 2 (SP.v sp_int) (sv_var 3))
      sss_nil)) (by decide))
      (sss_cons (ss_ret (se_callC c_trimmed hr hgd hx (sls_cons (se_frz 2) sls_nil)))
      sss_nil)))))
/-! divided_by_root -/
abbrev s_divided_by_root : Stmt := topS 40
def b_divided_by_root : SM := (sSeq (sAsgs (eCons (eP (mLstS mNil)) (eCons (eP (mK (.int 0))) eNil)) (gTwo 3 4))
    (sSeq (sFor (iE itVal (iOne (eFr (eP (mSliceR (mVar 0) none (mUn oNeg (mK (.int 1)))))))) (.nm 2) (sSeq (sAsg (eP (mBin oAdd (mBin oMul (mVar 4) (mVar 1)) (mVar 2))) (gNm 4))
    (sSeq (sDrop (eApnd 3 (eFrz 4)))
    sSkip)))
    (sSeq (sRet (eP (mTupS (mCons (mD (mBin iGet (mVar 3) (mUn oNeg (mK (.int 1))))) (mCons (mApp bTuple (mCons (mSliceR (mVar 3) (some (mUn oNeg (mK (.int 2)))) (mUn oNeg (mK (.int 1)))) mNil)) mNil)))))
    sSkip)))
def f_divided_by_root : FM := fnM 2 3 [] b_divided_by_root
theorem sc_divided_by_root : FnScope ["poly", "root", "term", "found", "carry"] ["poly", "root"] (defScope s_divided_by_root) := ⟨rfl, rfl, rfl, by decide +kernel, rfl, by decide +kernel, by decide +kernel⟩
theorem w_divided_by_root (g : G K mg ct) {fa : Addr} {cdv : Value} {A : Around} {outer : List PySem.Env} {s : Shared} {H : Hp} {E : XK} (hr : Room 0 (A.deeper (envOfC "divided_by_root" (defScope s_divided_by_root) s.heap.objs.size fa cdv))) (hgd : A.guards = some []) :
    SSs (cxOf (L2.CX P w) P w K mg base ["poly", "root", "term", "found", "carry"] "divided_by_root" (defScope s_divided_by_root) fa cdv A outer s H E) ct E [] (defBody s_divided_by_root) b_divided_by_root :=
  have S := sc_divided_by_root
  have tk : Takes (cxOf (L2.CX P w) P w K mg base ["poly", "root", "term", "found", "carry"] "divided_by_root" (defScope s_divided_by_root) fa cdv A outer s H E) (fun cls d _ H => E cls d H) := takes_of rfl rfl rfl rfl
  have hx : Passes (L2.CX P w) (cxOf (L2.CX P w) P w K mg base ["poly", "root", "term", "found", "carry"] "divided_by_root" (defScope s_divided_by_root) fa cdv A outer s H E) E := passes_call tk fun _ _ _ _ h => h
  have hp := passes_of (X := cxOf (L2.CX P w) P w K mg base ["poly", "root", "term", "found", "carry"] "divided_by_root" (defScope s_divided_by_root) fa cdv A outer s H E) rfl
  (sss_cons (ss_par rfl S.nd (ses_cons (SP.en (sp_lst sps_nil)) (ses_cons (SP.en sp_int) ses_nil)) (by kernel_rfl) (i := 3) (j := 4))
      (sss_cons (ss_for hp rfl (sie_val (SP.en (sp_sliceR (sv_var 0) so_none (SP.v (sp_un unr_neg (SP.v sp_int)))))) (sg_name S.nd (i := 2)) (sss_cons (ss_asg (SP.en (sp_bin opo_add (SP.v (sp_bin opo_mul (sv_var 4) (sv_var 1))) (sv_var 2))) (sge_name S.nd (i := 4)))
      (sss_cons (ss_expr (se_apnd 3 rfl (ses_cons (se_frz 4) ses_nil)))
      sss_nil)) (by decide))
      (sss_cons (ss_ret (SP.en (sp_tup (sps_cons (sp_ix (sv_var 3) (SP.v (sp_un unr_neg (SP.v sp_int))) (by intro _ _; rfl)) (sps_cons (sp_callT cal_tuple (by rfl) g.b_tuple (by decide +kernel) (svs_cons (SP.v (sp_sliceR (sv_var 3) (so_some (SP.v (sp_un unr_neg (SP.v sp_int)))) (SP.v (sp_un unr_neg (SP.v sp_int))))) svs_nil)) sps_nil)))))
      sss_nil)))
/-! product_row -/
abbrev s_product_row : Stmt := topS 41
def b_product_row : SM := (sSeq (sDrop (eP (mCall f_check_poly (mCons (mD (mVar 0)) mNil))))
    (sSeq (sAsgs (eCons (eP (mLstS mNil)) (eCons (eP (mK (.int 0))) eNil)) (gTwo 1 2))
    (sSeq (sWhile 1000000 (eTest (mAndT (mCmpT cLe (mVar 2) (mK (.int 400))) (mCmpT cGt (mApp bLen (mCons (mVar 0) mNil)) (mK (.int 1))))) (sSeq (sAsg (eFr (eP (mCall f_divided_by_root (mCons (mD (mVar 0)) (mCons (mD (mVar 2)) mNil))))) (gPat (.tp [(.nm 3), (.nm 4)])))
    (sSeq (sIf (eTest (mCmpT cEq (mVar 3) (mK (.int 0)))) (sSeq (sDrop (eApnd 1 (eFrz 2)))
    (sSeq (sAsg (eFrz 4) (gNm 0))
    sSkip)) (sSeq (sAug 2 (eP (mK (.int 1))))
    sSkip))
    sSkip)))
    (sSeq (sRet (eP (mApp bTuple (mCons (mVar 1) mNil))))
    sSkip))))
def f_product_row : FM := fnM 1 4 [] b_product_row
theorem sc_product_row : FnScope ["poly", "found", "root", "rest", "later"] ["poly"] (defScope s_product_row) := ⟨rfl, rfl, rfl, by decide +kernel, rfl, by decide +kernel, by decide +kernel⟩
theorem w_product_row (g : G K mg ct) (c_check_poly : Cal P w K mg base ct "check_poly" 3 1 f_check_poly) (c_divided_by_root : Cal P w K mg base ct "divided_by_root" 1 2 f_divided_by_root) {fa : Addr} {cdv : Value} {A : Around} {outer : List PySem.Env} {s : Shared} {H : Hp} {E : XK} (hr : Room 3 (A.deeper (envOfC "product_row" (defScope s_product_row) s.heap.objs.size fa cdv))) (hgd : A.guards = some []) :
    SSs (cxOf (L2.CX P w) P w K mg base ["poly", "found", "root", "rest", "later"] "product_row" (defScope s_product_row) fa cdv A outer s H E) ct E [] (defBody s_product_row) b_product_row :=
  have S := sc_product_row
  have tk : Takes (cxOf (L2.CX P w) P w K mg base ["poly", "found", "root", "rest", "later"] "product_row" (defScope s_product_row) fa cdv A outer s H E) (fun cls d _ H => E cls d H) := takes_of rfl rfl rfl rfl
  have hx : Passes (L2.CX P w) (cxOf (L2.CX P w) P w K mg base ["poly", "found", "root", "rest", "later"] "product_row" (defScope s_product_row) fa cdv A outer s H E) E := passes_call tk fun _ _ _ _ h => h
  have hp := passes_of (X := cxOf (L2.CX P w) P w K mg base ["poly", "found", "root", "rest", "later"] "product_row" (defScope s_product_row) fa cdv A outer s H E) rfl
  (sss_cons (ss_expr (SP.en (sp_callC c_check_poly hr hgd hx (sps_cons (sp_var 0) sps_nil))))
      (sss_cons (ss_par rfl S.nd (ses_cons (SP.en (sp_lst sps_nil)) (ses_cons (SP.en sp_int) ses_nil)) (by kernel_rfl) (i := 1) (j := 2))
      (sss_cons (ss_while 1000000 hp (STt.en (SW.t (sw_and (stt_cmp (opc_le hr) (sv_var 2) (SP.v (sp_gk g.k_MOST_ROOT)) (nomark _)) (sw_and1 (stt_cmp (opc_gt hr) (SP.v (sp_callB cal_len (by rfl) g.b_len (by decide +kernel) (svs_cons (sv_var 0) svs_nil))) (SP.v sp_int) (nomark _)))))) (sss_cons (ss_asg (SE.fr (SP.en (sp_callC c_divided_by_root hr hgd hx (sps_cons (sp_var 0) (sps_cons (sp_var 2) sps_nil))))) (sge_pat (sg_tup rfl (sgs_cons (sg_name S.nd (i := 3)) (sgs_cons (sg_name S.nd (i := 4)) sgs_nil))) (by decide)))
      (sss_cons (ss_if (STt.en (stt_cmp (opc_eq hr) (sv_var 3) (SP.v sp_int) (nomark _))) (sss_cons (ss_expr (se_apnd 1 rfl (ses_cons (se_frz 2) ses_nil)))
      (sss_cons (ss_asg (se_frz 4) (sge_name S.nd (i := 0)))
      sss_nil)) (sss_cons (ss_aug 2 S.nd (SP.en sp_int))
      sss_nil))
      sss_nil)))
      (sss_cons (ss_ret (SP.en (sp_callT cal_tuple (by rfl) g.b_tuple (by decide +kernel) (svs_cons (sv_var 1) svs_nil))))
      sss_nil))))
/-! _law_are_refused -/
abbrev s__law_are_refused : Stmt := topS 47
def b__law_are_refused : SM := (sSeq (sAsgs (eCons (eCall f__law_any [some 0, none] (eCons (eMov 0) (eCons (eFr (eP (mLstS (mCons (mK (.int 1)) (mCons (mK (.int 6)) (mCons (mK .none) (mCons (mK (.bool true)) (mCons (mK (.str "3")) mNil)))))))) eNil))) (eCons (eCall f__law_any [some 0, none] (eCons (eMov 0) (eCons (eFr (eP (mLstS (mCons (mK (.int 1)) (mCons (mK (.int 13)) (mCons (mK .none) (mCons (mK (.bool true)) mNil))))))) eNil))) eNil)) (gsCons (gNm 5) (gsCons (gNm 6) gsNil)))
    (sSeq (sAsg (eFr (eCall f__law_any [some 0, none] (eCons (eMov 0) (eCons (eFr (eP (mLstS (mCons (mTupS (mCons (mK (.int 1)) (mCons (mK (.int 0)) mNil))) (mCons (mTupS (mCons (mK (.int 2)) (mCons (mK (.int 3)) mNil))) (mCons (mTupS (mCons (mUn oNeg (mK (.int 21))) (mCons (mK (.int 0)) mNil))) (mCons (mTupS (mCons (mK .none) (mCons (mK (.int 0)) mNil))) (mCons (mTupS (mCons (mK (.int 0)) (mCons (mK (.bool true)) mNil))) (mCons (mTupS (mCons (mUn oNeg (mK (.int 3))) (mCons (mUn oNeg (mK (.int 2))) mNil))) (mCons (mTupS (mCons (mK (.int 0)) (mCons (mK (.int 21)) mNil))) mNil)))))))))) eNil)))) (gPat (.tp [(.nm 7), (.nm 8)])))
    (sSeq (sAsg (eCall f__law_any [some 0, none] (eCons (eMov 0) (eCons (eFr (eP (mLstS (mCons (mK .none) (mCons (mTupS mNil) (mCons (mTupS (mCons (mK (.int 1)) (mCons (mK (.int 0)) mNil))) (mCons (mLstS (mCons (mK (.int 1)) mNil)) (mCons (mTupS (mCons (mK (.bool true)) mNil)) (mCons (mBin oMul (mTupS (mCons (mK (.int 1)) mNil)) (mK (.int 41))) (mCons (mTupS (mCons (mBin oPow (mK (.int 10)) (mK (.int 30))) mNil)) (mCons (mTupS (mCons (mK (.int 0)) (mCons (mK (.str "1")) mNil))) mNil))))))))))) eNil))) (gNm 1))
    (sSeq (sAsg (eCall f__law_any [some 0, none] (eCons (eMov 0) (eCons (eFr (eP (mLstS (mCons (mK .none) (mCons (mK (.bool true)) (mCons (mBin oAdd (mBin oPow (mK (.int 10)) (mK (.int 9))) (mK (.int 1))) (mCons (mBin oSub (mUn oNeg (mBin oPow (mK (.int 10)) (mK (.int 9)))) (mK (.int 1))) (mCons (mK (.str "1")) mNil)))))))) eNil))) (gNm 2))
    (sSeq (sAsg (eP (mLstS mNil)) (gNm 3))
    (sSeq (sDrop (eApnd 3 (eRef wd (mCall f_run_cut (mCons (mD (mVar 5)) (mCons (mD (mVar 7)) (mCons (mD (mVar 8)) mNil)))))))
    (sSeq (sDrop (eApnd 3 (eRef wd (mCall f_run_cut (mCons (mK (.int 3)) (mCons (mD (mVar 7)) (mCons (mD (mVar 8)) mNil)))))))
    (sSeq (sDrop (eApnd 3 (eRef wd (mCall f_run_cut (mCons (mK (.int 5)) (mCons (mUn oNeg (mK (.int 2))) (mCons (mK (.int 1)) mNil)))))))
    (sSeq (sDrop (eApnd 3 (eRef wd (mCall f_run_poly (mCons (mD (mVar 6)) (mCons (mD (mVar 7)) (mCons (mD (mVar 8)) mNil)))))))
    (sSeq (sDrop (eApnd 3 (eRef wd (mCall f_run_poly (mCons (mK (.int 12)) (mCons (mD (mVar 7)) (mCons (mD (mVar 8)) mNil)))))))
    (sSeq (sDrop (eApnd 3 (eRef wd (mCall f_run_rooms (mCons (mD (mVar 6)) (mCons (mD (mVar 7)) (mCons (mD (mVar 8)) mNil)))))))
    (sSeq (sDrop (eApnd 3 (eRef wd (mCall f_run_rooms (mCons (mK (.int 3)) (mCons (mD (mVar 7)) (mCons (mD (mVar 8)) mNil)))))))
    (sSeq (sDrop (eApnd 3 (eRef wd (mCall f_run_bounded (mCons (mD (mVar 6)) (mCons (mD (mVar 7)) (mCons (mD (mVar 8)) mNil)))))))
    (sSeq (sDrop (eApnd 3 (eRef wd (mCall f_run_bounded (mCons (mK (.int 3)) (mCons (mD (mVar 7)) (mCons (mD (mVar 8)) mNil)))))))
    (sSeq (sDrop (eApnd 3 (eRef wd (mCall f_run_middle (mCons (mD (mVar 6)) (mCons (mD (mVar 7)) (mCons (mD (mVar 8)) mNil)))))))
    (sSeq (sDrop (eApnd 3 (eRef wd (mCall f_run_middle (mCons (mK (.int 3)) (mCons (mD (mVar 7)) (mCons (mD (mVar 8)) mNil)))))))
    (sSeq (sDrop (eApnd 3 (eRef wd (mCall f_turned_about (mCons (mD (mVar 1)) (mCons (mD (mVar 2)) mNil))))))
    (sSeq (sDrop (eApnd 3 (eRef wd (mCall f_turned_about (mCons (mTupS (mCons (mK (.int 0)) (mCons (mK (.int 1)) mNil))) (mCons (mD (mVar 2)) mNil))))))
    (sSeq (sDrop (eApnd 3 (eRef wd (mCall f_product_row (mCons (mD (mVar 1)) mNil)))))
    (sSeq (sAsg (eP (mLstS (mCons (mK (.str "number")) (mCons (mK (.str "run")) (mCons (mK (.str "planes")) (mCons (mK (.str "number")) (mCons (mK (.str "run")) (mCons (mK (.str "number")) (mCons (mK (.str "run")) (mCons (mK (.str "number")) (mCons (mK (.str "run")) (mCons (mK (.str "number")) (mCons (mK (.str "run")) (mCons (mK (.str "poly")) (mCons (mK (.str "integer")) (mCons (mK (.str "poly")) mNil)))))))))))))))) (gNm 4))
    (sSeq (sRet (eP (mCmp cEq (mVar 3) (mVar 4))))
    sSkip)))))))))))))))))))))
def f__law_are_refused : FM := fnM 1 8 [0] b__law_are_refused
theorem sc__law_are_refused : FnScope ["hand", "poly", "number", "words", "due", "n", "long", "low", "high"] ["hand"] (defScope s__law_are_refused) := ⟨rfl, rfl, rfl, by decide +kernel, rfl, by decide +kernel, by decide +kernel⟩
theorem w__law_are_refused (g : G K mg ct) (c__law_any : Cal P w K mg base ct "_law_any" 2 2 f__law_any) (c_product_row : Cal P w K mg base ct "product_row" 4 1 f_product_row) (c_run_bounded : Cal P w K mg base ct "run_bounded" 5 3 f_run_bounded) (c_run_cut : Cal P w K mg base ct "run_cut" 4 3 f_run_cut) (c_run_middle : Cal P w K mg base ct "run_middle" 5 3 f_run_middle) (c_run_poly : Cal P w K mg base ct "run_poly" 5 3 f_run_poly) (c_run_rooms : Cal P w K mg base ct "run_rooms" 5 3 f_run_rooms) (c_turned_about : Cal P w K mg base ct "turned_about" 4 2 f_turned_about) (t__law_refusal : Tel P w K mg base ct "_law_refusal" "call" wd) {c_ P_ : Addr} (mkk : Mk base mg c_ P_ ((envOfC "_law_are_refused" (defScope s__law_are_refused) 0 0 .none).qual ++ "<lambda>")) {fa : Addr}  {A : Around} {outer : List PySem.Env} {s : Shared} {H : Hp} {E : XK} (hr : Room 7 (A.deeper (envOfC "_law_are_refused" (defScope s__law_are_refused) s.heap.objs.size fa (.ref c_)))) (hgd : A.guards = some []) :
    SSs (cxOf (L2.CX P w) P w K mg base ["hand", "poly", "number", "words", "due", "n", "long", "low", "high"] "_law_are_refused" (defScope s__law_are_refused) fa (.ref c_) A outer s H E) ct E [0] (defBody s__law_are_refused) b__law_are_refused :=
  have S := sc__law_are_refused
  have tk : Takes (cxOf (L2.CX P w) P w K mg base ["hand", "poly", "number", "words", "due", "n", "long", "low", "high"] "_law_are_refused" (defScope s__law_are_refused) fa (.ref c_) A outer s H E) (fun cls d _ H => E cls d H) := takes_of rfl rfl rfl rfl
  have hx : Passes (L2.CX P w) (cxOf (L2.CX P w) P w K mg base ["hand", "poly", "number", "words", "due", "n", "long", "low", "high"] "_law_are_refused" (defScope s__law_are_refused) fa (.ref c_) A outer s H E) E := passes_call tk fun _ _ _ _ h => h
  have hp := passes_of (X := cxOf (L2.CX P w) P w K mg base ["hand", "poly", "number", "words", "due", "n", "long", "low", "high"] "_law_are_refused" (defScope s__law_are_refused) fa (.ref c_) A outer s H E) rfl
  (sss_cons (ss_tupAsg rfl (ses_cons (se_callC c__law_any hr hgd hx (sls_lend 0 (sls_cons (SE.fr (SP.en (sp_lst (sps_cons sp_int (sps_cons sp_int (sps_cons sp_non (sps_cons sp_bl (sps_cons (sp_str "3" rfl) sps_nil)))))))) sls_nil))) (ses_cons (se_callC c__law_any hr hgd hx (sls_lend 0 (sls_cons (SE.fr (SP.en (sp_lst (sps_cons sp_int (sps_cons sp_int (sps_cons sp_non (sps_cons sp_bl sps_nil))))))) sls_nil))) ses_nil)) (sges_cons (sge_name S.nd (i := 5)) (sges_cons (sge_name S.nd (i := 6)) sges_nil)) (hlen := EmLen.ok (by repeat constructor)))
      (sss_cons (ss_asg (SE.fr (se_callC c__law_any hr hgd hx (sls_lend 0 (sls_cons (SE.fr (SP.en (sp_lst (sps_cons (sp_tup (sps_cons sp_int (sps_cons sp_int sps_nil))) (sps_cons (sp_tup (sps_cons sp_int (sps_cons sp_int sps_nil))) (sps_cons (sp_tup (sps_cons (sp_un unr_neg (SP.v sp_int)) (sps_cons sp_int sps_nil))) (sps_cons (sp_tup (sps_cons sp_non (sps_cons sp_int sps_nil))) (sps_cons (sp_tup (sps_cons sp_int (sps_cons sp_bl sps_nil))) (sps_cons (sp_tup (sps_cons (sp_un unr_neg (SP.v sp_int)) (sps_cons (sp_un unr_neg (SP.v sp_int)) sps_nil))) (sps_cons (sp_tup (sps_cons sp_int (sps_cons sp_int sps_nil))) sps_nil)))))))))) sls_nil)))) (sge_pat (sg_tup rfl (sgs_cons (sg_name S.nd (i := 7)) (sgs_cons (sg_name S.nd (i := 8)) sgs_nil))) (by decide)))
      (sss_cons (ss_asg (se_callC c__law_any hr hgd hx (sls_lend 0 (sls_cons (SE.fr (SP.en (sp_lst (sps_cons sp_non (sps_cons (sp_tup sps_nil) (sps_cons (sp_tup (sps_cons sp_int (sps_cons sp_int sps_nil))) (sps_cons (sp_lst (sps_cons sp_int sps_nil)) (sps_cons (sp_tup (sps_cons sp_bl sps_nil)) (sps_cons (sp_bin opo_mul (SP.v (sp_tup (sps_cons sp_int sps_nil))) (SP.v sp_int)) (sps_cons (sp_tup (sps_cons (sp_bin opo_pow (SP.v sp_int) (SP.v sp_int)) sps_nil)) (sps_cons (sp_tup (sps_cons sp_int (sps_cons (sp_str "1" rfl) sps_nil))) sps_nil))))))))))) sls_nil))) (sge_name S.nd (i := 1)))
      (sss_cons (ss_asg (se_callC c__law_any hr hgd hx (sls_lend 0 (sls_cons (SE.fr (SP.en (sp_lst (sps_cons sp_non (sps_cons sp_bl (sps_cons (sp_bin opo_add (SP.v (sp_bin opo_pow (SP.v sp_int) (SP.v sp_int))) (SP.v sp_int)) (sps_cons (sp_bin opo_sub (SP.v (sp_un unr_neg (SP.v (sp_bin opo_pow (SP.v sp_int) (SP.v sp_int))))) (SP.v sp_int)) (sps_cons (sp_str "1" rfl) sps_nil)))))))) sls_nil))) (sge_name S.nd (i := 2)))
      (sss_cons (ss_asg (SP.en (sp_lst sps_nil)) (sge_name S.nd (i := 3)))
      (sss_cons (ss_expr (se_apnd 3 rfl (ses_cons (se_refC t__law_refusal mkk rfl hr hgd (fun A outer s H E f c' hr hgd hx => (sp_callC c_run_cut hr hgd hx (sps_cons (sp_var 5) (sps_cons (sp_var 7) (sps_cons (sp_var 8) sps_nil)))))) ses_nil)))
      (sss_cons (ss_expr (se_apnd 3 rfl (ses_cons (se_refC t__law_refusal mkk rfl hr hgd (fun A outer s H E f c' hr hgd hx => (sp_callC c_run_cut hr hgd hx (sps_cons sp_int (sps_cons (sp_var 7) (sps_cons (sp_var 8) sps_nil)))))) ses_nil)))
      (sss_cons (ss_expr (se_apnd 3 rfl (ses_cons (se_refC t__law_refusal mkk rfl hr hgd (fun A outer s H E f c' hr hgd hx => (sp_callC c_run_cut hr hgd hx (sps_cons sp_int (sps_cons (sp_un unr_neg (SP.v sp_int)) (sps_cons sp_int sps_nil)))))) ses_nil)))
      (sss_cons (ss_expr (se_apnd 3 rfl (ses_cons (se_refC t__law_refusal mkk rfl hr hgd (fun A outer s H E f c' hr hgd hx => (sp_callC c_run_poly hr hgd hx (sps_cons (sp_var 6) (sps_cons (sp_var 7) (sps_cons (sp_var 8) sps_nil)))))) ses_nil)))
      (sss_cons (ss_expr (se_apnd 3 rfl (ses_cons (se_refC t__law_refusal mkk rfl hr hgd (fun A outer s H E f c' hr hgd hx => (sp_callC c_run_poly hr hgd hx (sps_cons sp_int (sps_cons (sp_var 7) (sps_cons (sp_var 8) sps_nil)))))) ses_nil)))
      (sss_cons (ss_expr (se_apnd 3 rfl (ses_cons (se_refC t__law_refusal mkk rfl hr hgd (fun A outer s H E f c' hr hgd hx => (sp_callC c_run_rooms hr hgd hx (sps_cons (sp_var 6) (sps_cons (sp_var 7) (sps_cons (sp_var 8) sps_nil)))))) ses_nil)))
      (sss_cons (ss_expr (se_apnd 3 rfl (ses_cons (se_refC t__law_refusal mkk rfl hr hgd (fun A outer s H E f c' hr hgd hx => (sp_callC c_run_rooms hr hgd hx (sps_cons sp_int (sps_cons (sp_var 7) (sps_cons (sp_var 8) sps_nil)))))) ses_nil)))
      (sss_cons (ss_expr (se_apnd 3 rfl (ses_cons (se_refC t__law_refusal mkk rfl hr hgd (fun A outer s H E f c' hr hgd hx => (sp_callC c_run_bounded hr hgd hx (sps_cons (sp_var 6) (sps_cons (sp_var 7) (sps_cons (sp_var 8) sps_nil)))))) ses_nil)))
      (sss_cons (ss_expr (se_apnd 3 rfl (ses_cons (se_refC t__law_refusal mkk rfl hr hgd (fun A outer s H E f c' hr hgd hx => (sp_callC c_run_bounded hr hgd hx (sps_cons sp_int (sps_cons (sp_var 7) (sps_cons (sp_var 8) sps_nil)))))) ses_nil)))
      (sss_cons (ss_expr (se_apnd 3 rfl (ses_cons (se_refC t__law_refusal mkk rfl hr hgd (fun A outer s H E f c' hr hgd hx => (sp_callC c_run_middle hr hgd hx (sps_cons (sp_var 6) (sps_cons (sp_var 7) (sps_cons (sp_var 8) sps_nil)))))) ses_nil)))
      (sss_cons (ss_expr (se_apnd 3 rfl (ses_cons (se_refC t__law_refusal mkk rfl hr hgd (fun A outer s H E f c' hr hgd hx => (sp_callC c_run_middle hr hgd hx (sps_cons sp_int (sps_cons (sp_var 7) (sps_cons (sp_var 8) sps_nil)))))) ses_nil)))
      (sss_cons (ss_expr (se_apnd 3 rfl (ses_cons (se_refC t__law_refusal mkk rfl hr hgd (fun A outer s H E f c' hr hgd hx => (sp_callC c_turned_about hr hgd hx (sps_cons (sp_var 1) (sps_cons (sp_var 2) sps_nil))))) ses_nil)))
      (sss_cons (ss_expr (se_apnd 3 rfl (ses_cons (se_refC t__law_refusal mkk rfl hr hgd (fun A outer s H E f c' hr hgd hx => (sp_callC c_turned_about hr hgd hx (sps_cons (sp_tup (sps_cons sp_int (sps_cons sp_int sps_nil))) (sps_cons (sp_var 2) sps_nil))))) ses_nil)))
      (sss_cons (ss_expr (se_apnd 3 rfl (ses_cons (se_refC t__law_refusal mkk rfl hr hgd (fun A outer s H E f c' hr hgd hx => (sp_callC c_product_row hr hgd hx (sps_cons (sp_var 1) sps_nil)))) ses_nil)))
      (sss_cons (ss_asg (SP.en (sp_lst (sps_cons (sp_str "number" rfl) (sps_cons (sp_str "run" rfl) (sps_cons (sp_str "planes" rfl) (sps_cons (sp_str "number" rfl) (sps_cons (sp_str "run" rfl) (sps_cons (sp_str "number" rfl) (sps_cons (sp_str "run" rfl) (sps_cons (sp_str "number" rfl) (sps_cons (sp_str "run" rfl) (sps_cons (sp_str "number" rfl) (sps_cons (sp_str "run" rfl) (sps_cons (sp_str "poly" rfl) (sps_cons (sp_str "integer" rfl) (sps_cons (sp_str "poly" rfl) sps_nil)))))))))))))))) (sge_name S.nd (i := 4)))
      (sss_cons (ss_ret (SP.en (sp_cmp (opc_eq hr) (sv_var 3) (sv_var 4) (nomark _))))
      sss_nil)))))))))))))))))))))
/-! _law_is -/
abbrev s__law_is : Stmt := topS 48
def b__law_is : SM := (sSeq (sRet (eP (mCmp cEq (mApp bRepr (mCons (mVar 0) mNil)) (mApp bRepr (mCons (mVar 1) mNil)))))
    sSkip)
def f__law_is : FM := fnM 2 0 [] b__law_is
theorem sc__law_is : FnScope ["told", "due"] ["told", "due"] (defScope s__law_is) := ⟨rfl, rfl, rfl, by decide +kernel, rfl, by decide +kernel, by decide +kernel⟩
theorem w__law_is (g : G K mg ct) {fa : Addr} {cdv : Value} {A : Around} {outer : List PySem.Env} {s : Shared} {H : Hp} {E : XK} (hr : Room 0 (A.deeper (envOfC "_law_is" (defScope s__law_is) s.heap.objs.size fa cdv))) (hgd : A.guards = some []) :
    SSs (cxOf (L2.CX P w) P w K mg base ["told", "due"] "_law_is" (defScope s__law_is) fa cdv A outer s H E) ct E [] (defBody s__law_is) b__law_is :=
  have S := sc__law_is
  have tk : Takes (cxOf (L2.CX P w) P w K mg base ["told", "due"] "_law_is" (defScope s__law_is) fa cdv A outer s H E) (fun cls d _ H => E cls d H) := takes_of rfl rfl rfl rfl
  have hx : Passes (L2.CX P w) (cxOf (L2.CX P w) P w K mg base ["told", "due"] "_law_is" (defScope s__law_is) fa cdv A outer s H E) E := passes_call tk fun _ _ _ _ h => h
  have hp := passes_of (X := cxOf (L2.CX P w) P w K mg base ["told", "due"] "_law_is" (defScope s__law_is) fa cdv A outer s H E) rfl
  (sss_cons (ss_ret (SP.en (sp_cmp (opc_eq hr) (SP.v (sp_callB (cal_repr hr hgd) (by rfl) g.b_repr (by decide +kernel) (svs_cons (sv_var 0) svs_nil))) (SP.v (sp_callB (cal_repr hr hgd) (by rfl) g.b_repr (by decide +kernel) (svs_cons (sv_var 1) svs_nil))) (nomark _))))
      sss_nil)
/-! _law_times -/
abbrev s__law_times : Stmt := topS 49
def b__law_times : SM := (sSeq (sAsg (eP (mBin oMul (mLstS (mCons (mK (.int 0)) mNil)) (mBin oSub (mBin oAdd (mApp bLen (mCons (mVar 0) mNil)) (mApp bLen (mCons (mVar 1) mNil))) (mK (.int 1))))) (gNm 2))
    (sSeq (sFor (iE (itEnum false) (eFrs (eCons (eFrz 0) eNil))) (.tp [(.nm 3), (.nm 4)]) (sSeq (sFor (iE (itEnum false) (eFrs (eCons (eFrz 1) eNil))) (.tp [(.nm 5), (.nm 6)]) (sSeq (sAsg (eP (mBin oAdd (mBin iGet (mVar 2) (mBin oAdd (mVar 3) (mVar 5))) (mBin oMul (mVar 4) (mVar 6)))) (gIx 2 (mBin oAdd (mVar 3) (mVar 5))))
    sSkip))
    sSkip))
    (sSeq (sRet (eMov 2))
    sSkip)))
def f__law_times : FM := fnM 2 5 [] b__law_times
theorem sc__law_times : FnScope ["one", "other", "found", "at", "a", "place", "b"] ["one", "other"] (defScope s__law_times) := ⟨rfl, rfl, rfl, by decide +kernel, rfl, by decide +kernel, by decide +kernel⟩
theorem w__law_times (g : G K mg ct) {fa : Addr} {cdv : Value} {A : Around} {outer : List PySem.Env} {s : Shared} {H : Hp} {E : XK} (hr : Room 0 (A.deeper (envOfC "_law_times" (defScope s__law_times) s.heap.objs.size fa cdv))) (hgd : A.guards = some []) :
    SSs (cxOf (L2.CX P w) P w K mg base ["one", "other", "found", "at", "a", "place", "b"] "_law_times" (defScope s__law_times) fa cdv A outer s H E) ct E [] (defBody s__law_times) b__law_times :=
  have S := sc__law_times
  have tk : Takes (cxOf (L2.CX P w) P w K mg base ["one", "other", "found", "at", "a", "place", "b"] "_law_times" (defScope s__law_times) fa cdv A outer s H E) (fun cls d _ H => E cls d H) := takes_of rfl rfl rfl rfl
  have hx : Passes (L2.CX P w) (cxOf (L2.CX P w) P w K mg base ["one", "other", "found", "at", "a", "place", "b"] "_law_times" (defScope s__law_times) fa cdv A outer s H E) E := passes_call tk fun _ _ _ _ h => h
  have hp := passes_of (X := cxOf (L2.CX P w) P w K mg base ["one", "other", "found", "at", "a", "place", "b"] "_law_times" (defScope s__law_times) fa cdv A outer s H E) rfl
  (sss_cons (ss_asg (SP.en (sp_bin opo_mul (SP.v (sp_lst (sps_cons sp_int sps_nil))) (SP.v (sp_bin opo_sub (SP.v (sp_bin opo_add (SP.v (sp_callB cal_len (by rfl) g.b_len (by decide +kernel) (svs_cons (sv_var 0) svs_nil))) (SP.v (sp_callB cal_len (by rfl) g.b_len (by decide +kernel) (svs_cons (sv_var 1) svs_nil))))) (SP.v sp_int))))) (sge_name S.nd (i := 2)))
      (sss_cons (ss_for hp rfl (sie_enum (by rfl) g.b_enumerate (ses_cons (se_frz 0) ses_nil)) (sg_tup rfl (sgs_cons (sg_name S.nd (i := 3)) (sgs_cons (sg_name S.nd (i := 4)) sgs_nil))) (sss_cons (ss_for hp rfl (sie_enum (by rfl) g.b_enumerate (ses_cons (se_frz 1) ses_nil)) (sg_tup rfl (sgs_cons (sg_name S.nd (i := 5)) (sgs_cons (sg_name S.nd (i := 6)) sgs_nil))) (sss_cons (ss_asg (SP.en (sp_bin opo_add (sv_ix (sv_var 2) (SP.v (sp_bin opo_add (sv_var 3) (sv_var 5))) (by intro _ _; rfl)) (SP.v (sp_bin opo_mul (sv_var 4) (sv_var 6))))) (sge_ix 2 (SP.v (sp_bin opo_add (sv_var 3) (sv_var 5)))))
      sss_nil) (by decide))
      sss_nil) (by decide))
      (sss_cons (ss_ret (se_mov 2))
      sss_nil)))
/-! _law_is_right -/
abbrev s__law_is_right : Stmt := topS 50
def b__law_is_right : SM := (sSeq (sAsg (eApp bSorted (eCons (eLc (iE rng1 (eCons (eCall f__law_draw [some 0, none] (eCons (eMov 0) (eCons (eP (mK (.int 7))) eNil))) eNil)) (.nm 2) eYes (eCall f__law_any [some 0, none] (eLend 0 (eCons (eFr (eLstS (eCons (eP (mK (.int 0))) (eCons (eP (mK (.int 400))) (eCons (eCall f__law_draw [some 0, none] (eCons (eMov 0) (eCons (eP (mK (.int 401))) eNil))) (eCons (eP (mK (.int 3))) eNil)))))) eNil))) [2]) eNil)) (gNm 1))
    (sSeq (sAsgs (eCons (eP (mLstS (mCons (mK (.int 1)) mNil))) (eCons (eP (mLstS (mCons (mK (.int 1)) mNil))) (eCons (eCall f__law_any [some 0, none] (eLend 0 (eCons (eFr (eLstS (eCons (eP (mK (.int 0))) (eCons (eP (mK (.int 7))) (eCons (eBin oSub (eCall f__law_draw [some 0, none] (eCons (eMov 0) (eCons (eP (mK (.int 2001))) eNil))) (eP (mK (.int 1000)))) eNil))))) eNil))) eNil))) (gThree 6 7 8))
    (sSeq (sFor (iE itVal (iOne (eFr (eFrz 1)))) (.nm 2) (sSeq (sAsgs (eCons (eCall f__law_times [none, none] (eCons (eFrz 6) (eCons (eFr (eP (mLstS (mCons (mBin oSub (mK (.int 0)) (mVar 2)) (mCons (mK (.int 1)) mNil))))) eNil))) (eCons (eCall f__law_times [none, none] (eCons (eFrz 7) (eCons (eFr (eP (mLstS (mCons (mBin oSub (mVar 8) (mVar 2)) (mCons (mUn oNeg (mK (.int 1))) mNil))))) eNil))) eNil)) (gTwo 6 7))
    sSkip))
    (sSeq (sIf (eNotT (eTrue (eCall f__law_is [none, none] (eCons (eFr (eP (mLstS (mCons (mCall f_product_row (mCons (mApp bTuple (mCons (mVar 6) mNil)) mNil)) (mCons (mCall f_turned_about (mCons (mApp bTuple (mCons (mVar 6) mNil)) (mCons (mD (mVar 8)) mNil))) mNil))))) (eCons (eFr (eP (mLstS (mCons (mApp bTuple (mCons (mVar 1) mNil)) (mCons (mApp bTuple (mCons (mVar 7) mNil)) mNil))))) eNil))))) (sSeq (sRet (eP (mK (.bool false))))
    sSkip) sSkip)
    (sSeq (sAsgs (eCons (eCall f__law_any [some 0, none] (eCons (eMov 0) (eCons (eFr (eP (mLstS (mCons (mK (.int 2)) (mCons (mK (.int 3)) (mCons (mK (.int 4)) (mCons (mK (.int 5)) mNil))))))) eNil))) (eCons (eBin oSub (eCall f__law_draw [some 0, none] (eCons (eMov 0) (eCons (eP (mK (.int 3))) eNil))) (eP (mK (.int 1)))) (eCons (eCall f__law_draw [some 0, none] (eCons (eMov 0) (eCons (eP (mK (.int 3))) eNil))) eNil))) (gThree 9 3 10))
    (sSeq (sAsg (eP (mApp bMin (mCons (mVar 3) (mCons (mVar 10) mNil)))) (gNm 3))
    (sSeq (sAsg (eP (mLstS mNil)) (gNm 4))
    (sSeq (sFor (iP (mItA rng1 (mCons (mVar 9) mNil))) (.nm 5) (sSeq (sFor (iP (mItA rng2 (mCons (mBin oAdd (mVar 5) (mK (.int 1))) (mCons (mVar 9) mNil)))) (.nm 11) (sSeq (sDrop (eExtd 4 (eP (mLc (mItA rng2 (mCons (mVar 3) (mCons (mBin oAdd (mVar 10) (mK (.int 1))) mNil))) (.nm 12) mYes (mTupS (mCons (mD (mVar 5)) (mCons (mD (mVar 11)) (mCons (mD (mVar 12)) mNil)))) [12]))))
    sSkip))
    sSkip))
    (sSeq (sIf (eTest (mAndT (mCmpT cLe (mApp bLen (mCons (mVar 4) mNil)) (mK (.int 30))) (mNotT (mTrue (mCall f__law_is (mCons (mCall f_run_cut (mCons (mD (mVar 9)) (mCons (mD (mVar 3)) (mCons (mD (mVar 10)) mNil)))) (mCons (mTupS (mCons (mD (mVar 9)) (mCons (mApp bTuple (mCons (mVar 4) mNil)) mNil))) mNil))))))) (sSeq (sRet (eP (mK (.bool false))))
    sSkip) sSkip)
    (sSeq (sRet (eP (mCall f__law_is (mCons (mCall f_run_middle (mCons (mD (mVar 9)) (mCons (mD (mVar 3)) (mCons (mD (mVar 10)) mNil)))) (mCons (mBin oMul (mVar 9) (mBin oAdd (mBin oSub (mVar 10) (mVar 3)) (mK (.int 1)))) mNil)))))
    sSkip))))))))))
def f__law_is_right : FM := fnM 1 12 [0] b__law_is_right
theorem sc__law_is_right : FnScope ["hand", "roots", "root", "low", "planes", "i", "poly", "turned", "s", "n", "high", "j", "a"] ["hand"] (defScope s__law_is_right) := ⟨rfl, rfl, rfl, by decide +kernel, rfl, by decide +kernel, by decide +kernel⟩
theorem w__law_is_right (g : G K mg ct) (c__law_any : Cal P w K mg base ct "_law_any" 2 2 f__law_any) (c__law_draw : Cal P w K mg base ct "_law_draw" 1 2 f__law_draw) (c__law_is : Cal P w K mg base ct "_law_is" 1 2 f__law_is) (c__law_times : Cal P w K mg base ct "_law_times" 1 2 f__law_times) (c_product_row : Cal P w K mg base ct "product_row" 4 1 f_product_row) (c_run_cut : Cal P w K mg base ct "run_cut" 4 3 f_run_cut) (c_run_middle : Cal P w K mg base ct "run_middle" 5 3 f_run_middle) (c_turned_about : Cal P w K mg base ct "turned_about" 4 2 f_turned_about) {fa : Addr} {cdv : Value} {A : Around} {outer : List PySem.Env} {s : Shared} {H : Hp} {E : XK} (hr : Room 5 (A.deeper (envOfC "_law_is_right" (defScope s__law_is_right) s.heap.objs.size fa cdv))) (hgd : A.guards = some []) :
    SSs (cxOf (L2.CX P w) P w K mg base ["hand", "roots", "root", "low", "planes", "i", "poly", "turned", "s", "n", "high", "j", "a"] "_law_is_right" (defScope s__law_is_right) fa cdv A outer s H E) ct E [0] (defBody s__law_is_right) b__law_is_right :=
  have S := sc__law_is_right
  have tk : Takes (cxOf (L2.CX P w) P w K mg base ["hand", "roots", "root", "low", "planes", "i", "poly", "turned", "s", "n", "high", "j", "a"] "_law_is_right" (defScope s__law_is_right) fa cdv A outer s H E) (fun cls d _ H => E cls d H) := takes_of rfl rfl rfl rfl
  have hx : Passes (L2.CX P w) (cxOf (L2.CX P w) P w K mg base ["hand", "roots", "root", "low", "planes", "i", "poly", "turned", "s", "n", "high", "j", "a"] "_law_is_right" (defScope s__law_is_right) fa cdv A outer s H E) E := passes_call tk fun _ _ _ _ h => h
  have hp := passes_of (X := cxOf (L2.CX P w) P w K mg base ["hand", "roots", "root", "low", "planes", "i", "poly", "turned", "s", "n", "high", "j", "a"] "_law_is_right" (defScope s__law_is_right) fa cdv A outer s H E) rfl
  (sss_cons (ss_asg (se_callB (cal_sorted hr) (by rfl) g.b_sorted (by decide +kernel) (ses_cons (se_lc rfl S.nd (sie_range1 (by rfl) g.b_range (ses_cons (se_callC c__law_draw hr hgd hx (sls_lend 0 (sls_cons (SP.en sp_int) sls_nil))) ses_nil)) (blkOk_by (own := [("root", 2)]) (by kernel_rfl)) (fun _ _ _ _ _ => (sg_name S.nd (i := 2))) (fun _ _ _ _ _ => (se_callC c__law_any hr hgd passL (sls_lendL 0 (sls_cons (SE.fr (se_lst (ses_cons (SP.en sp_int) (ses_cons (SP.en sp_int) (ses_cons (se_callC c__law_draw hr hgd passL (sls_lend 0 (sls_cons (SP.en sp_int) sls_nil))) (ses_cons (SP.en sp_int) ses_nil)))))) sls_nil)))) (by decide)) ses_nil)) (sge_name S.nd (i := 1)))
      (sss_cons (ss_par3 rfl S.nd (ses_cons (SP.en (sp_lst (sps_cons sp_int sps_nil))) (ses_cons (SP.en (sp_lst (sps_cons sp_int sps_nil))) (ses_cons (se_callC c__law_any hr hgd hx (sls_lendL 0 (sls_cons (SE.fr (se_lst (ses_cons (SP.en sp_int) (ses_cons (SP.en sp_int) (ses_cons (se_bin opo_sub (se_callC c__law_draw hr hgd hx (sls_lend 0 (sls_cons (SP.en sp_int) sls_nil))) (SP.en sp_int)) ses_nil))))) sls_nil))) ses_nil))) (by kernel_rfl) (i := 6) (j := 7) (k := 8))
      (sss_cons (ss_for hp rfl (sie_val (se_frz 1)) (sg_name S.nd (i := 2)) (sss_cons (ss_par rfl S.nd (ses_cons (se_callC c__law_times hr hgd hx (sls_cons (se_frz 6) (sls_cons (SE.fr (SP.en (sp_lst (sps_cons (sp_bin opo_sub (SP.v sp_int) (sv_var 2)) (sps_cons sp_int sps_nil))))) sls_nil))) (ses_cons (se_callC c__law_times hr hgd hx (sls_cons (se_frz 7) (sls_cons (SE.fr (SP.en (sp_lst (sps_cons (sp_bin opo_sub (sv_var 8) (sv_var 2)) (sps_cons (sp_un unr_neg (SP.v sp_int)) sps_nil))))) sls_nil))) ses_nil)) (by kernel_rfl) (i := 6) (j := 7))
      sss_nil) (by decide))
      (sss_cons (ss_if (ste_not (ste_val (se_callC c__law_is hr hgd hx (sls_cons (SE.fr (SP.en (sp_lst (sps_cons (sp_callC c_product_row hr hgd hx (sps_cons (sp_callT cal_tuple (by rfl) g.b_tuple (by decide +kernel) (svs_cons (sv_var 6) svs_nil)) sps_nil)) (sps_cons (sp_callC c_turned_about hr hgd hx (sps_cons (sp_callT cal_tuple (by rfl) g.b_tuple (by decide +kernel) (svs_cons (sv_var 6) svs_nil)) (sps_cons (sp_var 8) sps_nil))) sps_nil))))) (sls_cons (SE.fr (SP.en (sp_lst (sps_cons (sp_callT cal_tuple (by rfl) g.b_tuple (by decide +kernel) (svs_cons (sv_var 1) svs_nil)) (sps_cons (sp_callT cal_tuple (by rfl) g.b_tuple (by decide +kernel) (svs_cons (sv_var 7) svs_nil)) sps_nil))))) sls_nil))))) (sss_cons (ss_ret (SP.en sp_bl))
      sss_nil) sss_nil)
      (sss_cons (ss_par3 rfl S.nd (ses_cons (se_callC c__law_any hr hgd hx (sls_lend 0 (sls_cons (SE.fr (SP.en (sp_lst (sps_cons sp_int (sps_cons sp_int (sps_cons sp_int (sps_cons sp_int sps_nil))))))) sls_nil))) (ses_cons (se_bin opo_sub (se_callC c__law_draw hr hgd hx (sls_lend 0 (sls_cons (SP.en sp_int) sls_nil))) (SP.en sp_int)) (ses_cons (se_callC c__law_draw hr hgd hx (sls_lend 0 (sls_cons (SP.en sp_int) sls_nil))) ses_nil))) (by kernel_rfl) (i := 9) (j := 3) (k := 10))
      (sss_cons (ss_asg (SP.en (sp_callB (cal_min rfl) (by rfl) g.b_min (by decide +kernel) (svs_cons (sv_var 3) (svs_cons (sv_var 10) svs_nil)))) (sge_name S.nd (i := 3)))
      (sss_cons (ss_asg (SP.en (sp_lst sps_nil)) (sge_name S.nd (i := 4)))
      (sss_cons (ss_for hp rfl (SI.en (si_range1 (by rfl) g.b_range (svs_cons (sv_var 9) svs_nil))) (sg_name S.nd (i := 5)) (sss_cons (ss_for hp rfl (SI.en (si_range2 (by rfl) g.b_range (svs_cons (SP.v (sp_bin opo_add (sv_var 5) (SP.v sp_int))) (svs_cons (sv_var 9) svs_nil)))) (sg_name S.nd (i := 11)) (sss_cons (ss_expr (se_extd 4 rfl (ses_cons (SP.en (sp_lc rfl S.nd (si_range2 (by rfl) g.b_range (svs_cons (sv_var 3) (svs_cons (SP.v (sp_bin opo_add (sv_var 10) (SP.v sp_int))) svs_nil))) (blkOk_by (own := [("a", 12)]) (by kernel_rfl)) (fun _ _ _ _ _ => (sg_name S.nd (i := 12))) (fun _ _ _ _ _ => (sp_tup (sps_cons (sp_var 5) (sps_cons (sp_var 11) (sps_cons (sp_var 12) sps_nil))))) (by decide))) ses_nil)))
      sss_nil) (by decide))
      sss_nil) (by decide))
      (sss_cons (ss_if (STt.en (SW.t (sw_and (stt_cmp (opc_le hr) (SP.v (sp_callB cal_len (by rfl) g.b_len (by decide +kernel) (svs_cons (sv_var 4) svs_nil))) (SP.v sp_int) (nomark _)) (sw_and1 (stt_not (stt_val (SP.v (sp_callC c__law_is hr hgd hx (sps_cons (sp_callC c_run_cut hr hgd hx (sps_cons (sp_var 9) (sps_cons (sp_var 3) (sps_cons (sp_var 10) sps_nil)))) (sps_cons (sp_tup (sps_cons (sp_var 9) (sps_cons (sp_callT cal_tuple (by rfl) g.b_tuple (by decide +kernel) (svs_cons (sv_var 4) svs_nil)) sps_nil))) sps_nil)))))))))) (sss_cons (ss_ret (SP.en sp_bl))
      sss_nil) sss_nil)
      (sss_cons (ss_ret (SP.en (sp_callC c__law_is hr hgd hx (sps_cons (sp_callC c_run_middle hr hgd hx (sps_cons (sp_var 9) (sps_cons (sp_var 3) (sps_cons (sp_var 10) sps_nil)))) (sps_cons (sp_bin opo_mul (sv_var 9) (SP.v (sp_bin opo_add (SP.v (sp_bin opo_sub (sv_var 10) (sv_var 3))) (SP.v sp_int)))) sps_nil)))))
      sss_nil))))))))))
/-! law -/
abbrev s_law : Stmt := topS 51
def b_law : SM := (sSeq (sAsg (eP (mCall f__law_hand (mCons (mD (mVar 0)) mNil))) (gNm 1))
    (sSeq (sFor (iP (mItA rng1 (mCons (mK (.int 4)) mNil))) (.nm 2) (sSeq (sIf (eNotT (eTrue (eCall f__law_are_refused [some 1] (eCons (eMov 1) eNil)))) (sSeq (sRet (eP (mK (.bool false))))
    sSkip) sSkip)
    (sSeq (sIf (eNotT (eTrue (eCall f__law_is_right [some 1] (eCons (eMov 1) eNil)))) (sSeq (sRet (eP (mK (.bool false))))
    sSkip) sSkip)
    sSkip)))
    (sSeq (sRet (eP (mK (.bool true))))
    sSkip)))
def f_law : FM := fnM 1 2 [] b_law
theorem sc_law : FnScope ["script", "hand", "lap"] ["script"] (defScope s_law) := ⟨rfl, rfl, rfl, by decide +kernel, rfl, by decide +kernel, by decide +kernel⟩
theorem w_law (g : G K mg ct) (c__law_are_refused : Cal P w K mg base ct "_law_are_refused" 8 1 f__law_are_refused) (c__law_hand : Cal P w K mg base ct "_law_hand" 1 1 f__law_hand) (c__law_is_right : Cal P w K mg base ct "_law_is_right" 6 1 f__law_is_right) {fa : Addr} {cdv : Value} {A : Around} {outer : List PySem.Env} {s : Shared} {H : Hp} {E : XK} (hr : Room 8 (A.deeper (envOfC "law" (defScope s_law) s.heap.objs.size fa cdv))) (hgd : A.guards = some []) :
    SSs (cxOf (L2.CX P w) P w K mg base ["script", "hand", "lap"] "law" (defScope s_law) fa cdv A outer s H E) ct E [] (defBody s_law) b_law :=
  have S := sc_law
  have tk : Takes (cxOf (L2.CX P w) P w K mg base ["script", "hand", "lap"] "law" (defScope s_law) fa cdv A outer s H E) (fun cls d _ H => E cls d H) := takes_of rfl rfl rfl rfl
  have hx : Passes (L2.CX P w) (cxOf (L2.CX P w) P w K mg base ["script", "hand", "lap"] "law" (defScope s_law) fa cdv A outer s H E) E := passes_call tk fun _ _ _ _ h => h
  have hp := passes_of (X := cxOf (L2.CX P w) P w K mg base ["script", "hand", "lap"] "law" (defScope s_law) fa cdv A outer s H E) rfl
  (sss_cons (ss_asg (SP.en (sp_callC c__law_hand hr hgd hx (sps_cons (sp_var 0) sps_nil))) (sge_name S.nd (i := 1)))
      (sss_cons (ss_for hp rfl (SI.en (si_range1 (by rfl) g.b_range (svs_cons (SP.v sp_int) svs_nil))) (sg_name S.nd (i := 2)) (sss_cons (ss_if (ste_not (ste_val (se_callC c__law_are_refused hr hgd hx (sls_lend 1 sls_nil)))) (sss_cons (ss_ret (SP.en sp_bl))
      sss_nil) sss_nil)
      (sss_cons (ss_if (ste_not (ste_val (se_callC c__law_is_right hr hgd hx (sls_lend 1 sls_nil)))) (sss_cons (ss_ret (SP.en sp_bl))
      sss_nil) sss_nil)
      sss_nil)) (by decide))
      (sss_cons (ss_ret (SP.en sp_bl))
      sss_nil)))
end K22

set_option maxHeartbeats 4000000
namespace K22
open PySem PySem.Spec L2 Mi

theorem draw_eq : f__law_draw = fDrawH 85 := rfl
theorem any_eq : f__law_any = fAnyH 85 := rfl
theorem hand_eq : f__law_hand = fHandH 71167 21 := rfl
def are_refused_D0 : List PyData := [.int 1, .int 6, .none, .bool true, .str "3"]
def are_refused_D1 : List PyData := [.int 1, .int 13, .none, .bool true]
def are_refused_D2 : List PyData := [.tuple [.int 1, .int 0], .tuple [.int 2, .int 3], .tuple [.int (-21), .int 0], .tuple [.none, .int 0], .tuple [.int 0, .bool true], .tuple [.int (-3), .int (-2)], .tuple [.int 0, .int 21]]
def are_refused_D3 : List PyData := [.none, .tuple [], .tuple [.int 1, .int 0], .list [.int 1], .tuple [.bool true], .tuple [.int 1, .int 1, .int 1, .int 1, .int 1, .int 1, .int 1, .int 1, .int 1, .int 1, .int 1, .int 1, .int 1, .int 1, .int 1, .int 1, .int 1, .int 1, .int 1, .int 1, .int 1, .int 1, .int 1, .int 1, .int 1, .int 1, .int 1, .int 1, .int 1, .int 1, .int 1, .int 1, .int 1, .int 1, .int 1, .int 1, .int 1, .int 1, .int 1, .int 1, .int 1], .tuple [.int 1000000000000000000000000000000], .tuple [.int 0, .str "1"]]
def are_refused_D4 : List PyData := [.none, .bool true, .int 1000000001, .int (-1000000001), .str "1"]
theorem are_refused_t2 : ∀ x ∈ are_refused_D2, ∃ y2_0 y2_1, x = .tuple [y2_0, y2_1] := by
  intro x hx
  simp only [are_refused_D2, List.mem_cons, List.not_mem_nil, or_false] at hx
  rcases hx with rfl | rfl | rfl | rfl | rfl | rfl | rfl <;> exact ⟨_, _, rfl⟩
theorem are_refused_c0 : (are_refused_D0.all fun x0 => (are_refused_D2.all fun z => match z with | .tuple [y2_0, y2_1] => (exB 1 (f_run_cut [.d (x0), .d (y2_0), .d (y2_1)])) | _ => false)) = true := by decide +kernel
theorem are_refused_c1 : (are_refused_D2.all fun z => match z with | .tuple [y2_0, y2_1] => (exB 5 (f_run_cut [.d (.int 3), .d (y2_0), .d (y2_1)])) | _ => false) = true := by decide +kernel
theorem are_refused_c2 : (exB 2 (f_run_cut [.d (.int 5), .d (.int (-2)), .d (.int 1)])) = true := by decide +kernel
theorem are_refused_c3 : (are_refused_D1.all fun x1 => (are_refused_D2.all fun z => match z with | .tuple [y2_0, y2_1] => (exB 1 (f_run_poly [.d (x1), .d (y2_0), .d (y2_1)])) | _ => false)) = true := by decide +kernel
theorem are_refused_c4 : (are_refused_D2.all fun z => match z with | .tuple [y2_0, y2_1] => (exB 5 (f_run_poly [.d (.int 12), .d (y2_0), .d (y2_1)])) | _ => false) = true := by decide +kernel
theorem are_refused_c5 : (are_refused_D1.all fun x1 => (are_refused_D2.all fun z => match z with | .tuple [y2_0, y2_1] => (exB 1 (f_run_rooms [.d (x1), .d (y2_0), .d (y2_1)])) | _ => false)) = true := by decide +kernel
theorem are_refused_c6 : (are_refused_D2.all fun z => match z with | .tuple [y2_0, y2_1] => (exB 5 (f_run_rooms [.d (.int 3), .d (y2_0), .d (y2_1)])) | _ => false) = true := by decide +kernel
theorem are_refused_c7 : (are_refused_D1.all fun x1 => (are_refused_D2.all fun z => match z with | .tuple [y2_0, y2_1] => (exB 1 (f_run_bounded [.d (x1), .d (y2_0), .d (y2_1)])) | _ => false)) = true := by decide +kernel
theorem are_refused_c8 : (are_refused_D2.all fun z => match z with | .tuple [y2_0, y2_1] => (exB 5 (f_run_bounded [.d (.int 3), .d (y2_0), .d (y2_1)])) | _ => false) = true := by decide +kernel
theorem are_refused_c9 : (are_refused_D1.all fun x1 => (are_refused_D2.all fun z => match z with | .tuple [y2_0, y2_1] => (exB 1 (f_run_middle [.d (x1), .d (y2_0), .d (y2_1)])) | _ => false)) = true := by decide +kernel
theorem are_refused_c10 : (are_refused_D2.all fun z => match z with | .tuple [y2_0, y2_1] => (exB 5 (f_run_middle [.d (.int 3), .d (y2_0), .d (y2_1)])) | _ => false) = true := by decide +kernel
theorem are_refused_c11 : (are_refused_D3.all fun x3 => (are_refused_D4.all fun x4 => (exB 3 (f_turned_about [.d (x3), .d (x4)])))) = true := by decide +kernel
theorem are_refused_c12 : (are_refused_D4.all fun x4 => (exB 4 (f_turned_about [.d (.tuple [.int 0, .int 1]), .d (x4)]))) = true := by decide +kernel
theorem are_refused_c13 : (are_refused_D3.all fun x3 => (exB 3 (f_product_row [.d (x3)]))) = true := by decide +kernel
theorem are_refused_ok {h : T} (hh : HandOk h) : (f__law_are_refused [h]).wp fun r => ∃ h' : T, r = (.d (.bool true), [some h']) ∧ HandOk h' := by
  unfold f__law_are_refused; rw [wp_fn]; unfold b__law_are_refused
  rw [any_eq]
  refine wpS_seqK fun K hK => ?_
  simp only [wpS_if, wpS_asg, wpS_asgs, wpS_ret, wpS_drop, wpS_skip, wpS_for, wpS_nx, wpS_rt, wp_bind, wp_ok, wp_of_some, eTest, eP, eB, eFr, eFrs, eMov, eFrz, eCons, eNil, eLend, eBin, eCmp, eCmpT, e2, eApp, eTupS, eLstS, eIx, tD, eUn, eTrue, eNotT, eIf, eCall, mCall, pb_nil, pb_none, pb_some, eApnd, eExtd, ePop, ePopAt, eAndT, eOrT, iP, iE, iOne, mVar, mD, mK, mBin, mCmp, mCmpT, mChainT, mOfT, tTrue, mTrue, mAnd, mOr, mNot, mAndT, mOrT, mNotT, mIf, mUn, mNil, mCons, mApp, mTupS, mLstS, mPart, mSlice, tInt, mSliceR, mItems, mItA, mMeth, isLs, isTp, isSt, sAug, sAugI, gNm, gIx, gIx2, gPat, gTwo, gThree, gsNil, gsCons, tg_nm, tg_tp, tgs_nil, tgs_cons, Option.bind_some, of_some, of_none, bind_ok, wp_ite, wpS_ite, ev_eqI, ev_neI, ev_ltI, ev_gtI, ev_leI, ev_geI, ev_addI, ev_iaddI, ev_subI, ev_negI, ev_divI, ev_modI, ev_intI, ev_intB, ev_absI, ev_lenL, ev_lenD, ev_lenT, ev_minI, ev_maxI, ev_tupL, ev_tupD, ev_tupT, ev_listD, ev_listT, ev_listL, ev_getL, ev_getD, ev_getT, atI_0, atI_1, atI_2, atI_3, atI_4, atI_end, ev_sz, ixN_0, ixN_1, ixN_2, ixN_3, ixN_4, put_0, put_s, List.map_cons, List.map_nil, List.replicate_succ, List.replicate_zero, List.cons_append, List.nil_append, List.length_cons, List.length_nil, List.set_cons_zero, List.set_cons_succ, List.getElem?_cons_zero, List.getElem?_cons_succ, Option.map_some, Option.map_none, frz_d, frz_l, frzs_n, frzs_c, frzs_map, frzs_ints, outs_z, outs_s, List.contains_cons, List.contains_nil, decide_eq_true_eq, beq_iff_eq, bne_iff_ne, if_true, if_false, Bool.false_eq_true, Bool.not_eq_true, Bool.or_false, Bool.or_true, Bool.not_true, Bool.not_false, Nat.reduceAdd, Nat.reduceSub, Nat.reduceLT, Nat.reduceLeDiff, Nat.reduceBEq, Nat.reduceEqDiff, Int.reduceLT, Int.reduceLE, Int.reduceEq, Int.reduceNeg, Int.reducePow, Int.reduceToNat, Nat.zero_add, and_self, and_true, true_and, reduceIte, ev_cutD, ev_cutT, ev_cutL, it_L, it_D, it_T, it_S, cast0, cast1, Int.add_zero, Int.zero_add, Bool.and_true, Bool.true_and, Bool.and_self, Bool.and_false, Bool.false_and]
  refine (any_ok hh (by simp) (by simp)).mono fun r ⟨x0, h0, er, hx0, hh0⟩ => ?_
  subst er
  have hx0 : x0 ∈ are_refused_D0 := hx0
  simp only [wpS_if, wpS_asg, wpS_asgs, wpS_ret, wpS_drop, wpS_skip, wpS_for, wpS_nx, wpS_rt, wp_bind, wp_ok, wp_of_some, eTest, eP, eB, eFr, eFrs, eMov, eFrz, eCons, eNil, eLend, eBin, eCmp, eCmpT, e2, eApp, eTupS, eLstS, eIx, tD, eUn, eTrue, eNotT, eIf, eCall, mCall, pb_nil, pb_none, pb_some, eApnd, eExtd, ePop, ePopAt, eAndT, eOrT, iP, iE, iOne, mVar, mD, mK, mBin, mCmp, mCmpT, mChainT, mOfT, tTrue, mTrue, mAnd, mOr, mNot, mAndT, mOrT, mNotT, mIf, mUn, mNil, mCons, mApp, mTupS, mLstS, mPart, mSlice, tInt, mSliceR, mItems, mItA, mMeth, isLs, isTp, isSt, sAug, sAugI, gNm, gIx, gIx2, gPat, gTwo, gThree, gsNil, gsCons, tg_nm, tg_tp, tgs_nil, tgs_cons, Option.bind_some, of_some, of_none, bind_ok, wp_ite, wpS_ite, ev_eqI, ev_neI, ev_ltI, ev_gtI, ev_leI, ev_geI, ev_addI, ev_iaddI, ev_subI, ev_negI, ev_divI, ev_modI, ev_intI, ev_intB, ev_absI, ev_lenL, ev_lenD, ev_lenT, ev_minI, ev_maxI, ev_tupL, ev_tupD, ev_tupT, ev_listD, ev_listT, ev_listL, ev_getL, ev_getD, ev_getT, atI_0, atI_1, atI_2, atI_3, atI_4, atI_end, ev_sz, ixN_0, ixN_1, ixN_2, ixN_3, ixN_4, put_0, put_s, List.map_cons, List.map_nil, List.replicate_succ, List.replicate_zero, List.cons_append, List.nil_append, List.length_cons, List.length_nil, List.set_cons_zero, List.set_cons_succ, List.getElem?_cons_zero, List.getElem?_cons_succ, Option.map_some, Option.map_none, frz_d, frz_l, frzs_n, frzs_c, frzs_map, frzs_ints, outs_z, outs_s, List.contains_cons, List.contains_nil, decide_eq_true_eq, beq_iff_eq, bne_iff_ne, if_true, if_false, Bool.false_eq_true, Bool.not_eq_true, Bool.or_false, Bool.or_true, Bool.not_true, Bool.not_false, Nat.reduceAdd, Nat.reduceSub, Nat.reduceLT, Nat.reduceLeDiff, Nat.reduceBEq, Nat.reduceEqDiff, Int.reduceLT, Int.reduceLE, Int.reduceEq, Int.reduceNeg, Int.reducePow, Int.reduceToNat, Nat.zero_add, and_self, and_true, true_and, reduceIte, ev_cutD, ev_cutT, ev_cutL, it_L, it_D, it_T, it_S, cast0, cast1, Int.add_zero, Int.zero_add, Bool.and_true, Bool.true_and, Bool.and_self, Bool.and_false, Bool.false_and]
  refine (any_ok hh0 (by simp) (by simp)).mono fun r ⟨x1, h1, er, hx1, hh1⟩ => ?_
  subst er
  have hx1 : x1 ∈ are_refused_D1 := hx1
  simp only [wpS_if, wpS_asg, wpS_asgs, wpS_ret, wpS_drop, wpS_skip, wpS_for, wpS_nx, wpS_rt, wp_bind, wp_ok, wp_of_some, eTest, eP, eB, eFr, eFrs, eMov, eFrz, eCons, eNil, eLend, eBin, eCmp, eCmpT, e2, eApp, eTupS, eLstS, eIx, tD, eUn, eTrue, eNotT, eIf, eCall, mCall, pb_nil, pb_none, pb_some, eApnd, eExtd, ePop, ePopAt, eAndT, eOrT, iP, iE, iOne, mVar, mD, mK, mBin, mCmp, mCmpT, mChainT, mOfT, tTrue, mTrue, mAnd, mOr, mNot, mAndT, mOrT, mNotT, mIf, mUn, mNil, mCons, mApp, mTupS, mLstS, mPart, mSlice, tInt, mSliceR, mItems, mItA, mMeth, isLs, isTp, isSt, sAug, sAugI, gNm, gIx, gIx2, gPat, gTwo, gThree, gsNil, gsCons, tg_nm, tg_tp, tgs_nil, tgs_cons, Option.bind_some, of_some, of_none, bind_ok, wp_ite, wpS_ite, ev_eqI, ev_neI, ev_ltI, ev_gtI, ev_leI, ev_geI, ev_addI, ev_iaddI, ev_subI, ev_negI, ev_divI, ev_modI, ev_intI, ev_intB, ev_absI, ev_lenL, ev_lenD, ev_lenT, ev_minI, ev_maxI, ev_tupL, ev_tupD, ev_tupT, ev_listD, ev_listT, ev_listL, ev_getL, ev_getD, ev_getT, atI_0, atI_1, atI_2, atI_3, atI_4, atI_end, ev_sz, ixN_0, ixN_1, ixN_2, ixN_3, ixN_4, put_0, put_s, List.map_cons, List.map_nil, List.replicate_succ, List.replicate_zero, List.cons_append, List.nil_append, List.length_cons, List.length_nil, List.set_cons_zero, List.set_cons_succ, List.getElem?_cons_zero, List.getElem?_cons_succ, Option.map_some, Option.map_none, frz_d, frz_l, frzs_n, frzs_c, frzs_map, frzs_ints, outs_z, outs_s, List.contains_cons, List.contains_nil, decide_eq_true_eq, beq_iff_eq, bne_iff_ne, if_true, if_false, Bool.false_eq_true, Bool.not_eq_true, Bool.or_false, Bool.or_true, Bool.not_true, Bool.not_false, Nat.reduceAdd, Nat.reduceSub, Nat.reduceLT, Nat.reduceLeDiff, Nat.reduceBEq, Nat.reduceEqDiff, Int.reduceLT, Int.reduceLE, Int.reduceEq, Int.reduceNeg, Int.reducePow, Int.reduceToNat, Nat.zero_add, and_self, and_true, true_and, reduceIte, ev_cutD, ev_cutT, ev_cutL, it_L, it_D, it_T, it_S, cast0, cast1, Int.add_zero, Int.zero_add, Bool.and_true, Bool.true_and, Bool.and_self, Bool.and_false, Bool.false_and]
  rw [hK]; clear hK K
  refine wpS_seqK fun K hK => ?_
  simp only [wpS_if, wpS_asg, wpS_asgs, wpS_ret, wpS_drop, wpS_skip, wpS_for, wpS_nx, wpS_rt, wp_bind, wp_ok, wp_of_some, eTest, eP, eB, eFr, eFrs, eMov, eFrz, eCons, eNil, eLend, eBin, eCmp, eCmpT, e2, eApp, eTupS, eLstS, eIx, tD, eUn, eTrue, eNotT, eIf, eCall, mCall, pb_nil, pb_none, pb_some, eApnd, eExtd, ePop, ePopAt, eAndT, eOrT, iP, iE, iOne, mVar, mD, mK, mBin, mCmp, mCmpT, mChainT, mOfT, tTrue, mTrue, mAnd, mOr, mNot, mAndT, mOrT, mNotT, mIf, mUn, mNil, mCons, mApp, mTupS, mLstS, mPart, mSlice, tInt, mSliceR, mItems, mItA, mMeth, isLs, isTp, isSt, sAug, sAugI, gNm, gIx, gIx2, gPat, gTwo, gThree, gsNil, gsCons, tg_nm, tg_tp, tgs_nil, tgs_cons, Option.bind_some, of_some, of_none, bind_ok, wp_ite, wpS_ite, ev_eqI, ev_neI, ev_ltI, ev_gtI, ev_leI, ev_geI, ev_addI, ev_iaddI, ev_subI, ev_negI, ev_divI, ev_modI, ev_intI, ev_intB, ev_absI, ev_lenL, ev_lenD, ev_lenT, ev_minI, ev_maxI, ev_tupL, ev_tupD, ev_tupT, ev_listD, ev_listT, ev_listL, ev_getL, ev_getD, ev_getT, atI_0, atI_1, atI_2, atI_3, atI_4, atI_end, ev_sz, ixN_0, ixN_1, ixN_2, ixN_3, ixN_4, put_0, put_s, List.map_cons, List.map_nil, List.replicate_succ, List.replicate_zero, List.cons_append, List.nil_append, List.length_cons, List.length_nil, List.set_cons_zero, List.set_cons_succ, List.getElem?_cons_zero, List.getElem?_cons_succ, Option.map_some, Option.map_none, frz_d, frz_l, frzs_n, frzs_c, frzs_map, frzs_ints, outs_z, outs_s, List.contains_cons, List.contains_nil, decide_eq_true_eq, beq_iff_eq, bne_iff_ne, if_true, if_false, Bool.false_eq_true, Bool.not_eq_true, Bool.or_false, Bool.or_true, Bool.not_true, Bool.not_false, Nat.reduceAdd, Nat.reduceSub, Nat.reduceLT, Nat.reduceLeDiff, Nat.reduceBEq, Nat.reduceEqDiff, Int.reduceLT, Int.reduceLE, Int.reduceEq, Int.reduceNeg, Int.reducePow, Int.reduceToNat, Nat.zero_add, and_self, and_true, true_and, reduceIte, ev_cutD, ev_cutT, ev_cutL, it_L, it_D, it_T, it_S, cast0, cast1, Int.add_zero, Int.zero_add, Bool.and_true, Bool.true_and, Bool.and_self, Bool.and_false, Bool.false_and]
  refine (any_ok hh1 (by simp) (by simp)).mono fun r ⟨x2, h2, er, hx2, hh2⟩ => ?_
  subst er
  have hx2 : x2 ∈ are_refused_D2 := hx2
  obtain ⟨y2_0, y2_1, rfl⟩ := are_refused_t2 _ hx2
  simp only [wpS_if, wpS_asg, wpS_asgs, wpS_ret, wpS_drop, wpS_skip, wpS_for, wpS_nx, wpS_rt, wp_bind, wp_ok, wp_of_some, eTest, eP, eB, eFr, eFrs, eMov, eFrz, eCons, eNil, eLend, eBin, eCmp, eCmpT, e2, eApp, eTupS, eLstS, eIx, tD, eUn, eTrue, eNotT, eIf, eCall, mCall, pb_nil, pb_none, pb_some, eApnd, eExtd, ePop, ePopAt, eAndT, eOrT, iP, iE, iOne, mVar, mD, mK, mBin, mCmp, mCmpT, mChainT, mOfT, tTrue, mTrue, mAnd, mOr, mNot, mAndT, mOrT, mNotT, mIf, mUn, mNil, mCons, mApp, mTupS, mLstS, mPart, mSlice, tInt, mSliceR, mItems, mItA, mMeth, isLs, isTp, isSt, sAug, sAugI, gNm, gIx, gIx2, gPat, gTwo, gThree, gsNil, gsCons, tg_nm, tg_tp, tgs_nil, tgs_cons, Option.bind_some, of_some, of_none, bind_ok, wp_ite, wpS_ite, ev_eqI, ev_neI, ev_ltI, ev_gtI, ev_leI, ev_geI, ev_addI, ev_iaddI, ev_subI, ev_negI, ev_divI, ev_modI, ev_intI, ev_intB, ev_absI, ev_lenL, ev_lenD, ev_lenT, ev_minI, ev_maxI, ev_tupL, ev_tupD, ev_tupT, ev_listD, ev_listT, ev_listL, ev_getL, ev_getD, ev_getT, atI_0, atI_1, atI_2, atI_3, atI_4, atI_end, ev_sz, ixN_0, ixN_1, ixN_2, ixN_3, ixN_4, put_0, put_s, List.map_cons, List.map_nil, List.replicate_succ, List.replicate_zero, List.cons_append, List.nil_append, List.length_cons, List.length_nil, List.set_cons_zero, List.set_cons_succ, List.getElem?_cons_zero, List.getElem?_cons_succ, Option.map_some, Option.map_none, frz_d, frz_l, frzs_n, frzs_c, frzs_map, frzs_ints, outs_z, outs_s, List.contains_cons, List.contains_nil, decide_eq_true_eq, beq_iff_eq, bne_iff_ne, if_true, if_false, Bool.false_eq_true, Bool.not_eq_true, Bool.or_false, Bool.or_true, Bool.not_true, Bool.not_false, Nat.reduceAdd, Nat.reduceSub, Nat.reduceLT, Nat.reduceLeDiff, Nat.reduceBEq, Nat.reduceEqDiff, Int.reduceLT, Int.reduceLE, Int.reduceEq, Int.reduceNeg, Int.reducePow, Int.reduceToNat, Nat.zero_add, and_self, and_true, true_and, reduceIte, ev_cutD, ev_cutT, ev_cutL, it_L, it_D, it_T, it_S, cast0, cast1, Int.add_zero, Int.zero_add, Bool.and_true, Bool.true_and, Bool.and_self, Bool.and_false, Bool.false_and]
  rw [hK]; clear hK K
  refine wpS_seqK fun K hK => ?_
  simp only [wpS_if, wpS_asg, wpS_asgs, wpS_ret, wpS_drop, wpS_skip, wpS_for, wpS_nx, wpS_rt, wp_bind, wp_ok, wp_of_some, eTest, eP, eB, eFr, eFrs, eMov, eFrz, eCons, eNil, eLend, eBin, eCmp, eCmpT, e2, eApp, eTupS, eLstS, eIx, tD, eUn, eTrue, eNotT, eIf, eCall, mCall, pb_nil, pb_none, pb_some, eApnd, eExtd, ePop, ePopAt, eAndT, eOrT, iP, iE, iOne, mVar, mD, mK, mBin, mCmp, mCmpT, mChainT, mOfT, tTrue, mTrue, mAnd, mOr, mNot, mAndT, mOrT, mNotT, mIf, mUn, mNil, mCons, mApp, mTupS, mLstS, mPart, mSlice, tInt, mSliceR, mItems, mItA, mMeth, isLs, isTp, isSt, sAug, sAugI, gNm, gIx, gIx2, gPat, gTwo, gThree, gsNil, gsCons, tg_nm, tg_tp, tgs_nil, tgs_cons, Option.bind_some, of_some, of_none, bind_ok, wp_ite, wpS_ite, ev_eqI, ev_neI, ev_ltI, ev_gtI, ev_leI, ev_geI, ev_addI, ev_iaddI, ev_subI, ev_negI, ev_divI, ev_modI, ev_intI, ev_intB, ev_absI, ev_lenL, ev_lenD, ev_lenT, ev_minI, ev_maxI, ev_tupL, ev_tupD, ev_tupT, ev_listD, ev_listT, ev_listL, ev_getL, ev_getD, ev_getT, atI_0, atI_1, atI_2, atI_3, atI_4, atI_end, ev_sz, ixN_0, ixN_1, ixN_2, ixN_3, ixN_4, put_0, put_s, List.map_cons, List.map_nil, List.replicate_succ, List.replicate_zero, List.cons_append, List.nil_append, List.length_cons, List.length_nil, List.set_cons_zero, List.set_cons_succ, List.getElem?_cons_zero, List.getElem?_cons_succ, Option.map_some, Option.map_none, frz_d, frz_l, frzs_n, frzs_c, frzs_map, frzs_ints, outs_z, outs_s, List.contains_cons, List.contains_nil, decide_eq_true_eq, beq_iff_eq, bne_iff_ne, if_true, if_false, Bool.false_eq_true, Bool.not_eq_true, Bool.or_false, Bool.or_true, Bool.not_true, Bool.not_false, Nat.reduceAdd, Nat.reduceSub, Nat.reduceLT, Nat.reduceLeDiff, Nat.reduceBEq, Nat.reduceEqDiff, Int.reduceLT, Int.reduceLE, Int.reduceEq, Int.reduceNeg, Int.reducePow, Int.reduceToNat, Nat.zero_add, and_self, and_true, true_and, reduceIte, ev_cutD, ev_cutT, ev_cutL, it_L, it_D, it_T, it_S, cast0, cast1, Int.add_zero, Int.zero_add, Bool.and_true, Bool.true_and, Bool.and_self, Bool.and_false, Bool.false_and]
  refine (any_ok hh2 (by simp) (by simp)).mono fun r ⟨x3, h3, er, hx3, hh3⟩ => ?_
  subst er
  have hx3 : x3 ∈ are_refused_D3 := hx3
  simp only [wpS_if, wpS_asg, wpS_asgs, wpS_ret, wpS_drop, wpS_skip, wpS_for, wpS_nx, wpS_rt, wp_bind, wp_ok, wp_of_some, eTest, eP, eB, eFr, eFrs, eMov, eFrz, eCons, eNil, eLend, eBin, eCmp, eCmpT, e2, eApp, eTupS, eLstS, eIx, tD, eUn, eTrue, eNotT, eIf, eCall, mCall, pb_nil, pb_none, pb_some, eApnd, eExtd, ePop, ePopAt, eAndT, eOrT, iP, iE, iOne, mVar, mD, mK, mBin, mCmp, mCmpT, mChainT, mOfT, tTrue, mTrue, mAnd, mOr, mNot, mAndT, mOrT, mNotT, mIf, mUn, mNil, mCons, mApp, mTupS, mLstS, mPart, mSlice, tInt, mSliceR, mItems, mItA, mMeth, isLs, isTp, isSt, sAug, sAugI, gNm, gIx, gIx2, gPat, gTwo, gThree, gsNil, gsCons, tg_nm, tg_tp, tgs_nil, tgs_cons, Option.bind_some, of_some, of_none, bind_ok, wp_ite, wpS_ite, ev_eqI, ev_neI, ev_ltI, ev_gtI, ev_leI, ev_geI, ev_addI, ev_iaddI, ev_subI, ev_negI, ev_divI, ev_modI, ev_intI, ev_intB, ev_absI, ev_lenL, ev_lenD, ev_lenT, ev_minI, ev_maxI, ev_tupL, ev_tupD, ev_tupT, ev_listD, ev_listT, ev_listL, ev_getL, ev_getD, ev_getT, atI_0, atI_1, atI_2, atI_3, atI_4, atI_end, ev_sz, ixN_0, ixN_1, ixN_2, ixN_3, ixN_4, put_0, put_s, List.map_cons, List.map_nil, List.replicate_succ, List.replicate_zero, List.cons_append, List.nil_append, List.length_cons, List.length_nil, List.set_cons_zero, List.set_cons_succ, List.getElem?_cons_zero, List.getElem?_cons_succ, Option.map_some, Option.map_none, frz_d, frz_l, frzs_n, frzs_c, frzs_map, frzs_ints, outs_z, outs_s, List.contains_cons, List.contains_nil, decide_eq_true_eq, beq_iff_eq, bne_iff_ne, if_true, if_false, Bool.false_eq_true, Bool.not_eq_true, Bool.or_false, Bool.or_true, Bool.not_true, Bool.not_false, Nat.reduceAdd, Nat.reduceSub, Nat.reduceLT, Nat.reduceLeDiff, Nat.reduceBEq, Nat.reduceEqDiff, Int.reduceLT, Int.reduceLE, Int.reduceEq, Int.reduceNeg, Int.reducePow, Int.reduceToNat, Nat.zero_add, and_self, and_true, true_and, reduceIte, ev_cutD, ev_cutT, ev_cutL, it_L, it_D, it_T, it_S, cast0, cast1, Int.add_zero, Int.zero_add, Bool.and_true, Bool.true_and, Bool.and_self, Bool.and_false, Bool.false_and]
  rw [hK]; clear hK K
  refine wpS_seqK fun K hK => ?_
  simp only [wpS_if, wpS_asg, wpS_asgs, wpS_ret, wpS_drop, wpS_skip, wpS_for, wpS_nx, wpS_rt, wp_bind, wp_ok, wp_of_some, eTest, eP, eB, eFr, eFrs, eMov, eFrz, eCons, eNil, eLend, eBin, eCmp, eCmpT, e2, eApp, eTupS, eLstS, eIx, tD, eUn, eTrue, eNotT, eIf, eCall, mCall, pb_nil, pb_none, pb_some, eApnd, eExtd, ePop, ePopAt, eAndT, eOrT, iP, iE, iOne, mVar, mD, mK, mBin, mCmp, mCmpT, mChainT, mOfT, tTrue, mTrue, mAnd, mOr, mNot, mAndT, mOrT, mNotT, mIf, mUn, mNil, mCons, mApp, mTupS, mLstS, mPart, mSlice, tInt, mSliceR, mItems, mItA, mMeth, isLs, isTp, isSt, sAug, sAugI, gNm, gIx, gIx2, gPat, gTwo, gThree, gsNil, gsCons, tg_nm, tg_tp, tgs_nil, tgs_cons, Option.bind_some, of_some, of_none, bind_ok, wp_ite, wpS_ite, ev_eqI, ev_neI, ev_ltI, ev_gtI, ev_leI, ev_geI, ev_addI, ev_iaddI, ev_subI, ev_negI, ev_divI, ev_modI, ev_intI, ev_intB, ev_absI, ev_lenL, ev_lenD, ev_lenT, ev_minI, ev_maxI, ev_tupL, ev_tupD, ev_tupT, ev_listD, ev_listT, ev_listL, ev_getL, ev_getD, ev_getT, atI_0, atI_1, atI_2, atI_3, atI_4, atI_end, ev_sz, ixN_0, ixN_1, ixN_2, ixN_3, ixN_4, put_0, put_s, List.map_cons, List.map_nil, List.replicate_succ, List.replicate_zero, List.cons_append, List.nil_append, List.length_cons, List.length_nil, List.set_cons_zero, List.set_cons_succ, List.getElem?_cons_zero, List.getElem?_cons_succ, Option.map_some, Option.map_none, frz_d, frz_l, frzs_n, frzs_c, frzs_map, frzs_ints, outs_z, outs_s, List.contains_cons, List.contains_nil, decide_eq_true_eq, beq_iff_eq, bne_iff_ne, if_true, if_false, Bool.false_eq_true, Bool.not_eq_true, Bool.or_false, Bool.or_true, Bool.not_true, Bool.not_false, Nat.reduceAdd, Nat.reduceSub, Nat.reduceLT, Nat.reduceLeDiff, Nat.reduceBEq, Nat.reduceEqDiff, Int.reduceLT, Int.reduceLE, Int.reduceEq, Int.reduceNeg, Int.reducePow, Int.reduceToNat, Nat.zero_add, and_self, and_true, true_and, reduceIte, ev_cutD, ev_cutT, ev_cutL, it_L, it_D, it_T, it_S, cast0, cast1, Int.add_zero, Int.zero_add, Bool.and_true, Bool.true_and, Bool.and_self, Bool.and_false, Bool.false_and]
  refine (any_ok hh3 (by simp) (by simp)).mono fun r ⟨x4, h4, er, hx4, hh4⟩ => ?_
  subst er
  have hx4 : x4 ∈ are_refused_D4 := hx4
  simp only [wpS_if, wpS_asg, wpS_asgs, wpS_ret, wpS_drop, wpS_skip, wpS_for, wpS_nx, wpS_rt, wp_bind, wp_ok, wp_of_some, eTest, eP, eB, eFr, eFrs, eMov, eFrz, eCons, eNil, eLend, eBin, eCmp, eCmpT, e2, eApp, eTupS, eLstS, eIx, tD, eUn, eTrue, eNotT, eIf, eCall, mCall, pb_nil, pb_none, pb_some, eApnd, eExtd, ePop, ePopAt, eAndT, eOrT, iP, iE, iOne, mVar, mD, mK, mBin, mCmp, mCmpT, mChainT, mOfT, tTrue, mTrue, mAnd, mOr, mNot, mAndT, mOrT, mNotT, mIf, mUn, mNil, mCons, mApp, mTupS, mLstS, mPart, mSlice, tInt, mSliceR, mItems, mItA, mMeth, isLs, isTp, isSt, sAug, sAugI, gNm, gIx, gIx2, gPat, gTwo, gThree, gsNil, gsCons, tg_nm, tg_tp, tgs_nil, tgs_cons, Option.bind_some, of_some, of_none, bind_ok, wp_ite, wpS_ite, ev_eqI, ev_neI, ev_ltI, ev_gtI, ev_leI, ev_geI, ev_addI, ev_iaddI, ev_subI, ev_negI, ev_divI, ev_modI, ev_intI, ev_intB, ev_absI, ev_lenL, ev_lenD, ev_lenT, ev_minI, ev_maxI, ev_tupL, ev_tupD, ev_tupT, ev_listD, ev_listT, ev_listL, ev_getL, ev_getD, ev_getT, atI_0, atI_1, atI_2, atI_3, atI_4, atI_end, ev_sz, ixN_0, ixN_1, ixN_2, ixN_3, ixN_4, put_0, put_s, List.map_cons, List.map_nil, List.replicate_succ, List.replicate_zero, List.cons_append, List.nil_append, List.length_cons, List.length_nil, List.set_cons_zero, List.set_cons_succ, List.getElem?_cons_zero, List.getElem?_cons_succ, Option.map_some, Option.map_none, frz_d, frz_l, frzs_n, frzs_c, frzs_map, frzs_ints, outs_z, outs_s, List.contains_cons, List.contains_nil, decide_eq_true_eq, beq_iff_eq, bne_iff_ne, if_true, if_false, Bool.false_eq_true, Bool.not_eq_true, Bool.or_false, Bool.or_true, Bool.not_true, Bool.not_false, Nat.reduceAdd, Nat.reduceSub, Nat.reduceLT, Nat.reduceLeDiff, Nat.reduceBEq, Nat.reduceEqDiff, Int.reduceLT, Int.reduceLE, Int.reduceEq, Int.reduceNeg, Int.reducePow, Int.reduceToNat, Nat.zero_add, and_self, and_true, true_and, reduceIte, ev_cutD, ev_cutT, ev_cutL, it_L, it_D, it_T, it_S, cast0, cast1, Int.add_zero, Int.zero_add, Bool.and_true, Bool.true_and, Bool.and_self, Bool.and_false, Bool.false_and]
  rw [hK]; clear hK K
  refine wpS_seqK fun K hK => ?_
  simp only [wpS_if, wpS_asg, wpS_asgs, wpS_ret, wpS_drop, wpS_skip, wpS_for, wpS_nx, wpS_rt, wp_bind, wp_ok, wp_of_some, eTest, eP, eB, eFr, eFrs, eMov, eFrz, eCons, eNil, eLend, eBin, eCmp, eCmpT, e2, eApp, eTupS, eLstS, eIx, tD, eUn, eTrue, eNotT, eIf, eCall, mCall, pb_nil, pb_none, pb_some, eApnd, eExtd, ePop, ePopAt, eAndT, eOrT, iP, iE, iOne, mVar, mD, mK, mBin, mCmp, mCmpT, mChainT, mOfT, tTrue, mTrue, mAnd, mOr, mNot, mAndT, mOrT, mNotT, mIf, mUn, mNil, mCons, mApp, mTupS, mLstS, mPart, mSlice, tInt, mSliceR, mItems, mItA, mMeth, isLs, isTp, isSt, sAug, sAugI, gNm, gIx, gIx2, gPat, gTwo, gThree, gsNil, gsCons, tg_nm, tg_tp, tgs_nil, tgs_cons, Option.bind_some, of_some, of_none, bind_ok, wp_ite, wpS_ite, ev_eqI, ev_neI, ev_ltI, ev_gtI, ev_leI, ev_geI, ev_addI, ev_iaddI, ev_subI, ev_negI, ev_divI, ev_modI, ev_intI, ev_intB, ev_absI, ev_lenL, ev_lenD, ev_lenT, ev_minI, ev_maxI, ev_tupL, ev_tupD, ev_tupT, ev_listD, ev_listT, ev_listL, ev_getL, ev_getD, ev_getT, atI_0, atI_1, atI_2, atI_3, atI_4, atI_end, ev_sz, ixN_0, ixN_1, ixN_2, ixN_3, ixN_4, put_0, put_s, List.map_cons, List.map_nil, List.replicate_succ, List.replicate_zero, List.cons_append, List.nil_append, List.length_cons, List.length_nil, List.set_cons_zero, List.set_cons_succ, List.getElem?_cons_zero, List.getElem?_cons_succ, Option.map_some, Option.map_none, frz_d, frz_l, frzs_n, frzs_c, frzs_map, frzs_ints, outs_z, outs_s, List.contains_cons, List.contains_nil, decide_eq_true_eq, beq_iff_eq, bne_iff_ne, if_true, if_false, Bool.false_eq_true, Bool.not_eq_true, Bool.or_false, Bool.or_true, Bool.not_true, Bool.not_false, Nat.reduceAdd, Nat.reduceSub, Nat.reduceLT, Nat.reduceLeDiff, Nat.reduceBEq, Nat.reduceEqDiff, Int.reduceLT, Int.reduceLE, Int.reduceEq, Int.reduceNeg, Int.reducePow, Int.reduceToNat, Nat.zero_add, and_self, and_true, true_and, reduceIte, ev_cutD, ev_cutT, ev_cutL, it_L, it_D, it_T, it_S, cast0, cast1, Int.add_zero, Int.zero_add, Bool.and_true, Bool.true_and, Bool.and_self, Bool.and_false, Bool.false_and]
  rw [hK]; clear hK K
  have c0 := List.all_eq_true.mp (List.all_eq_true.mp (are_refused_c0) _ hx0) _ hx2
  refine seq_ref (i := 3) ([]) ([.d (x0), .d (y2_0), .d (y2_1)]) rfl (by decide) rfl (exB_eq c0) (show wd _ = some "number" by decide +kernel) (show _ = [some h4, some (.d x3), some (.d x4), some (.l [.d (.str "number")]), none, some (.d x0), some (.d x1), some (.d y2_0), some (.d y2_1)] from rfl) ?_
  have c1 := List.all_eq_true.mp (are_refused_c1) _ hx2
  refine seq_ref (i := 3) ([.d (.str "number")]) ([.d (.int 3), .d (y2_0), .d (y2_1)]) rfl (by decide) rfl (exB_eq c1) (show wd _ = some "run" by decide +kernel) (show _ = [some h4, some (.d x3), some (.d x4), some (.l [.d (.str "number"), .d (.str "run")]), none, some (.d x0), some (.d x1), some (.d y2_0), some (.d y2_1)] from rfl) ?_
  have c2 := are_refused_c2
  refine seq_ref (i := 3) ([.d (.str "number"), .d (.str "run")]) ([.d (.int 5), .d (.int (-2)), .d (.int 1)]) rfl (by decide) rfl (exB_eq c2) (show wd _ = some "planes" by decide +kernel) (show _ = [some h4, some (.d x3), some (.d x4), some (.l [.d (.str "number"), .d (.str "run"), .d (.str "planes")]), none, some (.d x0), some (.d x1), some (.d y2_0), some (.d y2_1)] from rfl) ?_
  have c3 := List.all_eq_true.mp (List.all_eq_true.mp (are_refused_c3) _ hx1) _ hx2
  refine seq_ref (i := 3) ([.d (.str "number"), .d (.str "run"), .d (.str "planes")]) ([.d (x1), .d (y2_0), .d (y2_1)]) rfl (by decide) rfl (exB_eq c3) (show wd _ = some "number" by decide +kernel) (show _ = [some h4, some (.d x3), some (.d x4), some (.l [.d (.str "number"), .d (.str "run"), .d (.str "planes"), .d (.str "number")]), none, some (.d x0), some (.d x1), some (.d y2_0), some (.d y2_1)] from rfl) ?_
  have c4 := List.all_eq_true.mp (are_refused_c4) _ hx2
  refine seq_ref (i := 3) ([.d (.str "number"), .d (.str "run"), .d (.str "planes"), .d (.str "number")]) ([.d (.int 12), .d (y2_0), .d (y2_1)]) rfl (by decide) rfl (exB_eq c4) (show wd _ = some "run" by decide +kernel) (show _ = [some h4, some (.d x3), some (.d x4), some (.l [.d (.str "number"), .d (.str "run"), .d (.str "planes"), .d (.str "number"), .d (.str "run")]), none, some (.d x0), some (.d x1), some (.d y2_0), some (.d y2_1)] from rfl) ?_
  have c5 := List.all_eq_true.mp (List.all_eq_true.mp (are_refused_c5) _ hx1) _ hx2
  refine seq_ref (i := 3) ([.d (.str "number"), .d (.str "run"), .d (.str "planes"), .d (.str "number"), .d (.str "run")]) ([.d (x1), .d (y2_0), .d (y2_1)]) rfl (by decide) rfl (exB_eq c5) (show wd _ = some "number" by decide +kernel) (show _ = [some h4, some (.d x3), some (.d x4), some (.l [.d (.str "number"), .d (.str "run"), .d (.str "planes"), .d (.str "number"), .d (.str "run"), .d (.str "number")]), none, some (.d x0), some (.d x1), some (.d y2_0), some (.d y2_1)] from rfl) ?_
  have c6 := List.all_eq_true.mp (are_refused_c6) _ hx2
  refine seq_ref (i := 3) ([.d (.str "number"), .d (.str "run"), .d (.str "planes"), .d (.str "number"), .d (.str "run"), .d (.str "number")]) ([.d (.int 3), .d (y2_0), .d (y2_1)]) rfl (by decide) rfl (exB_eq c6) (show wd _ = some "run" by decide +kernel) (show _ = [some h4, some (.d x3), some (.d x4), some (.l [.d (.str "number"), .d (.str "run"), .d (.str "planes"), .d (.str "number"), .d (.str "run"), .d (.str "number"), .d (.str "run")]), none, some (.d x0), some (.d x1), some (.d y2_0), some (.d y2_1)] from rfl) ?_
  have c7 := List.all_eq_true.mp (List.all_eq_true.mp (are_refused_c7) _ hx1) _ hx2
  refine seq_ref (i := 3) ([.d (.str "number"), .d (.str "run"), .d (.str "planes"), .d (.str "number"), .d (.str "run"), .d (.str "number"), .d (.str "run")]) ([.d (x1), .d (y2_0), .d (y2_1)]) rfl (by decide) rfl (exB_eq c7) (show wd _ = some "number" by decide +kernel) (show _ = [some h4, some (.d x3), some (.d x4), some (.l [.d (.str "number"), .d (.str "run"), .d (.str "planes"), .d (.str "number"), .d (.str "run"), .d (.str "number"), .d (.str "run"), .d (.str "number")]), none, some (.d x0), some (.d x1), some (.d y2_0), some (.d y2_1)] from rfl) ?_
  have c8 := List.all_eq_true.mp (are_refused_c8) _ hx2
  refine seq_ref (i := 3) ([.d (.str "number"), .d (.str "run"), .d (.str "planes"), .d (.str "number"), .d (.str "run"), .d (.str "number"), .d (.str "run"), .d (.str "number")]) ([.d (.int 3), .d (y2_0), .d (y2_1)]) rfl (by decide) rfl (exB_eq c8) (show wd _ = some "run" by decide +kernel) (show _ = [some h4, some (.d x3), some (.d x4), some (.l [.d (.str "number"), .d (.str "run"), .d (.str "planes"), .d (.str "number"), .d (.str "run"), .d (.str "number"), .d (.str "run"), .d (.str "number"), .d (.str "run")]), none, some (.d x0), some (.d x1), some (.d y2_0), some (.d y2_1)] from rfl) ?_
  have c9 := List.all_eq_true.mp (List.all_eq_true.mp (are_refused_c9) _ hx1) _ hx2
  refine seq_ref (i := 3) ([.d (.str "number"), .d (.str "run"), .d (.str "planes"), .d (.str "number"), .d (.str "run"), .d (.str "number"), .d (.str "run"), .d (.str "number"), .d (.str "run")]) ([.d (x1), .d (y2_0), .d (y2_1)]) rfl (by decide) rfl (exB_eq c9) (show wd _ = some "number" by decide +kernel) (show _ = [some h4, some (.d x3), some (.d x4), some (.l [.d (.str "number"), .d (.str "run"), .d (.str "planes"), .d (.str "number"), .d (.str "run"), .d (.str "number"), .d (.str "run"), .d (.str "number"), .d (.str "run"), .d (.str "number")]), none, some (.d x0), some (.d x1), some (.d y2_0), some (.d y2_1)] from rfl) ?_
  have c10 := List.all_eq_true.mp (are_refused_c10) _ hx2
  refine seq_ref (i := 3) ([.d (.str "number"), .d (.str "run"), .d (.str "planes"), .d (.str "number"), .d (.str "run"), .d (.str "number"), .d (.str "run"), .d (.str "number"), .d (.str "run"), .d (.str "number")]) ([.d (.int 3), .d (y2_0), .d (y2_1)]) rfl (by decide) rfl (exB_eq c10) (show wd _ = some "run" by decide +kernel) (show _ = [some h4, some (.d x3), some (.d x4), some (.l [.d (.str "number"), .d (.str "run"), .d (.str "planes"), .d (.str "number"), .d (.str "run"), .d (.str "number"), .d (.str "run"), .d (.str "number"), .d (.str "run"), .d (.str "number"), .d (.str "run")]), none, some (.d x0), some (.d x1), some (.d y2_0), some (.d y2_1)] from rfl) ?_
  have c11 := List.all_eq_true.mp (List.all_eq_true.mp (are_refused_c11) _ hx3) _ hx4
  refine seq_ref (i := 3) ([.d (.str "number"), .d (.str "run"), .d (.str "planes"), .d (.str "number"), .d (.str "run"), .d (.str "number"), .d (.str "run"), .d (.str "number"), .d (.str "run"), .d (.str "number"), .d (.str "run")]) ([.d (x3), .d (x4)]) rfl (by decide) rfl (exB_eq c11) (show wd _ = some "poly" by decide +kernel) (show _ = [some h4, some (.d x3), some (.d x4), some (.l [.d (.str "number"), .d (.str "run"), .d (.str "planes"), .d (.str "number"), .d (.str "run"), .d (.str "number"), .d (.str "run"), .d (.str "number"), .d (.str "run"), .d (.str "number"), .d (.str "run"), .d (.str "poly")]), none, some (.d x0), some (.d x1), some (.d y2_0), some (.d y2_1)] from rfl) ?_
  have c12 := List.all_eq_true.mp (are_refused_c12) _ hx4
  refine seq_ref (i := 3) ([.d (.str "number"), .d (.str "run"), .d (.str "planes"), .d (.str "number"), .d (.str "run"), .d (.str "number"), .d (.str "run"), .d (.str "number"), .d (.str "run"), .d (.str "number"), .d (.str "run"), .d (.str "poly")]) ([.d (.tuple [.int 0, .int 1]), .d (x4)]) rfl (by decide) rfl (exB_eq c12) (show wd _ = some "integer" by decide +kernel) (show _ = [some h4, some (.d x3), some (.d x4), some (.l [.d (.str "number"), .d (.str "run"), .d (.str "planes"), .d (.str "number"), .d (.str "run"), .d (.str "number"), .d (.str "run"), .d (.str "number"), .d (.str "run"), .d (.str "number"), .d (.str "run"), .d (.str "poly"), .d (.str "integer")]), none, some (.d x0), some (.d x1), some (.d y2_0), some (.d y2_1)] from rfl) ?_
  have c13 := List.all_eq_true.mp (are_refused_c13) _ hx3
  refine seq_ref (i := 3) ([.d (.str "number"), .d (.str "run"), .d (.str "planes"), .d (.str "number"), .d (.str "run"), .d (.str "number"), .d (.str "run"), .d (.str "number"), .d (.str "run"), .d (.str "number"), .d (.str "run"), .d (.str "poly"), .d (.str "integer")]) ([.d (x3)]) rfl (by decide) rfl (exB_eq c13) (show wd _ = some "poly" by decide +kernel) (show _ = [some h4, some (.d x3), some (.d x4), some (.l [.d (.str "number"), .d (.str "run"), .d (.str "planes"), .d (.str "number"), .d (.str "run"), .d (.str "number"), .d (.str "run"), .d (.str "number"), .d (.str "run"), .d (.str "number"), .d (.str "run"), .d (.str "poly"), .d (.str "integer"), .d (.str "poly")]), none, some (.d x0), some (.d x1), some (.d y2_0), some (.d y2_1)] from rfl) ?_
  refine seq_due (ws := [.d (.str "number"), .d (.str "run"), .d (.str "planes"), .d (.str "number"), .d (.str "run"), .d (.str "number"), .d (.str "run"), .d (.str "number"), .d (.str "run"), .d (.str "number"), .d (.str "run"), .d (.str "poly"), .d (.str "integer"), .d (.str "poly")]) (us := [.d (.str "number"), .d (.str "run"), .d (.str "planes"), .d (.str "number"), .d (.str "run"), .d (.str "number"), .d (.str "run"), .d (.str "number"), .d (.str "run"), .d (.str "number"), .d (.str "run"), .d (.str "poly"), .d (.str "integer"), .d (.str "poly")]) rfl (by simp only [List.length_cons]; omega) (by decide +kernel) rfl (by decide) ?_
  exact ⟨_, rfl, hh4⟩
end K22

set_option maxHeartbeats 4000000
namespace K22
open PySem PySem.Spec L2 Mi

/-! ### products by a row of two -/
def fr (c0 c1 : Int) : Int → List Int → List Int
  | _, [] => []
  | p, x :: xs => (p * c1 + x * c0) :: fr c0 c1 x xs
def la : Int → List Int → Int
  | p, [] => p
  | _, x :: xs => la x xs
def lin (c0 c1 : Int) (l : List Int) : List Int := fr c0 c1 0 l ++ [la 0 l * c1]
theorem fr_snoc {c0 c1 x : Int} : ∀ (p : Int) (l : List Int), fr c0 c1 p (l ++ [x]) = fr c0 c1 p l ++ [la p l * c1 + x * c0]
  | p, [] => rfl
  | p, y :: l => by simp only [List.cons_append, fr, la, fr_snoc y l]
theorem la_snoc {x : Int} : ∀ (p : Int) (l : List Int), la p (l ++ [x]) = x
  | p, [] => rfl
  | p, y :: l => by simp only [List.cons_append, la, la_snoc y l]
theorem fr_len {c0 c1 : Int} : ∀ (p : Int) (l : List Int), (fr c0 c1 p l).length = l.length
  | p, [] => rfl
  | p, y :: l => by simp only [fr, List.length_cons, fr_len y l]
theorem times_ok {one : List Int} {c0 c1 : Int} (h0 : Sm c0) (h1 : Sm c1) (hl : one.length ≤ 1000) : (f__law_times [.d (.list (one.map .int)), .d (.list [.int c0, .int c1])]).wp fun r => r = (.l ((lin c0 c1 one).map fI), [none, none]) := by
  unfold f__law_times
  rw [wp_fn]
  unfold b__law_times
  refine wpS_seqK fun K hK => ?_
  have e1 : ((one.map PyData.int).length : Int) + (([PyData.int c0, PyData.int c1].length : Nat) : Int) - 1 = ((one.length + 1 : Nat) : Int) := by simp; omega
  simp only [wpS_if, wpS_asg, wpS_asgs, wpS_ret, wpS_drop, wpS_skip, wpS_for, wpS_nx, wpS_rt, wp_bind, wp_ok, wp_of_some, eTest, eP, eB, eFr, eFrs, eMov, eFrz, eCons, eNil, eLend, eBin, eCmp, eCmpT, e2, eApp, eTupS, eLstS, eIx, tD, eUn, eTrue, eNotT, eIf, eCall, mCall, pb_nil, pb_none, pb_some, eApnd, eExtd, ePop, ePopAt, eAndT, eOrT, iP, iE, iOne, mVar, mD, mK, mBin, mCmp, mCmpT, mChainT, mOfT, tTrue, mTrue, mAnd, mOr, mNot, mAndT, mOrT, mNotT, mIf, mUn, mNil, mCons, mApp, mTupS, mLstS, mPart, mSlice, tInt, mSliceR, mItems, mItA, mMeth, isLs, isTp, isSt, sAug, sAugI, gNm, gIx, gIx2, gPat, gTwo, gThree, gsNil, gsCons, tg_nm, tg_tp, tgs_nil, tgs_cons, Option.bind_some, of_some, of_none, bind_ok, wp_ite, wpS_ite, ev_eqI, ev_neI, ev_ltI, ev_gtI, ev_leI, ev_geI, ev_addI, ev_iaddI, ev_subI, ev_negI, ev_divI, ev_modI, ev_intI, ev_intB, ev_absI, ev_lenL, ev_lenD, ev_lenT, ev_minI, ev_maxI, ev_tupL, ev_tupD, ev_tupT, ev_listD, ev_listT, ev_listL, ev_getL, ev_getD, ev_getT, atI_0, atI_1, atI_2, atI_3, atI_4, atI_end, ev_sz, ixN_0, ixN_1, ixN_2, ixN_3, ixN_4, put_0, put_s, List.map_cons, List.map_nil, List.replicate_succ, List.replicate_zero, List.cons_append, List.nil_append, List.length_cons, List.length_nil, List.set_cons_zero, List.set_cons_succ, List.getElem?_cons_zero, List.getElem?_cons_succ, Option.map_some, Option.map_none, frz_d, frz_l, frzs_n, frzs_c, frzs_map, frzs_ints, outs_z, outs_s, List.contains_cons, List.contains_nil, decide_eq_true_eq, beq_iff_eq, bne_iff_ne, if_true, if_false, Bool.false_eq_true, Bool.not_eq_true, Bool.or_false, Bool.or_true, Bool.not_true, Bool.not_false, Nat.reduceAdd, Nat.reduceSub, Nat.reduceLT, Nat.reduceLeDiff, Nat.reduceBEq, Nat.reduceEqDiff, Int.reduceLT, Int.reduceLE, Int.reduceEq, Int.reduceNeg, Int.reducePow, Int.reduceToNat, Nat.zero_add, and_self, and_true, true_and, reduceIte, ev_cutD, ev_cutT, ev_cutL, it_L, it_D, it_T, it_S, cast0, cast1, Int.add_zero, Int.zero_add, Bool.and_true, Bool.true_and, Bool.and_self, Bool.and_false, Bool.false_and] at e1 ⊢
  simp only [e1, mul_row (k := ((one.length + 1 : Nat) : Int)) (y := 0) (by omega) (by omega), Int.toNat_natCast, wpS_if, wpS_asg, wpS_asgs, wpS_ret, wpS_drop, wpS_skip, wpS_for, wpS_nx, wpS_rt, wp_bind, wp_ok, wp_of_some, eTest, eP, eB, eFr, eFrs, eMov, eFrz, eCons, eNil, eLend, eBin, eCmp, eCmpT, e2, eApp, eTupS, eLstS, eIx, tD, eUn, eTrue, eNotT, eIf, eCall, mCall, pb_nil, pb_none, pb_some, eApnd, eExtd, ePop, ePopAt, eAndT, eOrT, iP, iE, iOne, mVar, mD, mK, mBin, mCmp, mCmpT, mChainT, mOfT, tTrue, mTrue, mAnd, mOr, mNot, mAndT, mOrT, mNotT, mIf, mUn, mNil, mCons, mApp, mTupS, mLstS, mPart, mSlice, tInt, mSliceR, mItems, mItA, mMeth, isLs, isTp, isSt, sAug, sAugI, gNm, gIx, gIx2, gPat, gTwo, gThree, gsNil, gsCons, tg_nm, tg_tp, tgs_nil, tgs_cons, Option.bind_some, of_some, of_none, bind_ok, wp_ite, wpS_ite, ev_eqI, ev_neI, ev_ltI, ev_gtI, ev_leI, ev_geI, ev_addI, ev_iaddI, ev_subI, ev_negI, ev_divI, ev_modI, ev_intI, ev_intB, ev_absI, ev_lenL, ev_lenD, ev_lenT, ev_minI, ev_maxI, ev_tupL, ev_tupD, ev_tupT, ev_listD, ev_listT, ev_listL, ev_getL, ev_getD, ev_getT, atI_0, atI_1, atI_2, atI_3, atI_4, atI_end, ev_sz, ixN_0, ixN_1, ixN_2, ixN_3, ixN_4, put_0, put_s, List.map_cons, List.map_nil, List.replicate_succ, List.replicate_zero, List.cons_append, List.nil_append, List.length_cons, List.length_nil, List.set_cons_zero, List.set_cons_succ, List.getElem?_cons_zero, List.getElem?_cons_succ, Option.map_some, Option.map_none, frz_d, frz_l, frzs_n, frzs_c, frzs_map, frzs_ints, outs_z, outs_s, List.contains_cons, List.contains_nil, decide_eq_true_eq, beq_iff_eq, bne_iff_ne, if_true, if_false, Bool.false_eq_true, Bool.not_eq_true, Bool.or_false, Bool.or_true, Bool.not_true, Bool.not_false, Nat.reduceAdd, Nat.reduceSub, Nat.reduceLT, Nat.reduceLeDiff, Nat.reduceBEq, Nat.reduceEqDiff, Int.reduceLT, Int.reduceLE, Int.reduceEq, Int.reduceNeg, Int.reducePow, Int.reduceToNat, Nat.zero_add, and_self, and_true, true_and, reduceIte, ev_cutD, ev_cutT, ev_cutL, it_L, it_D, it_T, it_S, cast0, cast1, Int.add_zero, Int.zero_add, Bool.and_true, Bool.true_and, Bool.and_self, Bool.and_false, Bool.false_and]
  rw [hK]
  clear hK K
  refine wpS_seqK fun K hK => ?_
  simp only [itEnum, wpS_if, wpS_asg, wpS_asgs, wpS_ret, wpS_drop, wpS_skip, wpS_for, wpS_nx, wpS_rt, wp_bind, wp_ok, wp_of_some, eTest, eP, eB, eFr, eFrs, eMov, eFrz, eCons, eNil, eLend, eBin, eCmp, eCmpT, e2, eApp, eTupS, eLstS, eIx, tD, eUn, eTrue, eNotT, eIf, eCall, mCall, pb_nil, pb_none, pb_some, eApnd, eExtd, ePop, ePopAt, eAndT, eOrT, iP, iE, iOne, mVar, mD, mK, mBin, mCmp, mCmpT, mChainT, mOfT, tTrue, mTrue, mAnd, mOr, mNot, mAndT, mOrT, mNotT, mIf, mUn, mNil, mCons, mApp, mTupS, mLstS, mPart, mSlice, tInt, mSliceR, mItems, mItA, mMeth, isLs, isTp, isSt, sAug, sAugI, gNm, gIx, gIx2, gPat, gTwo, gThree, gsNil, gsCons, tg_nm, tg_tp, tgs_nil, tgs_cons, Option.bind_some, of_some, of_none, bind_ok, wp_ite, wpS_ite, ev_eqI, ev_neI, ev_ltI, ev_gtI, ev_leI, ev_geI, ev_addI, ev_iaddI, ev_subI, ev_negI, ev_divI, ev_modI, ev_intI, ev_intB, ev_absI, ev_lenL, ev_lenD, ev_lenT, ev_minI, ev_maxI, ev_tupL, ev_tupD, ev_tupT, ev_listD, ev_listT, ev_listL, ev_getL, ev_getD, ev_getT, atI_0, atI_1, atI_2, atI_3, atI_4, atI_end, ev_sz, ixN_0, ixN_1, ixN_2, ixN_3, ixN_4, put_0, put_s, List.map_cons, List.map_nil, List.replicate_succ, List.replicate_zero, List.cons_append, List.nil_append, List.length_cons, List.length_nil, List.set_cons_zero, List.set_cons_succ, List.getElem?_cons_zero, List.getElem?_cons_succ, Option.map_some, Option.map_none, frz_d, frz_l, frzs_n, frzs_c, frzs_map, frzs_ints, outs_z, outs_s, List.contains_cons, List.contains_nil, decide_eq_true_eq, beq_iff_eq, bne_iff_ne, if_true, if_false, Bool.false_eq_true, Bool.not_eq_true, Bool.or_false, Bool.or_true, Bool.not_true, Bool.not_false, Nat.reduceAdd, Nat.reduceSub, Nat.reduceLT, Nat.reduceLeDiff, Nat.reduceBEq, Nat.reduceEqDiff, Int.reduceLT, Int.reduceLE, Int.reduceEq, Int.reduceNeg, Int.reducePow, Int.reduceToNat, Nat.zero_add, and_self, and_true, true_and, reduceIte, ev_cutD, ev_cutT, ev_cutL, it_L, it_D, it_T, it_S, cast0, cast1, Int.add_zero, Int.zero_add, Bool.and_true, Bool.true_and, Bool.and_self, Bool.and_false, Bool.false_and]
  refine wpS_fE PyData.int (fun pre post e => ∃ w3 w4 w5 w6, e = [some (.d (.list (one.map .int))), some (.d (.list [.int c0, .int c1])), some (.l ((fr c0 c1 0 pre ++ la 0 pre * c1 :: List.replicate post.length 0).map fI)), w3, w4, w5, w6]) one ?_ ?_ one [] rfl ⟨none, none, none, none, ?_⟩
  · rintro pre x post e - ⟨w3, w4, w5, w6, rfl⟩
    simp only [wpS_seq, itEnum, List.replicate_succ, wpS_if, wpS_asg, wpS_asgs, wpS_ret, wpS_drop, wpS_skip, wpS_for, wpS_nx, wpS_rt, wp_bind, wp_ok, wp_of_some, eTest, eP, eB, eFr, eFrs, eMov, eFrz, eCons, eNil, eLend, eBin, eCmp, eCmpT, e2, eApp, eTupS, eLstS, eIx, tD, eUn, eTrue, eNotT, eIf, eCall, mCall, pb_nil, pb_none, pb_some, eApnd, eExtd, ePop, ePopAt, eAndT, eOrT, iP, iE, iOne, mVar, mD, mK, mBin, mCmp, mCmpT, mChainT, mOfT, tTrue, mTrue, mAnd, mOr, mNot, mAndT, mOrT, mNotT, mIf, mUn, mNil, mCons, mApp, mTupS, mLstS, mPart, mSlice, tInt, mSliceR, mItems, mItA, mMeth, isLs, isTp, isSt, sAug, sAugI, gNm, gIx, gIx2, gPat, gTwo, gThree, gsNil, gsCons, tg_nm, tg_tp, tgs_nil, tgs_cons, Option.bind_some, of_some, of_none, bind_ok, wp_ite, wpS_ite, ev_eqI, ev_neI, ev_ltI, ev_gtI, ev_leI, ev_geI, ev_addI, ev_iaddI, ev_subI, ev_negI, ev_divI, ev_modI, ev_intI, ev_intB, ev_absI, ev_lenL, ev_lenD, ev_lenT, ev_minI, ev_maxI, ev_tupL, ev_tupD, ev_tupT, ev_listD, ev_listT, ev_listL, ev_getL, ev_getD, ev_getT, atI_0, atI_1, atI_2, atI_3, atI_4, atI_end, ev_sz, ixN_0, ixN_1, ixN_2, ixN_3, ixN_4, put_0, put_s, List.map_cons, List.map_nil, List.replicate_succ, List.replicate_zero, List.cons_append, List.nil_append, List.length_cons, List.length_nil, List.set_cons_zero, List.set_cons_succ, List.getElem?_cons_zero, List.getElem?_cons_succ, Option.map_some, Option.map_none, frz_d, frz_l, frzs_n, frzs_c, frzs_map, frzs_ints, outs_z, outs_s, List.contains_cons, List.contains_nil, decide_eq_true_eq, beq_iff_eq, bne_iff_ne, if_true, if_false, Bool.false_eq_true, Bool.not_eq_true, Bool.or_false, Bool.or_true, Bool.not_true, Bool.not_false, Nat.reduceAdd, Nat.reduceSub, Nat.reduceLT, Nat.reduceLeDiff, Nat.reduceBEq, Nat.reduceEqDiff, Int.reduceLT, Int.reduceLE, Int.reduceEq, Int.reduceNeg, Int.reducePow, Int.reduceToNat, Nat.zero_add, and_self, and_true, true_and, reduceIte, ev_cutD, ev_cutT, ev_cutL, it_L, it_D, it_T, it_S, cast0, cast1, Int.add_zero, Int.zero_add, Bool.and_true, Bool.true_and, Bool.and_self, Bool.and_false, Bool.false_and, wpS_fn, wpS_fc, enumc, enumn, it_L, it_D, it_T]
    have hA : ∀ {m : Nat}, (fr c0 c1 0 pre ++ la 0 pre * c1 :: 0 :: List.replicate m 0).length = pre.length + 2 + m := by intro m; simp [fr_len]; omega
    have hB : ∀ {m : Nat} {q : Int}, (fr c0 c1 0 pre ++ q :: 0 :: List.replicate m 0).length = pre.length + 2 + m := by intro m q; simp [fr_len]; omega
    have i0 : ∀ {m : Nat}, ixN (pre.length + 2 + m) pre.length = some pre.length := ix_A (by omega)
    have i1 : ∀ {m : Nat}, ixN (pre.length + 2 + m) (pre.length + 1) = some (pre.length + 1) := ix_A1 (by omega)
    simp only [atI_fI, at_A (fr_len 0 pre), at_A1 (fr_len 0 pre), fI, ev_mulR h0, ev_mulR h1, List.length_map, hA, hB, i0, i1, set_fI, set_A (fr_len 0 pre), set_A1 (fr_len 0 pre), fr_snoc, la_snoc, List.append_assoc, wpS_if, wpS_asg, wpS_asgs, wpS_ret, wpS_drop, wpS_skip, wpS_for, wpS_nx, wpS_rt, wp_bind, wp_ok, wp_of_some, eTest, eP, eB, eFr, eFrs, eMov, eFrz, eCons, eNil, eLend, eBin, eCmp, eCmpT, e2, eApp, eTupS, eLstS, eIx, tD, eUn, eTrue, eNotT, eIf, eCall, mCall, pb_nil, pb_none, pb_some, eApnd, eExtd, ePop, ePopAt, eAndT, eOrT, iP, iE, iOne, mVar, mD, mK, mBin, mCmp, mCmpT, mChainT, mOfT, tTrue, mTrue, mAnd, mOr, mNot, mAndT, mOrT, mNotT, mIf, mUn, mNil, mCons, mApp, mTupS, mLstS, mPart, mSlice, tInt, mSliceR, mItems, mItA, mMeth, isLs, isTp, isSt, sAug, sAugI, gNm, gIx, gIx2, gPat, gTwo, gThree, gsNil, gsCons, tg_nm, tg_tp, tgs_nil, tgs_cons, Option.bind_some, of_some, of_none, bind_ok, wp_ite, wpS_ite, ev_eqI, ev_neI, ev_ltI, ev_gtI, ev_leI, ev_geI, ev_addI, ev_iaddI, ev_subI, ev_negI, ev_divI, ev_modI, ev_intI, ev_intB, ev_absI, ev_lenL, ev_lenD, ev_lenT, ev_minI, ev_maxI, ev_tupL, ev_tupD, ev_tupT, ev_listD, ev_listT, ev_listL, ev_getL, ev_getD, ev_getT, atI_0, atI_1, atI_2, atI_3, atI_4, atI_end, ev_sz, ixN_0, ixN_1, ixN_2, ixN_3, ixN_4, put_0, put_s, List.map_cons, List.map_nil, List.replicate_succ, List.replicate_zero, List.cons_append, List.nil_append, List.length_cons, List.length_nil, List.set_cons_zero, List.set_cons_succ, List.getElem?_cons_zero, List.getElem?_cons_succ, Option.map_some, Option.map_none, frz_d, frz_l, frzs_n, frzs_c, frzs_map, frzs_ints, outs_z, outs_s, List.contains_cons, List.contains_nil, decide_eq_true_eq, beq_iff_eq, bne_iff_ne, if_true, if_false, Bool.false_eq_true, Bool.not_eq_true, Bool.or_false, Bool.or_true, Bool.not_true, Bool.not_false, Nat.reduceAdd, Nat.reduceSub, Nat.reduceLT, Nat.reduceLeDiff, Nat.reduceBEq, Nat.reduceEqDiff, Int.reduceLT, Int.reduceLE, Int.reduceEq, Int.reduceNeg, Int.reducePow, Int.reduceToNat, Nat.zero_add, and_self, and_true, true_and, reduceIte, ev_cutD, ev_cutT, ev_cutL, it_L, it_D, it_T, it_S, cast0, cast1, Int.add_zero, Int.zero_add, Bool.and_true, Bool.true_and, Bool.and_self, Bool.and_false, Bool.false_and, wpS_fn, wpS_fc, enumc, enumn, it_L, it_D, it_T]
    exact ⟨_, _, _, _, rfl⟩
  · rintro e ⟨w3, w4, w5, w6, rfl⟩
    rw [hK]
    simp only [wpS_seq, lin, wpS_if, wpS_asg, wpS_asgs, wpS_ret, wpS_drop, wpS_skip, wpS_for, wpS_nx, wpS_rt, wp_bind, wp_ok, wp_of_some, eTest, eP, eB, eFr, eFrs, eMov, eFrz, eCons, eNil, eLend, eBin, eCmp, eCmpT, e2, eApp, eTupS, eLstS, eIx, tD, eUn, eTrue, eNotT, eIf, eCall, mCall, pb_nil, pb_none, pb_some, eApnd, eExtd, ePop, ePopAt, eAndT, eOrT, iP, iE, iOne, mVar, mD, mK, mBin, mCmp, mCmpT, mChainT, mOfT, tTrue, mTrue, mAnd, mOr, mNot, mAndT, mOrT, mNotT, mIf, mUn, mNil, mCons, mApp, mTupS, mLstS, mPart, mSlice, tInt, mSliceR, mItems, mItA, mMeth, isLs, isTp, isSt, sAug, sAugI, gNm, gIx, gIx2, gPat, gTwo, gThree, gsNil, gsCons, tg_nm, tg_tp, tgs_nil, tgs_cons, Option.bind_some, of_some, of_none, bind_ok, wp_ite, wpS_ite, ev_eqI, ev_neI, ev_ltI, ev_gtI, ev_leI, ev_geI, ev_addI, ev_iaddI, ev_subI, ev_negI, ev_divI, ev_modI, ev_intI, ev_intB, ev_absI, ev_lenL, ev_lenD, ev_lenT, ev_minI, ev_maxI, ev_tupL, ev_tupD, ev_tupT, ev_listD, ev_listT, ev_listL, ev_getL, ev_getD, ev_getT, atI_0, atI_1, atI_2, atI_3, atI_4, atI_end, ev_sz, ixN_0, ixN_1, ixN_2, ixN_3, ixN_4, put_0, put_s, List.map_cons, List.map_nil, List.replicate_succ, List.replicate_zero, List.cons_append, List.nil_append, List.length_cons, List.length_nil, List.set_cons_zero, List.set_cons_succ, List.getElem?_cons_zero, List.getElem?_cons_succ, Option.map_some, Option.map_none, frz_d, frz_l, frzs_n, frzs_c, frzs_map, frzs_ints, outs_z, outs_s, List.contains_cons, List.contains_nil, decide_eq_true_eq, beq_iff_eq, bne_iff_ne, if_true, if_false, Bool.false_eq_true, Bool.not_eq_true, Bool.or_false, Bool.or_true, Bool.not_true, Bool.not_false, Nat.reduceAdd, Nat.reduceSub, Nat.reduceLT, Nat.reduceLeDiff, Nat.reduceBEq, Nat.reduceEqDiff, Int.reduceLT, Int.reduceLE, Int.reduceEq, Int.reduceNeg, Int.reducePow, Int.reduceToNat, Nat.zero_add, and_self, and_true, true_and, reduceIte, ev_cutD, ev_cutT, ev_cutL, it_L, it_D, it_T, it_S, cast0, cast1, Int.add_zero, Int.zero_add, Bool.and_true, Bool.true_and, Bool.and_self, Bool.and_false, Bool.false_and]
  · simp only [fr, la, List.nil_append, Int.zero_mul, List.replicate_succ, List.map_cons]
theorem terms_ok {one : List Int} {c0 c1 : Int} (h0 : Sm c0) (h1 : Sm c1) (hl : one.length ≤ 1000) : (f_terms_product [.d (.list (one.map .int)), .d (.list [.int c0, .int c1])]).wp fun r => r = (.l ((lin c0 c1 one).map fI), [none, none]) := by
  unfold f_terms_product
  rw [wp_fn]
  unfold b_terms_product
  refine wpS_seqK fun K hK => ?_
  have e1 : ((one.map PyData.int).length : Int) + (([PyData.int c0, PyData.int c1].length : Nat) : Int) - 1 = ((one.length + 1 : Nat) : Int) := by simp; omega
  simp only [wpS_if, wpS_asg, wpS_asgs, wpS_ret, wpS_drop, wpS_skip, wpS_for, wpS_nx, wpS_rt, wp_bind, wp_ok, wp_of_some, eTest, eP, eB, eFr, eFrs, eMov, eFrz, eCons, eNil, eLend, eBin, eCmp, eCmpT, e2, eApp, eTupS, eLstS, eIx, tD, eUn, eTrue, eNotT, eIf, eCall, mCall, pb_nil, pb_none, pb_some, eApnd, eExtd, ePop, ePopAt, eAndT, eOrT, iP, iE, iOne, mVar, mD, mK, mBin, mCmp, mCmpT, mChainT, mOfT, tTrue, mTrue, mAnd, mOr, mNot, mAndT, mOrT, mNotT, mIf, mUn, mNil, mCons, mApp, mTupS, mLstS, mPart, mSlice, tInt, mSliceR, mItems, mItA, mMeth, isLs, isTp, isSt, sAug, sAugI, gNm, gIx, gIx2, gPat, gTwo, gThree, gsNil, gsCons, tg_nm, tg_tp, tgs_nil, tgs_cons, Option.bind_some, of_some, of_none, bind_ok, wp_ite, wpS_ite, ev_eqI, ev_neI, ev_ltI, ev_gtI, ev_leI, ev_geI, ev_addI, ev_iaddI, ev_subI, ev_negI, ev_divI, ev_modI, ev_intI, ev_intB, ev_absI, ev_lenL, ev_lenD, ev_lenT, ev_minI, ev_maxI, ev_tupL, ev_tupD, ev_tupT, ev_listD, ev_listT, ev_listL, ev_getL, ev_getD, ev_getT, atI_0, atI_1, atI_2, atI_3, atI_4, atI_end, ev_sz, ixN_0, ixN_1, ixN_2, ixN_3, ixN_4, put_0, put_s, List.map_cons, List.map_nil, List.replicate_succ, List.replicate_zero, List.cons_append, List.nil_append, List.length_cons, List.length_nil, List.set_cons_zero, List.set_cons_succ, List.getElem?_cons_zero, List.getElem?_cons_succ, Option.map_some, Option.map_none, frz_d, frz_l, frzs_n, frzs_c, frzs_map, frzs_ints, outs_z, outs_s, List.contains_cons, List.contains_nil, decide_eq_true_eq, beq_iff_eq, bne_iff_ne, if_true, if_false, Bool.false_eq_true, Bool.not_eq_true, Bool.or_false, Bool.or_true, Bool.not_true, Bool.not_false, Nat.reduceAdd, Nat.reduceSub, Nat.reduceLT, Nat.reduceLeDiff, Nat.reduceBEq, Nat.reduceEqDiff, Int.reduceLT, Int.reduceLE, Int.reduceEq, Int.reduceNeg, Int.reducePow, Int.reduceToNat, Nat.zero_add, and_self, and_true, true_and, reduceIte, ev_cutD, ev_cutT, ev_cutL, it_L, it_D, it_T, it_S, cast0, cast1, Int.add_zero, Int.zero_add, Bool.and_true, Bool.true_and, Bool.and_self, Bool.and_false, Bool.false_and] at e1 ⊢
  simp only [e1, mul_row (k := ((one.length + 1 : Nat) : Int)) (y := 0) (by omega) (by omega), Int.toNat_natCast, wpS_if, wpS_asg, wpS_asgs, wpS_ret, wpS_drop, wpS_skip, wpS_for, wpS_nx, wpS_rt, wp_bind, wp_ok, wp_of_some, eTest, eP, eB, eFr, eFrs, eMov, eFrz, eCons, eNil, eLend, eBin, eCmp, eCmpT, e2, eApp, eTupS, eLstS, eIx, tD, eUn, eTrue, eNotT, eIf, eCall, mCall, pb_nil, pb_none, pb_some, eApnd, eExtd, ePop, ePopAt, eAndT, eOrT, iP, iE, iOne, mVar, mD, mK, mBin, mCmp, mCmpT, mChainT, mOfT, tTrue, mTrue, mAnd, mOr, mNot, mAndT, mOrT, mNotT, mIf, mUn, mNil, mCons, mApp, mTupS, mLstS, mPart, mSlice, tInt, mSliceR, mItems, mItA, mMeth, isLs, isTp, isSt, sAug, sAugI, gNm, gIx, gIx2, gPat, gTwo, gThree, gsNil, gsCons, tg_nm, tg_tp, tgs_nil, tgs_cons, Option.bind_some, of_some, of_none, bind_ok, wp_ite, wpS_ite, ev_eqI, ev_neI, ev_ltI, ev_gtI, ev_leI, ev_geI, ev_addI, ev_iaddI, ev_subI, ev_negI, ev_divI, ev_modI, ev_intI, ev_intB, ev_absI, ev_lenL, ev_lenD, ev_lenT, ev_minI, ev_maxI, ev_tupL, ev_tupD, ev_tupT, ev_listD, ev_listT, ev_listL, ev_getL, ev_getD, ev_getT, atI_0, atI_1, atI_2, atI_3, atI_4, atI_end, ev_sz, ixN_0, ixN_1, ixN_2, ixN_3, ixN_4, put_0, put_s, List.map_cons, List.map_nil, List.replicate_succ, List.replicate_zero, List.cons_append, List.nil_append, List.length_cons, List.length_nil, List.set_cons_zero, List.set_cons_succ, List.getElem?_cons_zero, List.getElem?_cons_succ, Option.map_some, Option.map_none, frz_d, frz_l, frzs_n, frzs_c, frzs_map, frzs_ints, outs_z, outs_s, List.contains_cons, List.contains_nil, decide_eq_true_eq, beq_iff_eq, bne_iff_ne, if_true, if_false, Bool.false_eq_true, Bool.not_eq_true, Bool.or_false, Bool.or_true, Bool.not_true, Bool.not_false, Nat.reduceAdd, Nat.reduceSub, Nat.reduceLT, Nat.reduceLeDiff, Nat.reduceBEq, Nat.reduceEqDiff, Int.reduceLT, Int.reduceLE, Int.reduceEq, Int.reduceNeg, Int.reducePow, Int.reduceToNat, Nat.zero_add, and_self, and_true, true_and, reduceIte, ev_cutD, ev_cutT, ev_cutL, it_L, it_D, it_T, it_S, cast0, cast1, Int.add_zero, Int.zero_add, Bool.and_true, Bool.true_and, Bool.and_self, Bool.and_false, Bool.false_and]
  rw [hK]
  clear hK K
  refine wpS_seqK fun K hK => ?_
  simp only [itEnum, wpS_if, wpS_asg, wpS_asgs, wpS_ret, wpS_drop, wpS_skip, wpS_for, wpS_nx, wpS_rt, wp_bind, wp_ok, wp_of_some, eTest, eP, eB, eFr, eFrs, eMov, eFrz, eCons, eNil, eLend, eBin, eCmp, eCmpT, e2, eApp, eTupS, eLstS, eIx, tD, eUn, eTrue, eNotT, eIf, eCall, mCall, pb_nil, pb_none, pb_some, eApnd, eExtd, ePop, ePopAt, eAndT, eOrT, iP, iE, iOne, mVar, mD, mK, mBin, mCmp, mCmpT, mChainT, mOfT, tTrue, mTrue, mAnd, mOr, mNot, mAndT, mOrT, mNotT, mIf, mUn, mNil, mCons, mApp, mTupS, mLstS, mPart, mSlice, tInt, mSliceR, mItems, mItA, mMeth, isLs, isTp, isSt, sAug, sAugI, gNm, gIx, gIx2, gPat, gTwo, gThree, gsNil, gsCons, tg_nm, tg_tp, tgs_nil, tgs_cons, Option.bind_some, of_some, of_none, bind_ok, wp_ite, wpS_ite, ev_eqI, ev_neI, ev_ltI, ev_gtI, ev_leI, ev_geI, ev_addI, ev_iaddI, ev_subI, ev_negI, ev_divI, ev_modI, ev_intI, ev_intB, ev_absI, ev_lenL, ev_lenD, ev_lenT, ev_minI, ev_maxI, ev_tupL, ev_tupD, ev_tupT, ev_listD, ev_listT, ev_listL, ev_getL, ev_getD, ev_getT, atI_0, atI_1, atI_2, atI_3, atI_4, atI_end, ev_sz, ixN_0, ixN_1, ixN_2, ixN_3, ixN_4, put_0, put_s, List.map_cons, List.map_nil, List.replicate_succ, List.replicate_zero, List.cons_append, List.nil_append, List.length_cons, List.length_nil, List.set_cons_zero, List.set_cons_succ, List.getElem?_cons_zero, List.getElem?_cons_succ, Option.map_some, Option.map_none, frz_d, frz_l, frzs_n, frzs_c, frzs_map, frzs_ints, outs_z, outs_s, List.contains_cons, List.contains_nil, decide_eq_true_eq, beq_iff_eq, bne_iff_ne, if_true, if_false, Bool.false_eq_true, Bool.not_eq_true, Bool.or_false, Bool.or_true, Bool.not_true, Bool.not_false, Nat.reduceAdd, Nat.reduceSub, Nat.reduceLT, Nat.reduceLeDiff, Nat.reduceBEq, Nat.reduceEqDiff, Int.reduceLT, Int.reduceLE, Int.reduceEq, Int.reduceNeg, Int.reducePow, Int.reduceToNat, Nat.zero_add, and_self, and_true, true_and, reduceIte, ev_cutD, ev_cutT, ev_cutL, it_L, it_D, it_T, it_S, cast0, cast1, Int.add_zero, Int.zero_add, Bool.and_true, Bool.true_and, Bool.and_self, Bool.and_false, Bool.false_and]
  refine wpS_fE PyData.int (fun pre post e => ∃ w3 w4 w5 w6, e = [some (.d (.list (one.map .int))), some (.d (.list [.int c0, .int c1])), some (.l ((fr c0 c1 0 pre ++ la 0 pre * c1 :: List.replicate post.length 0).map fI)), w3, w4, w5, w6]) one ?_ ?_ one [] rfl ⟨none, none, none, none, ?_⟩
  · rintro pre x post e - ⟨w3, w4, w5, w6, rfl⟩
    have hA : ∀ {m : Nat}, (fr c0 c1 0 pre ++ la 0 pre * c1 :: 0 :: List.replicate m 0).length = pre.length + 2 + m := by intro m; simp [fr_len]; omega
    have hB : ∀ {m : Nat} {q : Int}, (fr c0 c1 0 pre ++ q :: 0 :: List.replicate m 0).length = pre.length + 2 + m := by intro m q; simp [fr_len]; omega
    have i0 : ∀ {m : Nat}, ixN (pre.length + 2 + m) pre.length = some pre.length := ix_A (by omega)
    have i1 : ∀ {m : Nat}, ixN (pre.length + 2 + m) (pre.length + 1) = some (pre.length + 1) := ix_A1 (by omega)
    have g0 : ∀ {q : Int} {R : List Int}, (fr c0 c1 0 pre ++ q :: R)[pre.length]? = some q := by intro q R; rw [List.getElem?_append_right (by simp [fr_len])]; simp [fr_len]
    have g1 : ∀ {q v : Int} {R : List Int}, (fr c0 c1 0 pre ++ v :: q :: R)[pre.length + 1]? = some q := by intro q v R; rw [List.getElem?_append_right (by simp [fr_len])]; simp [fr_len]
    simp only [wpS_seq, itEnum, List.replicate_succ, wpS_if, wpS_asg, wpS_asgs, wpS_ret, wpS_drop, wpS_skip, wpS_for, wpS_nx, wpS_rt, wp_bind, wp_ok, wp_of_some, eTest, eP, eB, eFr, eFrs, eMov, eFrz, eCons, eNil, eLend, eBin, eCmp, eCmpT, e2, eApp, eTupS, eLstS, eIx, tD, eUn, eTrue, eNotT, eIf, eCall, mCall, pb_nil, pb_none, pb_some, eApnd, eExtd, ePop, ePopAt, eAndT, eOrT, iP, iE, iOne, mVar, mD, mK, mBin, mCmp, mCmpT, mChainT, mOfT, tTrue, mTrue, mAnd, mOr, mNot, mAndT, mOrT, mNotT, mIf, mUn, mNil, mCons, mApp, mTupS, mLstS, mPart, mSlice, tInt, mSliceR, mItems, mItA, mMeth, isLs, isTp, isSt, sAug, sAugI, gNm, gIx, gIx2, gPat, gTwo, gThree, gsNil, gsCons, tg_nm, tg_tp, tgs_nil, tgs_cons, Option.bind_some, of_some, of_none, bind_ok, wp_ite, wpS_ite, ev_eqI, ev_neI, ev_ltI, ev_gtI, ev_leI, ev_geI, ev_addI, ev_iaddI, ev_subI, ev_negI, ev_divI, ev_modI, ev_intI, ev_intB, ev_absI, ev_lenL, ev_lenD, ev_lenT, ev_minI, ev_maxI, ev_tupL, ev_tupD, ev_tupT, ev_listD, ev_listT, ev_listL, ev_getL, ev_getD, ev_getT, atI_0, atI_1, atI_2, atI_3, atI_4, atI_end, ev_sz, ixN_0, ixN_1, ixN_2, ixN_3, ixN_4, put_0, put_s, List.map_cons, List.map_nil, List.replicate_succ, List.replicate_zero, List.cons_append, List.nil_append, List.length_cons, List.length_nil, List.set_cons_zero, List.set_cons_succ, List.getElem?_cons_zero, List.getElem?_cons_succ, Option.map_some, Option.map_none, frz_d, frz_l, frzs_n, frzs_c, frzs_map, frzs_ints, outs_z, outs_s, List.contains_cons, List.contains_nil, decide_eq_true_eq, beq_iff_eq, bne_iff_ne, if_true, if_false, Bool.false_eq_true, Bool.not_eq_true, Bool.or_false, Bool.or_true, Bool.not_true, Bool.not_false, Nat.reduceAdd, Nat.reduceSub, Nat.reduceLT, Nat.reduceLeDiff, Nat.reduceBEq, Nat.reduceEqDiff, Int.reduceLT, Int.reduceLE, Int.reduceEq, Int.reduceNeg, Int.reducePow, Int.reduceToNat, Nat.zero_add, and_self, and_true, true_and, reduceIte, ev_cutD, ev_cutT, ev_cutL, it_L, it_D, it_T, it_S, cast0, cast1, Int.add_zero, Int.zero_add, Bool.and_true, Bool.true_and, Bool.and_self, Bool.and_false, Bool.false_and, wpS_fn, wpS_fc, enumc, enumn, it_L, it_D, it_T]
    simp only [sAugI, wpS_if, wpS_asg, wpS_asgs, wpS_ret, wpS_drop, wpS_skip, wpS_for, wpS_nx, wpS_rt, wp_bind, wp_ok, wp_of_some, eTest, eP, eB, eFr, eFrs, eMov, eFrz, eCons, eNil, eLend, eBin, eCmp, eCmpT, e2, eApp, eTupS, eLstS, eIx, tD, eUn, eTrue, eNotT, eIf, eCall, mCall, pb_nil, pb_none, pb_some, eApnd, eExtd, ePop, ePopAt, eAndT, eOrT, iP, iE, iOne, mVar, mD, mK, mBin, mCmp, mCmpT, mChainT, mOfT, tTrue, mTrue, mAnd, mOr, mNot, mAndT, mOrT, mNotT, mIf, mUn, mNil, mCons, mApp, mTupS, mLstS, mPart, mSlice, tInt, mSliceR, mItems, mItA, mMeth, isLs, isTp, isSt, sAug, sAugI, gNm, gIx, gIx2, gPat, gTwo, gThree, gsNil, gsCons, tg_nm, tg_tp, tgs_nil, tgs_cons, Option.bind_some, of_some, of_none, bind_ok, wp_ite, wpS_ite, ev_eqI, ev_neI, ev_ltI, ev_gtI, ev_leI, ev_geI, ev_addI, ev_iaddI, ev_subI, ev_negI, ev_divI, ev_modI, ev_intI, ev_intB, ev_absI, ev_lenL, ev_lenD, ev_lenT, ev_minI, ev_maxI, ev_tupL, ev_tupD, ev_tupT, ev_listD, ev_listT, ev_listL, ev_getL, ev_getD, ev_getT, atI_0, atI_1, atI_2, atI_3, atI_4, atI_end, ev_sz, ixN_0, ixN_1, ixN_2, ixN_3, ixN_4, put_0, put_s, List.map_cons, List.map_nil, List.replicate_succ, List.replicate_zero, List.cons_append, List.nil_append, List.length_cons, List.length_nil, List.set_cons_zero, List.set_cons_succ, List.getElem?_cons_zero, List.getElem?_cons_succ, Option.map_some, Option.map_none, frz_d, frz_l, frzs_n, frzs_c, frzs_map, frzs_ints, outs_z, outs_s, List.contains_cons, List.contains_nil, decide_eq_true_eq, beq_iff_eq, bne_iff_ne, if_true, if_false, Bool.false_eq_true, Bool.not_eq_true, Bool.or_false, Bool.or_true, Bool.not_true, Bool.not_false, Nat.reduceAdd, Nat.reduceSub, Nat.reduceLT, Nat.reduceLeDiff, Nat.reduceBEq, Nat.reduceEqDiff, Int.reduceLT, Int.reduceLE, Int.reduceEq, Int.reduceNeg, Int.reducePow, Int.reduceToNat, Nat.zero_add, and_self, and_true, true_and, reduceIte, ev_cutD, ev_cutT, ev_cutL, it_L, it_D, it_T, it_S, cast0, cast1, Int.add_zero, Int.zero_add, Bool.and_true, Bool.true_and, Bool.and_self, Bool.and_false, Bool.false_and, wpS_fn, wpS_fc, enumc, enumn, it_L, it_D, it_T, atI_fI, at_A (fr_len 0 pre), at_A1 (fr_len 0 pre), List.getElem?_map, g0, g1, fI, ev_mulR h0, ev_mulR h1, List.length_map, hA, hB, i0, i1, set_fI, set_A (fr_len 0 pre), set_A1 (fr_len 0 pre), fr_snoc, la_snoc, List.append_assoc, wpS_if, wpS_asg, wpS_asgs, wpS_ret, wpS_drop, wpS_skip, wpS_for, wpS_nx, wpS_rt, wp_bind, wp_ok, wp_of_some, eTest, eP, eB, eFr, eFrs, eMov, eFrz, eCons, eNil, eLend, eBin, eCmp, eCmpT, e2, eApp, eTupS, eLstS, eIx, tD, eUn, eTrue, eNotT, eIf, eCall, mCall, pb_nil, pb_none, pb_some, eApnd, eExtd, ePop, ePopAt, eAndT, eOrT, iP, iE, iOne, mVar, mD, mK, mBin, mCmp, mCmpT, mChainT, mOfT, tTrue, mTrue, mAnd, mOr, mNot, mAndT, mOrT, mNotT, mIf, mUn, mNil, mCons, mApp, mTupS, mLstS, mPart, mSlice, tInt, mSliceR, mItems, mItA, mMeth, isLs, isTp, isSt, sAug, sAugI, gNm, gIx, gIx2, gPat, gTwo, gThree, gsNil, gsCons, tg_nm, tg_tp, tgs_nil, tgs_cons, Option.bind_some, of_some, of_none, bind_ok, wp_ite, wpS_ite, ev_eqI, ev_neI, ev_ltI, ev_gtI, ev_leI, ev_geI, ev_addI, ev_iaddI, ev_subI, ev_negI, ev_divI, ev_modI, ev_intI, ev_intB, ev_absI, ev_lenL, ev_lenD, ev_lenT, ev_minI, ev_maxI, ev_tupL, ev_tupD, ev_tupT, ev_listD, ev_listT, ev_listL, ev_getL, ev_getD, ev_getT, atI_0, atI_1, atI_2, atI_3, atI_4, atI_end, ev_sz, ixN_0, ixN_1, ixN_2, ixN_3, ixN_4, put_0, put_s, List.map_cons, List.map_nil, List.replicate_succ, List.replicate_zero, List.cons_append, List.nil_append, List.length_cons, List.length_nil, List.set_cons_zero, List.set_cons_succ, List.getElem?_cons_zero, List.getElem?_cons_succ, Option.map_some, Option.map_none, frz_d, frz_l, frzs_n, frzs_c, frzs_map, frzs_ints, outs_z, outs_s, List.contains_cons, List.contains_nil, decide_eq_true_eq, beq_iff_eq, bne_iff_ne, if_true, if_false, Bool.false_eq_true, Bool.not_eq_true, Bool.or_false, Bool.or_true, Bool.not_true, Bool.not_false, Nat.reduceAdd, Nat.reduceSub, Nat.reduceLT, Nat.reduceLeDiff, Nat.reduceBEq, Nat.reduceEqDiff, Int.reduceLT, Int.reduceLE, Int.reduceEq, Int.reduceNeg, Int.reducePow, Int.reduceToNat, Nat.zero_add, and_self, and_true, true_and, reduceIte, ev_cutD, ev_cutT, ev_cutL, it_L, it_D, it_T, it_S, cast0, cast1, Int.add_zero, Int.zero_add, Bool.and_true, Bool.true_and, Bool.and_self, Bool.and_false, Bool.false_and, wpS_fn, wpS_fc, enumc, enumn, it_L, it_D, it_T]
    exact ⟨_, _, _, _, rfl⟩
  · rintro e ⟨w3, w4, w5, w6, rfl⟩
    rw [hK]
    simp only [wpS_seq, lin, wpS_if, wpS_asg, wpS_asgs, wpS_ret, wpS_drop, wpS_skip, wpS_for, wpS_nx, wpS_rt, wp_bind, wp_ok, wp_of_some, eTest, eP, eB, eFr, eFrs, eMov, eFrz, eCons, eNil, eLend, eBin, eCmp, eCmpT, e2, eApp, eTupS, eLstS, eIx, tD, eUn, eTrue, eNotT, eIf, eCall, mCall, pb_nil, pb_none, pb_some, eApnd, eExtd, ePop, ePopAt, eAndT, eOrT, iP, iE, iOne, mVar, mD, mK, mBin, mCmp, mCmpT, mChainT, mOfT, tTrue, mTrue, mAnd, mOr, mNot, mAndT, mOrT, mNotT, mIf, mUn, mNil, mCons, mApp, mTupS, mLstS, mPart, mSlice, tInt, mSliceR, mItems, mItA, mMeth, isLs, isTp, isSt, sAug, sAugI, gNm, gIx, gIx2, gPat, gTwo, gThree, gsNil, gsCons, tg_nm, tg_tp, tgs_nil, tgs_cons, Option.bind_some, of_some, of_none, bind_ok, wp_ite, wpS_ite, ev_eqI, ev_neI, ev_ltI, ev_gtI, ev_leI, ev_geI, ev_addI, ev_iaddI, ev_subI, ev_negI, ev_divI, ev_modI, ev_intI, ev_intB, ev_absI, ev_lenL, ev_lenD, ev_lenT, ev_minI, ev_maxI, ev_tupL, ev_tupD, ev_tupT, ev_listD, ev_listT, ev_listL, ev_getL, ev_getD, ev_getT, atI_0, atI_1, atI_2, atI_3, atI_4, atI_end, ev_sz, ixN_0, ixN_1, ixN_2, ixN_3, ixN_4, put_0, put_s, List.map_cons, List.map_nil, List.replicate_succ, List.replicate_zero, List.cons_append, List.nil_append, List.length_cons, List.length_nil, List.set_cons_zero, List.set_cons_succ, List.getElem?_cons_zero, List.getElem?_cons_succ, Option.map_some, Option.map_none, frz_d, frz_l, frzs_n, frzs_c, frzs_map, frzs_ints, outs_z, outs_s, List.contains_cons, List.contains_nil, decide_eq_true_eq, beq_iff_eq, bne_iff_ne, if_true, if_false, Bool.false_eq_true, Bool.not_eq_true, Bool.or_false, Bool.or_true, Bool.not_true, Bool.not_false, Nat.reduceAdd, Nat.reduceSub, Nat.reduceLT, Nat.reduceLeDiff, Nat.reduceBEq, Nat.reduceEqDiff, Int.reduceLT, Int.reduceLE, Int.reduceEq, Int.reduceNeg, Int.reducePow, Int.reduceToNat, Nat.zero_add, and_self, and_true, true_and, reduceIte, ev_cutD, ev_cutT, ev_cutL, it_L, it_D, it_T, it_S, cast0, cast1, Int.add_zero, Int.zero_add, Bool.and_true, Bool.true_and, Bool.and_self, Bool.and_false, Bool.false_and]
  · simp only [fr, la, List.nil_append, Int.zero_mul, List.replicate_succ, List.map_cons]
theorem isint_ok {i : Int} : f_is_integer [.d (.int i)] = .ok (.d (.bool true), [none]) := rfl
theorem within_ok {i lo hi : Int} (h0 : lo ≤ i) (h1 : i ≤ hi) : f_is_within [.d (.int i), .d (.int lo), .d (.int hi)] = .ok (.d (.bool true), [none, none, none]) := by
  refine Rs.wp.eq ?_
  unfold f_is_within
  rw [wp_fn]
  unfold b_is_within
  simp only [wpS_seq, isint_ok, h0, h1, decide_true, wpS_if, wpS_asg, wpS_asgs, wpS_ret, wpS_drop, wpS_skip, wpS_for, wpS_nx, wpS_rt, wp_bind, wp_ok, wp_of_some, eTest, eP, eB, eFr, eFrs, eMov, eFrz, eCons, eNil, eLend, eBin, eCmp, eCmpT, e2, eApp, eTupS, eLstS, eIx, tD, eUn, eTrue, eNotT, eIf, eCall, mCall, pb_nil, pb_none, pb_some, eApnd, eExtd, ePop, ePopAt, eAndT, eOrT, iP, iE, iOne, mVar, mD, mK, mBin, mCmp, mCmpT, mChainT, mOfT, tTrue, mTrue, mAnd, mOr, mNot, mAndT, mOrT, mNotT, mIf, mUn, mNil, mCons, mApp, mTupS, mLstS, mPart, mSlice, tInt, mSliceR, mItems, mItA, mMeth, isLs, isTp, isSt, sAug, sAugI, gNm, gIx, gIx2, gPat, gTwo, gThree, gsNil, gsCons, tg_nm, tg_tp, tgs_nil, tgs_cons, Option.bind_some, of_some, of_none, bind_ok, wp_ite, wpS_ite, ev_eqI, ev_neI, ev_ltI, ev_gtI, ev_leI, ev_geI, ev_addI, ev_iaddI, ev_subI, ev_negI, ev_divI, ev_modI, ev_intI, ev_intB, ev_absI, ev_lenL, ev_lenD, ev_lenT, ev_minI, ev_maxI, ev_tupL, ev_tupD, ev_tupT, ev_listD, ev_listT, ev_listL, ev_getL, ev_getD, ev_getT, atI_0, atI_1, atI_2, atI_3, atI_4, atI_end, ev_sz, ixN_0, ixN_1, ixN_2, ixN_3, ixN_4, put_0, put_s, List.map_cons, List.map_nil, List.replicate_succ, List.replicate_zero, List.cons_append, List.nil_append, List.length_cons, List.length_nil, List.set_cons_zero, List.set_cons_succ, List.getElem?_cons_zero, List.getElem?_cons_succ, Option.map_some, Option.map_none, frz_d, frz_l, frzs_n, frzs_c, frzs_map, frzs_ints, outs_z, outs_s, List.contains_cons, List.contains_nil, decide_eq_true_eq, beq_iff_eq, bne_iff_ne, if_true, if_false, Bool.false_eq_true, Bool.not_eq_true, Bool.or_false, Bool.or_true, Bool.not_true, Bool.not_false, Nat.reduceAdd, Nat.reduceSub, Nat.reduceLT, Nat.reduceLeDiff, Nat.reduceBEq, Nat.reduceEqDiff, Int.reduceLT, Int.reduceLE, Int.reduceEq, Int.reduceNeg, Int.reducePow, Int.reduceToNat, Nat.zero_add, and_self, and_true, true_and, reduceIte, ev_cutD, ev_cutT, ev_cutL, it_L, it_D, it_T, it_S, cast0, cast1, Int.add_zero, Int.zero_add, Bool.and_true, Bool.true_and, Bool.and_self, Bool.and_false, Bool.false_and]
theorem getLast_at {ns : List Int} (h : ns ≠ []) : L2.atI (ns.map PyData.int) (-1) = some (.int (ns.getLast h)) := by
  conv => lhs; rw [← List.dropLast_concat_getLast h]
  rw [List.map_append]
  exact Mi.atI_end
theorem checkpoly_ok {ns : List Int} (h : ns ≠ []) (hl : ns.length ≤ 40) (hz : ns.getLast h ≠ 0) (hb : ∀ x ∈ ns, -1000000000000000000000000000000 < x ∧ x < 1000000000000000000000000000000) : f_check_poly [.d (.tuple (ns.map .int))] = .ok (.d .none, [none]) := by
  have h0 : 0 < ns.length := List.length_pos_iff.mpr h
  have hp : f_is_poly [.d (.tuple (ns.map .int))] = .ok (.d (.bool true), [none]) := by
    refine Rs.wp.eq ?_
    unfold f_is_poly
    rw [wp_fn]
    unfold b_is_poly
    have l1 : lcGo (.nm 1) mYes (mCall f_is_integer (mCons (mD (mVar 1)) mNil)) [some (.d (.tuple (ns.map .int))), none] (ns.map .int) = .ok (ns.map fun _ => .d (.bool true)) := lcMa _ _ _ fun x hx => by simp only [isint_ok, wpS_if, wpS_asg, wpS_asgs, wpS_ret, wpS_drop, wpS_skip, wpS_for, wpS_nx, wpS_rt, wp_bind, wp_ok, wp_of_some, eTest, eP, eB, eFr, eFrs, eMov, eFrz, eCons, eNil, eLend, eBin, eCmp, eCmpT, e2, eApp, eTupS, eLstS, eIx, tD, eUn, eTrue, eNotT, eIf, eCall, mCall, pb_nil, pb_none, pb_some, eApnd, eExtd, ePop, ePopAt, eAndT, eOrT, iP, iE, iOne, mVar, mD, mK, mBin, mCmp, mCmpT, mChainT, mOfT, tTrue, mTrue, mAnd, mOr, mNot, mAndT, mOrT, mNotT, mIf, mUn, mNil, mCons, mApp, mTupS, mLstS, mPart, mSlice, tInt, mSliceR, mItems, mItA, mMeth, isLs, isTp, isSt, sAug, sAugI, gNm, gIx, gIx2, gPat, gTwo, gThree, gsNil, gsCons, tg_nm, tg_tp, tgs_nil, tgs_cons, Option.bind_some, of_some, of_none, bind_ok, wp_ite, wpS_ite, ev_eqI, ev_neI, ev_ltI, ev_gtI, ev_leI, ev_geI, ev_addI, ev_iaddI, ev_subI, ev_negI, ev_divI, ev_modI, ev_intI, ev_intB, ev_absI, ev_lenL, ev_lenD, ev_lenT, ev_minI, ev_maxI, ev_tupL, ev_tupD, ev_tupT, ev_listD, ev_listT, ev_listL, ev_getL, ev_getD, ev_getT, atI_0, atI_1, atI_2, atI_3, atI_4, atI_end, ev_sz, ixN_0, ixN_1, ixN_2, ixN_3, ixN_4, put_0, put_s, List.map_cons, List.map_nil, List.replicate_succ, List.replicate_zero, List.cons_append, List.nil_append, List.length_cons, List.length_nil, List.set_cons_zero, List.set_cons_succ, List.getElem?_cons_zero, List.getElem?_cons_succ, Option.map_some, Option.map_none, frz_d, frz_l, frzs_n, frzs_c, frzs_map, frzs_ints, outs_z, outs_s, List.contains_cons, List.contains_nil, decide_eq_true_eq, beq_iff_eq, bne_iff_ne, if_true, if_false, Bool.false_eq_true, Bool.not_eq_true, Bool.or_false, Bool.or_true, Bool.not_true, Bool.not_false, Nat.reduceAdd, Nat.reduceSub, Nat.reduceLT, Nat.reduceLeDiff, Nat.reduceBEq, Nat.reduceEqDiff, Int.reduceLT, Int.reduceLE, Int.reduceEq, Int.reduceNeg, Int.reducePow, Int.reduceToNat, Nat.zero_add, and_self, and_true, true_and, reduceIte, ev_cutD, ev_cutT, ev_cutL, it_L, it_D, it_T, it_S, cast0, cast1, Int.add_zero, Int.zero_add, Bool.and_true, Bool.true_and, Bool.and_self, Bool.and_false, Bool.false_and]
    have l2 : lcGo (.nm 1) mYes (mCmp cGe (mApp bAbs (mCons (mVar 1) mNil)) (mK (.int 1000000000000000000000000000000))) [some (.d (.tuple (ns.map .int))), none] (ns.map .int) = .ok (ns.map fun i => .d (.bool (decide (1000000000000000000000000000000 ≤ (if i < 0 then -i else i))))) := lcMa _ _ _ fun x hx => by simp only [wpS_if, wpS_asg, wpS_asgs, wpS_ret, wpS_drop, wpS_skip, wpS_for, wpS_nx, wpS_rt, wp_bind, wp_ok, wp_of_some, eTest, eP, eB, eFr, eFrs, eMov, eFrz, eCons, eNil, eLend, eBin, eCmp, eCmpT, e2, eApp, eTupS, eLstS, eIx, tD, eUn, eTrue, eNotT, eIf, eCall, mCall, pb_nil, pb_none, pb_some, eApnd, eExtd, ePop, ePopAt, eAndT, eOrT, iP, iE, iOne, mVar, mD, mK, mBin, mCmp, mCmpT, mChainT, mOfT, tTrue, mTrue, mAnd, mOr, mNot, mAndT, mOrT, mNotT, mIf, mUn, mNil, mCons, mApp, mTupS, mLstS, mPart, mSlice, tInt, mSliceR, mItems, mItA, mMeth, isLs, isTp, isSt, sAug, sAugI, gNm, gIx, gIx2, gPat, gTwo, gThree, gsNil, gsCons, tg_nm, tg_tp, tgs_nil, tgs_cons, Option.bind_some, of_some, of_none, bind_ok, wp_ite, wpS_ite, ev_eqI, ev_neI, ev_ltI, ev_gtI, ev_leI, ev_geI, ev_addI, ev_iaddI, ev_subI, ev_negI, ev_divI, ev_modI, ev_intI, ev_intB, ev_absI, ev_lenL, ev_lenD, ev_lenT, ev_minI, ev_maxI, ev_tupL, ev_tupD, ev_tupT, ev_listD, ev_listT, ev_listL, ev_getL, ev_getD, ev_getT, atI_0, atI_1, atI_2, atI_3, atI_4, atI_end, ev_sz, ixN_0, ixN_1, ixN_2, ixN_3, ixN_4, put_0, put_s, List.map_cons, List.map_nil, List.replicate_succ, List.replicate_zero, List.cons_append, List.nil_append, List.length_cons, List.length_nil, List.set_cons_zero, List.set_cons_succ, List.getElem?_cons_zero, List.getElem?_cons_succ, Option.map_some, Option.map_none, frz_d, frz_l, frzs_n, frzs_c, frzs_map, frzs_ints, outs_z, outs_s, List.contains_cons, List.contains_nil, decide_eq_true_eq, beq_iff_eq, bne_iff_ne, if_true, if_false, Bool.false_eq_true, Bool.not_eq_true, Bool.or_false, Bool.or_true, Bool.not_true, Bool.not_false, Nat.reduceAdd, Nat.reduceSub, Nat.reduceLT, Nat.reduceLeDiff, Nat.reduceBEq, Nat.reduceEqDiff, Int.reduceLT, Int.reduceLE, Int.reduceEq, Int.reduceNeg, Int.reducePow, Int.reduceToNat, Nat.zero_add, and_self, and_true, true_and, reduceIte, ev_cutD, ev_cutT, ev_cutL, it_L, it_D, it_T, it_S, cast0, cast1, Int.add_zero, Int.zero_add, Bool.and_true, Bool.true_and, Bool.and_self, Bool.and_false, Bool.false_and]
    have l3 : (ns.any fun i => decide (1000000000000000000000000000000 ≤ (if i < 0 then -i else i))) = false := by
      rw [List.any_eq_false]
      intro x hx
      have := hb x hx
      rw [decide_eq_true_eq]
      split <;> omega
    have b1 : (1 : Int) ≤ ns.length := by omega
    have b2 : (ns.length : Int) ≤ 40 := by omega
    have b3 : ns.length ≤ 16777216 := by omega
    simp only [wpS_seq, mLc, mIsa, PyData.isTuple, wipeE, List.length_map, b1, b2, b3, l1, l2, l3, getLast_at h, hz, all_of (fun _ => true), any_of (fun i : Int => decide (1000000000000000000000000000000 ≤ (if i < 0 then -i else i))), decide_true, wpS_if, wpS_asg, wpS_asgs, wpS_ret, wpS_drop, wpS_skip, wpS_for, wpS_nx, wpS_rt, wp_bind, wp_ok, wp_of_some, eTest, eP, eB, eFr, eFrs, eMov, eFrz, eCons, eNil, eLend, eBin, eCmp, eCmpT, e2, eApp, eTupS, eLstS, eIx, tD, eUn, eTrue, eNotT, eIf, eCall, mCall, pb_nil, pb_none, pb_some, eApnd, eExtd, ePop, ePopAt, eAndT, eOrT, iP, iE, iOne, mVar, mD, mK, mBin, mCmp, mCmpT, mChainT, mOfT, tTrue, mTrue, mAnd, mOr, mNot, mAndT, mOrT, mNotT, mIf, mUn, mNil, mCons, mApp, mTupS, mLstS, mPart, mSlice, tInt, mSliceR, mItems, mItA, mMeth, isLs, isTp, isSt, sAug, sAugI, gNm, gIx, gIx2, gPat, gTwo, gThree, gsNil, gsCons, tg_nm, tg_tp, tgs_nil, tgs_cons, Option.bind_some, of_some, of_none, bind_ok, wp_ite, wpS_ite, ev_eqI, ev_neI, ev_ltI, ev_gtI, ev_leI, ev_geI, ev_addI, ev_iaddI, ev_subI, ev_negI, ev_divI, ev_modI, ev_intI, ev_intB, ev_absI, ev_lenL, ev_lenD, ev_lenT, ev_minI, ev_maxI, ev_tupL, ev_tupD, ev_tupT, ev_listD, ev_listT, ev_listL, ev_getL, ev_getD, ev_getT, atI_0, atI_1, atI_2, atI_3, atI_4, atI_end, ev_sz, ixN_0, ixN_1, ixN_2, ixN_3, ixN_4, put_0, put_s, List.map_cons, List.map_nil, List.replicate_succ, List.replicate_zero, List.cons_append, List.nil_append, List.length_cons, List.length_nil, List.set_cons_zero, List.set_cons_succ, List.getElem?_cons_zero, List.getElem?_cons_succ, Option.map_some, Option.map_none, frz_d, frz_l, frzs_n, frzs_c, frzs_map, frzs_ints, outs_z, outs_s, List.contains_cons, List.contains_nil, decide_eq_true_eq, beq_iff_eq, bne_iff_ne, if_true, if_false, Bool.false_eq_true, Bool.not_eq_true, Bool.or_false, Bool.or_true, Bool.not_true, Bool.not_false, Nat.reduceAdd, Nat.reduceSub, Nat.reduceLT, Nat.reduceLeDiff, Nat.reduceBEq, Nat.reduceEqDiff, Int.reduceLT, Int.reduceLE, Int.reduceEq, Int.reduceNeg, Int.reducePow, Int.reduceToNat, Nat.zero_add, and_self, and_true, true_and, reduceIte, ev_cutD, ev_cutT, ev_cutL, it_L, it_D, it_T, it_S, cast0, cast1, Int.add_zero, Int.zero_add, Bool.and_true, Bool.true_and, Bool.and_self, Bool.and_false, Bool.false_and]
    rw [show (ns.all fun _ => true) = true by rw [List.all_eq_true]; intros; rfl]
    simp only [hz, ne_eq, not_false_eq_true, wpS_if, wpS_asg, wpS_asgs, wpS_ret, wpS_drop, wpS_skip, wpS_for, wpS_nx, wpS_rt, wp_bind, wp_ok, wp_of_some, eTest, eP, eB, eFr, eFrs, eMov, eFrz, eCons, eNil, eLend, eBin, eCmp, eCmpT, e2, eApp, eTupS, eLstS, eIx, tD, eUn, eTrue, eNotT, eIf, eCall, mCall, pb_nil, pb_none, pb_some, eApnd, eExtd, ePop, ePopAt, eAndT, eOrT, iP, iE, iOne, mVar, mD, mK, mBin, mCmp, mCmpT, mChainT, mOfT, tTrue, mTrue, mAnd, mOr, mNot, mAndT, mOrT, mNotT, mIf, mUn, mNil, mCons, mApp, mTupS, mLstS, mPart, mSlice, tInt, mSliceR, mItems, mItA, mMeth, isLs, isTp, isSt, sAug, sAugI, gNm, gIx, gIx2, gPat, gTwo, gThree, gsNil, gsCons, tg_nm, tg_tp, tgs_nil, tgs_cons, Option.bind_some, of_some, of_none, bind_ok, wp_ite, wpS_ite, ev_eqI, ev_neI, ev_ltI, ev_gtI, ev_leI, ev_geI, ev_addI, ev_iaddI, ev_subI, ev_negI, ev_divI, ev_modI, ev_intI, ev_intB, ev_absI, ev_lenL, ev_lenD, ev_lenT, ev_minI, ev_maxI, ev_tupL, ev_tupD, ev_tupT, ev_listD, ev_listT, ev_listL, ev_getL, ev_getD, ev_getT, atI_0, atI_1, atI_2, atI_3, atI_4, atI_end, ev_sz, ixN_0, ixN_1, ixN_2, ixN_3, ixN_4, put_0, put_s, List.map_cons, List.map_nil, List.replicate_succ, List.replicate_zero, List.cons_append, List.nil_append, List.length_cons, List.length_nil, List.set_cons_zero, List.set_cons_succ, List.getElem?_cons_zero, List.getElem?_cons_succ, Option.map_some, Option.map_none, frz_d, frz_l, frzs_n, frzs_c, frzs_map, frzs_ints, outs_z, outs_s, List.contains_cons, List.contains_nil, decide_eq_true_eq, beq_iff_eq, bne_iff_ne, if_true, if_false, Bool.false_eq_true, Bool.not_eq_true, Bool.or_false, Bool.or_true, Bool.not_true, Bool.not_false, Nat.reduceAdd, Nat.reduceSub, Nat.reduceLT, Nat.reduceLeDiff, Nat.reduceBEq, Nat.reduceEqDiff, Int.reduceLT, Int.reduceLE, Int.reduceEq, Int.reduceNeg, Int.reducePow, Int.reduceToNat, Nat.zero_add, and_self, and_true, true_and, reduceIte, ev_cutD, ev_cutT, ev_cutL, it_L, it_D, it_T, it_S, cast0, cast1, Int.add_zero, Int.zero_add, Bool.and_true, Bool.true_and, Bool.and_self, Bool.and_false, Bool.false_and]
  refine Rs.wp.eq ?_
  unfold f_check_poly
  rw [wp_fn]
  unfold b_check_poly
  simp only [wpS_seq, hp, wpS_if, wpS_asg, wpS_asgs, wpS_ret, wpS_drop, wpS_skip, wpS_for, wpS_nx, wpS_rt, wp_bind, wp_ok, wp_of_some, eTest, eP, eB, eFr, eFrs, eMov, eFrz, eCons, eNil, eLend, eBin, eCmp, eCmpT, e2, eApp, eTupS, eLstS, eIx, tD, eUn, eTrue, eNotT, eIf, eCall, mCall, pb_nil, pb_none, pb_some, eApnd, eExtd, ePop, ePopAt, eAndT, eOrT, iP, iE, iOne, mVar, mD, mK, mBin, mCmp, mCmpT, mChainT, mOfT, tTrue, mTrue, mAnd, mOr, mNot, mAndT, mOrT, mNotT, mIf, mUn, mNil, mCons, mApp, mTupS, mLstS, mPart, mSlice, tInt, mSliceR, mItems, mItA, mMeth, isLs, isTp, isSt, sAug, sAugI, gNm, gIx, gIx2, gPat, gTwo, gThree, gsNil, gsCons, tg_nm, tg_tp, tgs_nil, tgs_cons, Option.bind_some, of_some, of_none, bind_ok, wp_ite, wpS_ite, ev_eqI, ev_neI, ev_ltI, ev_gtI, ev_leI, ev_geI, ev_addI, ev_iaddI, ev_subI, ev_negI, ev_divI, ev_modI, ev_intI, ev_intB, ev_absI, ev_lenL, ev_lenD, ev_lenT, ev_minI, ev_maxI, ev_tupL, ev_tupD, ev_tupT, ev_listD, ev_listT, ev_listL, ev_getL, ev_getD, ev_getT, atI_0, atI_1, atI_2, atI_3, atI_4, atI_end, ev_sz, ixN_0, ixN_1, ixN_2, ixN_3, ixN_4, put_0, put_s, List.map_cons, List.map_nil, List.replicate_succ, List.replicate_zero, List.cons_append, List.nil_append, List.length_cons, List.length_nil, List.set_cons_zero, List.set_cons_succ, List.getElem?_cons_zero, List.getElem?_cons_succ, Option.map_some, Option.map_none, frz_d, frz_l, frzs_n, frzs_c, frzs_map, frzs_ints, outs_z, outs_s, List.contains_cons, List.contains_nil, decide_eq_true_eq, beq_iff_eq, bne_iff_ne, if_true, if_false, Bool.false_eq_true, Bool.not_eq_true, Bool.or_false, Bool.or_true, Bool.not_true, Bool.not_false, Nat.reduceAdd, Nat.reduceSub, Nat.reduceLT, Nat.reduceLeDiff, Nat.reduceBEq, Nat.reduceEqDiff, Int.reduceLT, Int.reduceLE, Int.reduceEq, Int.reduceNeg, Int.reducePow, Int.reduceToNat, Nat.zero_add, and_self, and_true, true_and, reduceIte, ev_cutD, ev_cutT, ev_cutL, it_L, it_D, it_T, it_S, cast0, cast1, Int.add_zero, Int.zero_add, Bool.and_true, Bool.true_and, Bool.and_self, Bool.and_false, Bool.false_and]
/-! ### trimmed, turned_about -/
theorem at_last {α : Type} {ns : List α} {y : α} : L2.atI (ns ++ [y]) (-1) = some y := Mi.atI_end
theorem trimmed_ok {L : List Int} {y : Int} (hy : y ≠ 0) (k : Nat) (hk : k < 1000) (hl : L.length < 1000) : f_trimmed [.d (.list ((L ++ [y] ++ List.replicate k 0).map .int))] = .ok (.d (.tuple ((L ++ [y]).map .int)), [none]) := by
  refine Rs.wp.eq ?_
  unfold f_trimmed
  rw [wp_fn]
  unfold b_trimmed
  refine wpS_seqK fun K hK => ?_
  simp only [map_fI, wpS_if, wpS_asg, wpS_asgs, wpS_ret, wpS_drop, wpS_skip, wpS_for, wpS_nx, wpS_rt, wp_bind, wp_ok, wp_of_some, eTest, eP, eB, eFr, eFrs, eMov, eFrz, eCons, eNil, eLend, eBin, eCmp, eCmpT, e2, eApp, eTupS, eLstS, eIx, tD, eUn, eTrue, eNotT, eIf, eCall, mCall, pb_nil, pb_none, pb_some, eApnd, eExtd, ePop, ePopAt, eAndT, eOrT, iP, iE, iOne, mVar, mD, mK, mBin, mCmp, mCmpT, mChainT, mOfT, tTrue, mTrue, mAnd, mOr, mNot, mAndT, mOrT, mNotT, mIf, mUn, mNil, mCons, mApp, mTupS, mLstS, mPart, mSlice, tInt, mSliceR, mItems, mItA, mMeth, isLs, isTp, isSt, sAug, sAugI, gNm, gIx, gIx2, gPat, gTwo, gThree, gsNil, gsCons, tg_nm, tg_tp, tgs_nil, tgs_cons, Option.bind_some, of_some, of_none, bind_ok, wp_ite, wpS_ite, ev_eqI, ev_neI, ev_ltI, ev_gtI, ev_leI, ev_geI, ev_addI, ev_iaddI, ev_subI, ev_negI, ev_divI, ev_modI, ev_intI, ev_intB, ev_absI, ev_lenL, ev_lenD, ev_lenT, ev_minI, ev_maxI, ev_tupL, ev_tupD, ev_tupT, ev_listD, ev_listT, ev_listL, ev_getL, ev_getD, ev_getT, atI_0, atI_1, atI_2, atI_3, atI_4, atI_end, ev_sz, ixN_0, ixN_1, ixN_2, ixN_3, ixN_4, put_0, put_s, List.map_cons, List.map_nil, List.replicate_succ, List.replicate_zero, List.cons_append, List.nil_append, List.length_cons, List.length_nil, List.set_cons_zero, List.set_cons_succ, List.getElem?_cons_zero, List.getElem?_cons_succ, Option.map_some, Option.map_none, frz_d, frz_l, frzs_n, frzs_c, frzs_map, frzs_ints, outs_z, outs_s, List.contains_cons, List.contains_nil, decide_eq_true_eq, beq_iff_eq, bne_iff_ne, if_true, if_false, Bool.false_eq_true, Bool.not_eq_true, Bool.or_false, Bool.or_true, Bool.not_true, Bool.not_false, Nat.reduceAdd, Nat.reduceSub, Nat.reduceLT, Nat.reduceLeDiff, Nat.reduceBEq, Nat.reduceEqDiff, Int.reduceLT, Int.reduceLE, Int.reduceEq, Int.reduceNeg, Int.reducePow, Int.reduceToNat, Nat.zero_add, and_self, and_true, true_and, reduceIte, ev_cutD, ev_cutT, ev_cutL, it_L, it_D, it_T, it_S, cast0, cast1, Int.add_zero, Int.zero_add, Bool.and_true, Bool.true_and, Bool.and_self, Bool.and_false, Bool.false_and]
  rw [hK]
  clear hK K
  refine wpS_seqK fun K hK => ?_
  refine wpS_while (fun j e => ∃ d, e = [some (.d d), some (.l ((L ++ [y] ++ List.replicate j 0).map fI))]) k (by omega) ⟨_, rfl⟩ ?_
  rintro j e ⟨d, rfl⟩
  cases j with
  | zero =>
    have e1 : L2.atI (L ++ [y]) (-1) = some y := at_last
    simp only [List.replicate_zero, List.append_nil, atI_fI, e1, fI, hy, wpS_if, wpS_asg, wpS_asgs, wpS_ret, wpS_drop, wpS_skip, wpS_for, wpS_nx, wpS_rt, wp_bind, wp_ok, wp_of_some, eTest, eP, eB, eFr, eFrs, eMov, eFrz, eCons, eNil, eLend, eBin, eCmp, eCmpT, e2, eApp, eTupS, eLstS, eIx, tD, eUn, eTrue, eNotT, eIf, eCall, mCall, pb_nil, pb_none, pb_some, eApnd, eExtd, ePop, ePopAt, eAndT, eOrT, iP, iE, iOne, mVar, mD, mK, mBin, mCmp, mCmpT, mChainT, mOfT, tTrue, mTrue, mAnd, mOr, mNot, mAndT, mOrT, mNotT, mIf, mUn, mNil, mCons, mApp, mTupS, mLstS, mPart, mSlice, tInt, mSliceR, mItems, mItA, mMeth, isLs, isTp, isSt, sAug, sAugI, gNm, gIx, gIx2, gPat, gTwo, gThree, gsNil, gsCons, tg_nm, tg_tp, tgs_nil, tgs_cons, Option.bind_some, of_some, of_none, bind_ok, wp_ite, wpS_ite, ev_eqI, ev_neI, ev_ltI, ev_gtI, ev_leI, ev_geI, ev_addI, ev_iaddI, ev_subI, ev_negI, ev_divI, ev_modI, ev_intI, ev_intB, ev_absI, ev_lenL, ev_lenD, ev_lenT, ev_minI, ev_maxI, ev_tupL, ev_tupD, ev_tupT, ev_listD, ev_listT, ev_listL, ev_getL, ev_getD, ev_getT, atI_0, atI_1, atI_2, atI_3, atI_4, atI_end, ev_sz, ixN_0, ixN_1, ixN_2, ixN_3, ixN_4, put_0, put_s, List.map_cons, List.map_nil, List.replicate_succ, List.replicate_zero, List.cons_append, List.nil_append, List.length_cons, List.length_nil, List.set_cons_zero, List.set_cons_succ, List.getElem?_cons_zero, List.getElem?_cons_succ, Option.map_some, Option.map_none, frz_d, frz_l, frzs_n, frzs_c, frzs_map, frzs_ints, outs_z, outs_s, List.contains_cons, List.contains_nil, decide_eq_true_eq, beq_iff_eq, bne_iff_ne, if_true, if_false, Bool.false_eq_true, Bool.not_eq_true, Bool.or_false, Bool.or_true, Bool.not_true, Bool.not_false, Nat.reduceAdd, Nat.reduceSub, Nat.reduceLT, Nat.reduceLeDiff, Nat.reduceBEq, Nat.reduceEqDiff, Int.reduceLT, Int.reduceLE, Int.reduceEq, Int.reduceNeg, Int.reducePow, Int.reduceToNat, Nat.zero_add, and_self, and_true, true_and, reduceIte, ev_cutD, ev_cutT, ev_cutL, it_L, it_D, it_T, it_S, cast0, cast1, Int.add_zero, Int.zero_add, Bool.and_true, Bool.true_and, Bool.and_self, Bool.and_false, Bool.false_and]
    by_cases h1 : (1 : Int) < ((L ++ [y]).map fI).length
    · simp only [h1, wpS_if, wpS_asg, wpS_asgs, wpS_ret, wpS_drop, wpS_skip, wpS_for, wpS_nx, wpS_rt, wp_bind, wp_ok, wp_of_some, eTest, eP, eB, eFr, eFrs, eMov, eFrz, eCons, eNil, eLend, eBin, eCmp, eCmpT, e2, eApp, eTupS, eLstS, eIx, tD, eUn, eTrue, eNotT, eIf, eCall, mCall, pb_nil, pb_none, pb_some, eApnd, eExtd, ePop, ePopAt, eAndT, eOrT, iP, iE, iOne, mVar, mD, mK, mBin, mCmp, mCmpT, mChainT, mOfT, tTrue, mTrue, mAnd, mOr, mNot, mAndT, mOrT, mNotT, mIf, mUn, mNil, mCons, mApp, mTupS, mLstS, mPart, mSlice, tInt, mSliceR, mItems, mItA, mMeth, isLs, isTp, isSt, sAug, sAugI, gNm, gIx, gIx2, gPat, gTwo, gThree, gsNil, gsCons, tg_nm, tg_tp, tgs_nil, tgs_cons, Option.bind_some, of_some, of_none, bind_ok, wp_ite, wpS_ite, ev_eqI, ev_neI, ev_ltI, ev_gtI, ev_leI, ev_geI, ev_addI, ev_iaddI, ev_subI, ev_negI, ev_divI, ev_modI, ev_intI, ev_intB, ev_absI, ev_lenL, ev_lenD, ev_lenT, ev_minI, ev_maxI, ev_tupL, ev_tupD, ev_tupT, ev_listD, ev_listT, ev_listL, ev_getL, ev_getD, ev_getT, atI_0, atI_1, atI_2, atI_3, atI_4, atI_end, ev_sz, ixN_0, ixN_1, ixN_2, ixN_3, ixN_4, put_0, put_s, List.map_cons, List.map_nil, List.replicate_succ, List.replicate_zero, List.cons_append, List.nil_append, List.length_cons, List.length_nil, List.set_cons_zero, List.set_cons_succ, List.getElem?_cons_zero, List.getElem?_cons_succ, Option.map_some, Option.map_none, frz_d, frz_l, frzs_n, frzs_c, frzs_map, frzs_ints, outs_z, outs_s, List.contains_cons, List.contains_nil, decide_eq_true_eq, beq_iff_eq, bne_iff_ne, if_true, if_false, Bool.false_eq_true, Bool.not_eq_true, Bool.or_false, Bool.or_true, Bool.not_true, Bool.not_false, Nat.reduceAdd, Nat.reduceSub, Nat.reduceLT, Nat.reduceLeDiff, Nat.reduceBEq, Nat.reduceEqDiff, Int.reduceLT, Int.reduceLE, Int.reduceEq, Int.reduceNeg, Int.reducePow, Int.reduceToNat, Nat.zero_add, and_self, and_true, true_and, reduceIte, ev_cutD, ev_cutT, ev_cutL, it_L, it_D, it_T, it_S, cast0, cast1, Int.add_zero, Int.zero_add, Bool.and_true, Bool.true_and, Bool.and_self, Bool.and_false, Bool.false_and]
      rw [hK]
      clear hK K
      simp only [wpS_seq, ← map_fI, wpS_if, wpS_asg, wpS_asgs, wpS_ret, wpS_drop, wpS_skip, wpS_for, wpS_nx, wpS_rt, wp_bind, wp_ok, wp_of_some, eTest, eP, eB, eFr, eFrs, eMov, eFrz, eCons, eNil, eLend, eBin, eCmp, eCmpT, e2, eApp, eTupS, eLstS, eIx, tD, eUn, eTrue, eNotT, eIf, eCall, mCall, pb_nil, pb_none, pb_some, eApnd, eExtd, ePop, ePopAt, eAndT, eOrT, iP, iE, iOne, mVar, mD, mK, mBin, mCmp, mCmpT, mChainT, mOfT, tTrue, mTrue, mAnd, mOr, mNot, mAndT, mOrT, mNotT, mIf, mUn, mNil, mCons, mApp, mTupS, mLstS, mPart, mSlice, tInt, mSliceR, mItems, mItA, mMeth, isLs, isTp, isSt, sAug, sAugI, gNm, gIx, gIx2, gPat, gTwo, gThree, gsNil, gsCons, tg_nm, tg_tp, tgs_nil, tgs_cons, Option.bind_some, of_some, of_none, bind_ok, wp_ite, wpS_ite, ev_eqI, ev_neI, ev_ltI, ev_gtI, ev_leI, ev_geI, ev_addI, ev_iaddI, ev_subI, ev_negI, ev_divI, ev_modI, ev_intI, ev_intB, ev_absI, ev_lenL, ev_lenD, ev_lenT, ev_minI, ev_maxI, ev_tupL, ev_tupD, ev_tupT, ev_listD, ev_listT, ev_listL, ev_getL, ev_getD, ev_getT, atI_0, atI_1, atI_2, atI_3, atI_4, atI_end, ev_sz, ixN_0, ixN_1, ixN_2, ixN_3, ixN_4, put_0, put_s, List.map_cons, List.map_nil, List.replicate_succ, List.replicate_zero, List.cons_append, List.nil_append, List.length_cons, List.length_nil, List.set_cons_zero, List.set_cons_succ, List.getElem?_cons_zero, List.getElem?_cons_succ, Option.map_some, Option.map_none, frz_d, frz_l, frzs_n, frzs_c, frzs_map, frzs_ints, outs_z, outs_s, List.contains_cons, List.contains_nil, decide_eq_true_eq, beq_iff_eq, bne_iff_ne, if_true, if_false, Bool.false_eq_true, Bool.not_eq_true, Bool.or_false, Bool.or_true, Bool.not_true, Bool.not_false, Nat.reduceAdd, Nat.reduceSub, Nat.reduceLT, Nat.reduceLeDiff, Nat.reduceBEq, Nat.reduceEqDiff, Int.reduceLT, Int.reduceLE, Int.reduceEq, Int.reduceNeg, Int.reducePow, Int.reduceToNat, Nat.zero_add, and_self, and_true, true_and, reduceIte, ev_cutD, ev_cutT, ev_cutL, it_L, it_D, it_T, it_S, cast0, cast1, Int.add_zero, Int.zero_add, Bool.and_true, Bool.true_and, Bool.and_self, Bool.and_false, Bool.false_and]
    · simp only [h1, wpS_if, wpS_asg, wpS_asgs, wpS_ret, wpS_drop, wpS_skip, wpS_for, wpS_nx, wpS_rt, wp_bind, wp_ok, wp_of_some, eTest, eP, eB, eFr, eFrs, eMov, eFrz, eCons, eNil, eLend, eBin, eCmp, eCmpT, e2, eApp, eTupS, eLstS, eIx, tD, eUn, eTrue, eNotT, eIf, eCall, mCall, pb_nil, pb_none, pb_some, eApnd, eExtd, ePop, ePopAt, eAndT, eOrT, iP, iE, iOne, mVar, mD, mK, mBin, mCmp, mCmpT, mChainT, mOfT, tTrue, mTrue, mAnd, mOr, mNot, mAndT, mOrT, mNotT, mIf, mUn, mNil, mCons, mApp, mTupS, mLstS, mPart, mSlice, tInt, mSliceR, mItems, mItA, mMeth, isLs, isTp, isSt, sAug, sAugI, gNm, gIx, gIx2, gPat, gTwo, gThree, gsNil, gsCons, tg_nm, tg_tp, tgs_nil, tgs_cons, Option.bind_some, of_some, of_none, bind_ok, wp_ite, wpS_ite, ev_eqI, ev_neI, ev_ltI, ev_gtI, ev_leI, ev_geI, ev_addI, ev_iaddI, ev_subI, ev_negI, ev_divI, ev_modI, ev_intI, ev_intB, ev_absI, ev_lenL, ev_lenD, ev_lenT, ev_minI, ev_maxI, ev_tupL, ev_tupD, ev_tupT, ev_listD, ev_listT, ev_listL, ev_getL, ev_getD, ev_getT, atI_0, atI_1, atI_2, atI_3, atI_4, atI_end, ev_sz, ixN_0, ixN_1, ixN_2, ixN_3, ixN_4, put_0, put_s, List.map_cons, List.map_nil, List.replicate_succ, List.replicate_zero, List.cons_append, List.nil_append, List.length_cons, List.length_nil, List.set_cons_zero, List.set_cons_succ, List.getElem?_cons_zero, List.getElem?_cons_succ, Option.map_some, Option.map_none, frz_d, frz_l, frzs_n, frzs_c, frzs_map, frzs_ints, outs_z, outs_s, List.contains_cons, List.contains_nil, decide_eq_true_eq, beq_iff_eq, bne_iff_ne, if_true, if_false, Bool.false_eq_true, Bool.not_eq_true, Bool.or_false, Bool.or_true, Bool.not_true, Bool.not_false, Nat.reduceAdd, Nat.reduceSub, Nat.reduceLT, Nat.reduceLeDiff, Nat.reduceBEq, Nat.reduceEqDiff, Int.reduceLT, Int.reduceLE, Int.reduceEq, Int.reduceNeg, Int.reducePow, Int.reduceToNat, Nat.zero_add, and_self, and_true, true_and, reduceIte, ev_cutD, ev_cutT, ev_cutL, it_L, it_D, it_T, it_S, cast0, cast1, Int.add_zero, Int.zero_add, Bool.and_true, Bool.true_and, Bool.and_self, Bool.and_false, Bool.false_and]
      rw [hK]
      clear hK K
      simp only [wpS_seq, ← map_fI, wpS_if, wpS_asg, wpS_asgs, wpS_ret, wpS_drop, wpS_skip, wpS_for, wpS_nx, wpS_rt, wp_bind, wp_ok, wp_of_some, eTest, eP, eB, eFr, eFrs, eMov, eFrz, eCons, eNil, eLend, eBin, eCmp, eCmpT, e2, eApp, eTupS, eLstS, eIx, tD, eUn, eTrue, eNotT, eIf, eCall, mCall, pb_nil, pb_none, pb_some, eApnd, eExtd, ePop, ePopAt, eAndT, eOrT, iP, iE, iOne, mVar, mD, mK, mBin, mCmp, mCmpT, mChainT, mOfT, tTrue, mTrue, mAnd, mOr, mNot, mAndT, mOrT, mNotT, mIf, mUn, mNil, mCons, mApp, mTupS, mLstS, mPart, mSlice, tInt, mSliceR, mItems, mItA, mMeth, isLs, isTp, isSt, sAug, sAugI, gNm, gIx, gIx2, gPat, gTwo, gThree, gsNil, gsCons, tg_nm, tg_tp, tgs_nil, tgs_cons, Option.bind_some, of_some, of_none, bind_ok, wp_ite, wpS_ite, ev_eqI, ev_neI, ev_ltI, ev_gtI, ev_leI, ev_geI, ev_addI, ev_iaddI, ev_subI, ev_negI, ev_divI, ev_modI, ev_intI, ev_intB, ev_absI, ev_lenL, ev_lenD, ev_lenT, ev_minI, ev_maxI, ev_tupL, ev_tupD, ev_tupT, ev_listD, ev_listT, ev_listL, ev_getL, ev_getD, ev_getT, atI_0, atI_1, atI_2, atI_3, atI_4, atI_end, ev_sz, ixN_0, ixN_1, ixN_2, ixN_3, ixN_4, put_0, put_s, List.map_cons, List.map_nil, List.replicate_succ, List.replicate_zero, List.cons_append, List.nil_append, List.length_cons, List.length_nil, List.set_cons_zero, List.set_cons_succ, List.getElem?_cons_zero, List.getElem?_cons_succ, Option.map_some, Option.map_none, frz_d, frz_l, frzs_n, frzs_c, frzs_map, frzs_ints, outs_z, outs_s, List.contains_cons, List.contains_nil, decide_eq_true_eq, beq_iff_eq, bne_iff_ne, if_true, if_false, Bool.false_eq_true, Bool.not_eq_true, Bool.or_false, Bool.or_true, Bool.not_true, Bool.not_false, Nat.reduceAdd, Nat.reduceSub, Nat.reduceLT, Nat.reduceLeDiff, Nat.reduceBEq, Nat.reduceEqDiff, Int.reduceLT, Int.reduceLE, Int.reduceEq, Int.reduceNeg, Int.reducePow, Int.reduceToNat, Nat.zero_add, and_self, and_true, true_and, reduceIte, ev_cutD, ev_cutT, ev_cutL, it_L, it_D, it_T, it_S, cast0, cast1, Int.add_zero, Int.zero_add, Bool.and_true, Bool.true_and, Bool.and_self, Bool.and_false, Bool.false_and]
  | succ j =>
    have e0 : L ++ [y] ++ List.replicate (j + 1) 0 = (L ++ [y] ++ List.replicate j 0) ++ [0] := by rw [List.replicate_succ']; simp only [List.append_assoc]
    rw [e0]
    have e1 : L2.atI (L ++ [y] ++ List.replicate j 0 ++ [0]) (-1) = some 0 := at_last
    have e2 : (1 : Int) < ((L ++ [y] ++ List.replicate j 0 ++ [0]).map fI).length := by simp; omega
    have e3 : ((L ++ [y] ++ List.replicate j 0 ++ [0]).map fI)[((L ++ [y] ++ List.replicate j 0 ++ [0]).map fI).length - 1]? = some (fI 0) := by rw [List.map_append]; simp
    have e4 : ((L ++ [y] ++ List.replicate j 0 ++ [0]).map fI).dropLast = (L ++ [y] ++ List.replicate j 0).map fI := by rw [List.map_append, List.map_cons, List.map_nil, List.dropLast_concat]
    simp only [wpS_seq, atI_fI, e1, e2, e3, e4, wpS_if, wpS_asg, wpS_asgs, wpS_ret, wpS_drop, wpS_skip, wpS_for, wpS_nx, wpS_rt, wp_bind, wp_ok, wp_of_some, eTest, eP, eB, eFr, eFrs, eMov, eFrz, eCons, eNil, eLend, eBin, eCmp, eCmpT, e2, eApp, eTupS, eLstS, eIx, tD, eUn, eTrue, eNotT, eIf, eCall, mCall, pb_nil, pb_none, pb_some, eApnd, eExtd, ePop, ePopAt, eAndT, eOrT, iP, iE, iOne, mVar, mD, mK, mBin, mCmp, mCmpT, mChainT, mOfT, tTrue, mTrue, mAnd, mOr, mNot, mAndT, mOrT, mNotT, mIf, mUn, mNil, mCons, mApp, mTupS, mLstS, mPart, mSlice, tInt, mSliceR, mItems, mItA, mMeth, isLs, isTp, isSt, sAug, sAugI, gNm, gIx, gIx2, gPat, gTwo, gThree, gsNil, gsCons, tg_nm, tg_tp, tgs_nil, tgs_cons, Option.bind_some, of_some, of_none, bind_ok, wp_ite, wpS_ite, ev_eqI, ev_neI, ev_ltI, ev_gtI, ev_leI, ev_geI, ev_addI, ev_iaddI, ev_subI, ev_negI, ev_divI, ev_modI, ev_intI, ev_intB, ev_absI, ev_lenL, ev_lenD, ev_lenT, ev_minI, ev_maxI, ev_tupL, ev_tupD, ev_tupT, ev_listD, ev_listT, ev_listL, ev_getL, ev_getD, ev_getT, atI_0, atI_1, atI_2, atI_3, atI_4, atI_end, ev_sz, ixN_0, ixN_1, ixN_2, ixN_3, ixN_4, put_0, put_s, List.map_cons, List.map_nil, List.replicate_succ, List.replicate_zero, List.cons_append, List.nil_append, List.length_cons, List.length_nil, List.set_cons_zero, List.set_cons_succ, List.getElem?_cons_zero, List.getElem?_cons_succ, Option.map_some, Option.map_none, frz_d, frz_l, frzs_n, frzs_c, frzs_map, frzs_ints, outs_z, outs_s, List.contains_cons, List.contains_nil, decide_eq_true_eq, beq_iff_eq, bne_iff_ne, if_true, if_false, Bool.false_eq_true, Bool.not_eq_true, Bool.or_false, Bool.or_true, Bool.not_true, Bool.not_false, Nat.reduceAdd, Nat.reduceSub, Nat.reduceLT, Nat.reduceLeDiff, Nat.reduceBEq, Nat.reduceEqDiff, Int.reduceLT, Int.reduceLE, Int.reduceEq, Int.reduceNeg, Int.reducePow, Int.reduceToNat, Nat.zero_add, and_self, and_true, true_and, reduceIte, ev_cutD, ev_cutT, ev_cutL, it_L, it_D, it_T, it_S, cast0, cast1, Int.add_zero, Int.zero_add, Bool.and_true, Bool.true_and, Bool.and_self, Bool.and_false, Bool.false_and]
    exact ⟨j, by omega, d, rfl⟩
def hor (s : Int) : List Int → List Int
  | [] => [0]
  | t :: ts => match lin s (-1) (hor s ts) with
    | [] => []
    | a :: l => (a + t) :: l
theorem lin_ne {c0 c1 : Int} {l : List Int} : ∃ a l', lin c0 c1 l = a :: l' := by
  cases l with
  | nil => exact ⟨_, _, rfl⟩
  | cons x xs => exact ⟨_, _, rfl⟩
theorem lin_len {c0 c1 : Int} {l : List Int} : (lin c0 c1 l).length = l.length + 1 := by simp [lin, fr_len]
theorem hor_len {s : Int} : ∀ l : List Int, (hor s l).length = l.length + 1
  | [] => rfl
  | t :: ts => by
    rw [hor]
    obtain ⟨a, l', e⟩ := lin_ne (c0 := s) (c1 := -1) (l := hor s ts)
    have h := lin_len (c0 := s) (c1 := -1) (l := hor s ts)
    rw [e] at h ⊢
    rw [hor_len ts] at h
    simpa using h
theorem turned_ok {ns L : List Int} {y s : Int} (hs0 : -1000000000 ≤ s) (hs1 : s ≤ 1000000000) (h : ns ≠ []) (hl : ns.length ≤ 40) (hz : ns.getLast h ≠ 0) (hb : ∀ x ∈ ns, -1000000000000000000000000000000 < x ∧ x < 1000000000000000000000000000000)
    (hy : y ≠ 0) (e : hor s ns = L ++ [y] ++ [0]) : f_turned_about [.d (.tuple (ns.map .int)), .d (.int s)] = .ok (.d (.tuple ((L ++ [y]).map .int)), [none, none]) := by
  refine Rs.wp.eq ?_
  unfold f_turned_about
  rw [wp_fn]
  unfold b_turned_about
  refine wpS_seqK fun K hK => ?_
  simp only [checkpoly_ok h hl hz hb, wpS_if, wpS_asg, wpS_asgs, wpS_ret, wpS_drop, wpS_skip, wpS_for, wpS_nx, wpS_rt, wp_bind, wp_ok, wp_of_some, eTest, eP, eB, eFr, eFrs, eMov, eFrz, eCons, eNil, eLend, eBin, eCmp, eCmpT, e2, eApp, eTupS, eLstS, eIx, tD, eUn, eTrue, eNotT, eIf, eCall, mCall, pb_nil, pb_none, pb_some, eApnd, eExtd, ePop, ePopAt, eAndT, eOrT, iP, iE, iOne, mVar, mD, mK, mBin, mCmp, mCmpT, mChainT, mOfT, tTrue, mTrue, mAnd, mOr, mNot, mAndT, mOrT, mNotT, mIf, mUn, mNil, mCons, mApp, mTupS, mLstS, mPart, mSlice, tInt, mSliceR, mItems, mItA, mMeth, isLs, isTp, isSt, sAug, sAugI, gNm, gIx, gIx2, gPat, gTwo, gThree, gsNil, gsCons, tg_nm, tg_tp, tgs_nil, tgs_cons, Option.bind_some, of_some, of_none, bind_ok, wp_ite, wpS_ite, ev_eqI, ev_neI, ev_ltI, ev_gtI, ev_leI, ev_geI, ev_addI, ev_iaddI, ev_subI, ev_negI, ev_divI, ev_modI, ev_intI, ev_intB, ev_absI, ev_lenL, ev_lenD, ev_lenT, ev_minI, ev_maxI, ev_tupL, ev_tupD, ev_tupT, ev_listD, ev_listT, ev_listL, ev_getL, ev_getD, ev_getT, atI_0, atI_1, atI_2, atI_3, atI_4, atI_end, ev_sz, ixN_0, ixN_1, ixN_2, ixN_3, ixN_4, put_0, put_s, List.map_cons, List.map_nil, List.replicate_succ, List.replicate_zero, List.cons_append, List.nil_append, List.length_cons, List.length_nil, List.set_cons_zero, List.set_cons_succ, List.getElem?_cons_zero, List.getElem?_cons_succ, Option.map_some, Option.map_none, frz_d, frz_l, frzs_n, frzs_c, frzs_map, frzs_ints, outs_z, outs_s, List.contains_cons, List.contains_nil, decide_eq_true_eq, beq_iff_eq, bne_iff_ne, if_true, if_false, Bool.false_eq_true, Bool.not_eq_true, Bool.or_false, Bool.or_true, Bool.not_true, Bool.not_false, Nat.reduceAdd, Nat.reduceSub, Nat.reduceLT, Nat.reduceLeDiff, Nat.reduceBEq, Nat.reduceEqDiff, Int.reduceLT, Int.reduceLE, Int.reduceEq, Int.reduceNeg, Int.reducePow, Int.reduceToNat, Nat.zero_add, and_self, and_true, true_and, reduceIte, ev_cutD, ev_cutT, ev_cutL, it_L, it_D, it_T, it_S, cast0, cast1, Int.add_zero, Int.zero_add, Bool.and_true, Bool.true_and, Bool.and_self, Bool.and_false, Bool.false_and]
  rw [hK]; clear hK K
  refine wpS_seqK fun K hK => ?_
  simp only [within_ok hs0 hs1, wpS_if, wpS_asg, wpS_asgs, wpS_ret, wpS_drop, wpS_skip, wpS_for, wpS_nx, wpS_rt, wp_bind, wp_ok, wp_of_some, eTest, eP, eB, eFr, eFrs, eMov, eFrz, eCons, eNil, eLend, eBin, eCmp, eCmpT, e2, eApp, eTupS, eLstS, eIx, tD, eUn, eTrue, eNotT, eIf, eCall, mCall, pb_nil, pb_none, pb_some, eApnd, eExtd, ePop, ePopAt, eAndT, eOrT, iP, iE, iOne, mVar, mD, mK, mBin, mCmp, mCmpT, mChainT, mOfT, tTrue, mTrue, mAnd, mOr, mNot, mAndT, mOrT, mNotT, mIf, mUn, mNil, mCons, mApp, mTupS, mLstS, mPart, mSlice, tInt, mSliceR, mItems, mItA, mMeth, isLs, isTp, isSt, sAug, sAugI, gNm, gIx, gIx2, gPat, gTwo, gThree, gsNil, gsCons, tg_nm, tg_tp, tgs_nil, tgs_cons, Option.bind_some, of_some, of_none, bind_ok, wp_ite, wpS_ite, ev_eqI, ev_neI, ev_ltI, ev_gtI, ev_leI, ev_geI, ev_addI, ev_iaddI, ev_subI, ev_negI, ev_divI, ev_modI, ev_intI, ev_intB, ev_absI, ev_lenL, ev_lenD, ev_lenT, ev_minI, ev_maxI, ev_tupL, ev_tupD, ev_tupT, ev_listD, ev_listT, ev_listL, ev_getL, ev_getD, ev_getT, atI_0, atI_1, atI_2, atI_3, atI_4, atI_end, ev_sz, ixN_0, ixN_1, ixN_2, ixN_3, ixN_4, put_0, put_s, List.map_cons, List.map_nil, List.replicate_succ, List.replicate_zero, List.cons_append, List.nil_append, List.length_cons, List.length_nil, List.set_cons_zero, List.set_cons_succ, List.getElem?_cons_zero, List.getElem?_cons_succ, Option.map_some, Option.map_none, frz_d, frz_l, frzs_n, frzs_c, frzs_map, frzs_ints, outs_z, outs_s, List.contains_cons, List.contains_nil, decide_eq_true_eq, beq_iff_eq, bne_iff_ne, if_true, if_false, Bool.false_eq_true, Bool.not_eq_true, Bool.or_false, Bool.or_true, Bool.not_true, Bool.not_false, Nat.reduceAdd, Nat.reduceSub, Nat.reduceLT, Nat.reduceLeDiff, Nat.reduceBEq, Nat.reduceEqDiff, Int.reduceLT, Int.reduceLE, Int.reduceEq, Int.reduceNeg, Int.reducePow, Int.reduceToNat, Nat.zero_add, and_self, and_true, true_and, reduceIte, ev_cutD, ev_cutT, ev_cutL, it_L, it_D, it_T, it_S, cast0, cast1, Int.add_zero, Int.zero_add, Bool.and_true, Bool.true_and, Bool.and_self, Bool.and_false, Bool.false_and]
  rw [hK]; clear hK K
  refine wpS_seqK fun K hK => ?_
  simp only [wpS_if, wpS_asg, wpS_asgs, wpS_ret, wpS_drop, wpS_skip, wpS_for, wpS_nx, wpS_rt, wp_bind, wp_ok, wp_of_some, eTest, eP, eB, eFr, eFrs, eMov, eFrz, eCons, eNil, eLend, eBin, eCmp, eCmpT, e2, eApp, eTupS, eLstS, eIx, tD, eUn, eTrue, eNotT, eIf, eCall, mCall, pb_nil, pb_none, pb_some, eApnd, eExtd, ePop, ePopAt, eAndT, eOrT, iP, iE, iOne, mVar, mD, mK, mBin, mCmp, mCmpT, mChainT, mOfT, tTrue, mTrue, mAnd, mOr, mNot, mAndT, mOrT, mNotT, mIf, mUn, mNil, mCons, mApp, mTupS, mLstS, mPart, mSlice, tInt, mSliceR, mItems, mItA, mMeth, isLs, isTp, isSt, sAug, sAugI, gNm, gIx, gIx2, gPat, gTwo, gThree, gsNil, gsCons, tg_nm, tg_tp, tgs_nil, tgs_cons, Option.bind_some, of_some, of_none, bind_ok, wp_ite, wpS_ite, ev_eqI, ev_neI, ev_ltI, ev_gtI, ev_leI, ev_geI, ev_addI, ev_iaddI, ev_subI, ev_negI, ev_divI, ev_modI, ev_intI, ev_intB, ev_absI, ev_lenL, ev_lenD, ev_lenT, ev_minI, ev_maxI, ev_tupL, ev_tupD, ev_tupT, ev_listD, ev_listT, ev_listL, ev_getL, ev_getD, ev_getT, atI_0, atI_1, atI_2, atI_3, atI_4, atI_end, ev_sz, ixN_0, ixN_1, ixN_2, ixN_3, ixN_4, put_0, put_s, List.map_cons, List.map_nil, List.replicate_succ, List.replicate_zero, List.cons_append, List.nil_append, List.length_cons, List.length_nil, List.set_cons_zero, List.set_cons_succ, List.getElem?_cons_zero, List.getElem?_cons_succ, Option.map_some, Option.map_none, frz_d, frz_l, frzs_n, frzs_c, frzs_map, frzs_ints, outs_z, outs_s, List.contains_cons, List.contains_nil, decide_eq_true_eq, beq_iff_eq, bne_iff_ne, if_true, if_false, Bool.false_eq_true, Bool.not_eq_true, Bool.or_false, Bool.or_true, Bool.not_true, Bool.not_false, Nat.reduceAdd, Nat.reduceSub, Nat.reduceLT, Nat.reduceLeDiff, Nat.reduceBEq, Nat.reduceEqDiff, Int.reduceLT, Int.reduceLE, Int.reduceEq, Int.reduceNeg, Int.reducePow, Int.reduceToNat, Nat.zero_add, and_self, and_true, true_and, reduceIte, ev_cutD, ev_cutT, ev_cutL, it_L, it_D, it_T, it_S, cast0, cast1, Int.add_zero, Int.zero_add, Bool.and_true, Bool.true_and, Bool.and_self, Bool.and_false, Bool.false_and]
  rw [hK]; clear hK K
  refine wpS_seqK fun K hK => ?_
  simp only [sRev, itVal, allD, wpS_if, wpS_asg, wpS_asgs, wpS_ret, wpS_drop, wpS_skip, wpS_for, wpS_nx, wpS_rt, wp_bind, wp_ok, wp_of_some, eTest, eP, eB, eFr, eFrs, eMov, eFrz, eCons, eNil, eLend, eBin, eCmp, eCmpT, e2, eApp, eTupS, eLstS, eIx, tD, eUn, eTrue, eNotT, eIf, eCall, mCall, pb_nil, pb_none, pb_some, eApnd, eExtd, ePop, ePopAt, eAndT, eOrT, iP, iE, iOne, mVar, mD, mK, mBin, mCmp, mCmpT, mChainT, mOfT, tTrue, mTrue, mAnd, mOr, mNot, mAndT, mOrT, mNotT, mIf, mUn, mNil, mCons, mApp, mTupS, mLstS, mPart, mSlice, tInt, mSliceR, mItems, mItA, mMeth, isLs, isTp, isSt, sAug, sAugI, gNm, gIx, gIx2, gPat, gTwo, gThree, gsNil, gsCons, tg_nm, tg_tp, tgs_nil, tgs_cons, Option.bind_some, of_some, of_none, bind_ok, wp_ite, wpS_ite, ev_eqI, ev_neI, ev_ltI, ev_gtI, ev_leI, ev_geI, ev_addI, ev_iaddI, ev_subI, ev_negI, ev_divI, ev_modI, ev_intI, ev_intB, ev_absI, ev_lenL, ev_lenD, ev_lenT, ev_minI, ev_maxI, ev_tupL, ev_tupD, ev_tupT, ev_listD, ev_listT, ev_listL, ev_getL, ev_getD, ev_getT, atI_0, atI_1, atI_2, atI_3, atI_4, atI_end, ev_sz, ixN_0, ixN_1, ixN_2, ixN_3, ixN_4, put_0, put_s, List.map_cons, List.map_nil, List.replicate_succ, List.replicate_zero, List.cons_append, List.nil_append, List.length_cons, List.length_nil, List.set_cons_zero, List.set_cons_succ, List.getElem?_cons_zero, List.getElem?_cons_succ, Option.map_some, Option.map_none, frz_d, frz_l, frzs_n, frzs_c, frzs_map, frzs_ints, outs_z, outs_s, List.contains_cons, List.contains_nil, decide_eq_true_eq, beq_iff_eq, bne_iff_ne, if_true, if_false, Bool.false_eq_true, Bool.not_eq_true, Bool.or_false, Bool.or_true, Bool.not_true, Bool.not_false, Nat.reduceAdd, Nat.reduceSub, Nat.reduceLT, Nat.reduceLeDiff, Nat.reduceBEq, Nat.reduceEqDiff, Int.reduceLT, Int.reduceLE, Int.reduceEq, Int.reduceNeg, Int.reducePow, Int.reduceToNat, Nat.zero_add, and_self, and_true, true_and, reduceIte, ev_cutD, ev_cutT, ev_cutL, it_L, it_D, it_T, it_S, cast0, cast1, Int.add_zero, Int.zero_add, Bool.and_true, Bool.true_and, Bool.and_self, Bool.and_false, Bool.false_and]
  rw [← List.map_reverse]
  refine wpS_fL PyData.int (fun pre post e => ∃ w3, e = [some (.d (.tuple (ns.map .int))), some (.d (.int s)), some (.l ((hor s pre.reverse).map fI)), w3]) ns.reverse ?_ ?_ ns.reverse [] rfl ⟨none, rfl⟩
  · rintro pre x post e he ⟨w3, rfl⟩
    have hpl : pre.length ≤ 40 := by have := congrArg List.length he; simp at this; omega
    simp only [wpS_seq, frz_fI, wpS_if, wpS_asg, wpS_asgs, wpS_ret, wpS_drop, wpS_skip, wpS_for, wpS_nx, wpS_rt, wp_bind, wp_ok, wp_of_some, eTest, eP, eB, eFr, eFrs, eMov, eFrz, eCons, eNil, eLend, eBin, eCmp, eCmpT, e2, eApp, eTupS, eLstS, eIx, tD, eUn, eTrue, eNotT, eIf, eCall, mCall, pb_nil, pb_none, pb_some, eApnd, eExtd, ePop, ePopAt, eAndT, eOrT, iP, iE, iOne, mVar, mD, mK, mBin, mCmp, mCmpT, mChainT, mOfT, tTrue, mTrue, mAnd, mOr, mNot, mAndT, mOrT, mNotT, mIf, mUn, mNil, mCons, mApp, mTupS, mLstS, mPart, mSlice, tInt, mSliceR, mItems, mItA, mMeth, isLs, isTp, isSt, sAug, sAugI, gNm, gIx, gIx2, gPat, gTwo, gThree, gsNil, gsCons, tg_nm, tg_tp, tgs_nil, tgs_cons, Option.bind_some, of_some, of_none, bind_ok, wp_ite, wpS_ite, ev_eqI, ev_neI, ev_ltI, ev_gtI, ev_leI, ev_geI, ev_addI, ev_iaddI, ev_subI, ev_negI, ev_divI, ev_modI, ev_intI, ev_intB, ev_absI, ev_lenL, ev_lenD, ev_lenT, ev_minI, ev_maxI, ev_tupL, ev_tupD, ev_tupT, ev_listD, ev_listT, ev_listL, ev_getL, ev_getD, ev_getT, atI_0, atI_1, atI_2, atI_3, atI_4, atI_end, ev_sz, ixN_0, ixN_1, ixN_2, ixN_3, ixN_4, put_0, put_s, List.map_cons, List.map_nil, List.replicate_succ, List.replicate_zero, List.cons_append, List.nil_append, List.length_cons, List.length_nil, List.set_cons_zero, List.set_cons_succ, List.getElem?_cons_zero, List.getElem?_cons_succ, Option.map_some, Option.map_none, frz_d, frz_l, frzs_n, frzs_c, frzs_map, frzs_ints, outs_z, outs_s, List.contains_cons, List.contains_nil, decide_eq_true_eq, beq_iff_eq, bne_iff_ne, if_true, if_false, Bool.false_eq_true, Bool.not_eq_true, Bool.or_false, Bool.or_true, Bool.not_true, Bool.not_false, Nat.reduceAdd, Nat.reduceSub, Nat.reduceLT, Nat.reduceLeDiff, Nat.reduceBEq, Nat.reduceEqDiff, Int.reduceLT, Int.reduceLE, Int.reduceEq, Int.reduceNeg, Int.reducePow, Int.reduceToNat, Nat.zero_add, and_self, and_true, true_and, reduceIte, ev_cutD, ev_cutT, ev_cutL, it_L, it_D, it_T, it_S, cast0, cast1, Int.add_zero, Int.zero_add, Bool.and_true, Bool.true_and, Bool.and_self, Bool.and_false, Bool.false_and]
    refine (terms_ok (one := hor s pre.reverse) (c0 := s) (c1 := -1) ⟨by omega, by omega⟩ ⟨by decide, by decide⟩ (by rw [hor_len]; simp; omega)).mono fun r er => ?_
    subst er
    obtain ⟨a, l', el⟩ := lin_ne (c0 := s) (c1 := -1) (l := hor s pre.reverse)
    simp only [wpS_seq, el, fI, wpS_if, wpS_asg, wpS_asgs, wpS_ret, wpS_drop, wpS_skip, wpS_for, wpS_nx, wpS_rt, wp_bind, wp_ok, wp_of_some, eTest, eP, eB, eFr, eFrs, eMov, eFrz, eCons, eNil, eLend, eBin, eCmp, eCmpT, e2, eApp, eTupS, eLstS, eIx, tD, eUn, eTrue, eNotT, eIf, eCall, mCall, pb_nil, pb_none, pb_some, eApnd, eExtd, ePop, ePopAt, eAndT, eOrT, iP, iE, iOne, mVar, mD, mK, mBin, mCmp, mCmpT, mChainT, mOfT, tTrue, mTrue, mAnd, mOr, mNot, mAndT, mOrT, mNotT, mIf, mUn, mNil, mCons, mApp, mTupS, mLstS, mPart, mSlice, tInt, mSliceR, mItems, mItA, mMeth, isLs, isTp, isSt, sAug, sAugI, gNm, gIx, gIx2, gPat, gTwo, gThree, gsNil, gsCons, tg_nm, tg_tp, tgs_nil, tgs_cons, Option.bind_some, of_some, of_none, bind_ok, wp_ite, wpS_ite, ev_eqI, ev_neI, ev_ltI, ev_gtI, ev_leI, ev_geI, ev_addI, ev_iaddI, ev_subI, ev_negI, ev_divI, ev_modI, ev_intI, ev_intB, ev_absI, ev_lenL, ev_lenD, ev_lenT, ev_minI, ev_maxI, ev_tupL, ev_tupD, ev_tupT, ev_listD, ev_listT, ev_listL, ev_getL, ev_getD, ev_getT, atI_0, atI_1, atI_2, atI_3, atI_4, atI_end, ev_sz, ixN_0, ixN_1, ixN_2, ixN_3, ixN_4, put_0, put_s, List.map_cons, List.map_nil, List.replicate_succ, List.replicate_zero, List.cons_append, List.nil_append, List.length_cons, List.length_nil, List.set_cons_zero, List.set_cons_succ, List.getElem?_cons_zero, List.getElem?_cons_succ, Option.map_some, Option.map_none, frz_d, frz_l, frzs_n, frzs_c, frzs_map, frzs_ints, outs_z, outs_s, List.contains_cons, List.contains_nil, decide_eq_true_eq, beq_iff_eq, bne_iff_ne, if_true, if_false, Bool.false_eq_true, Bool.not_eq_true, Bool.or_false, Bool.or_true, Bool.not_true, Bool.not_false, Nat.reduceAdd, Nat.reduceSub, Nat.reduceLT, Nat.reduceLeDiff, Nat.reduceBEq, Nat.reduceEqDiff, Int.reduceLT, Int.reduceLE, Int.reduceEq, Int.reduceNeg, Int.reducePow, Int.reduceToNat, Nat.zero_add, and_self, and_true, true_and, reduceIte, ev_cutD, ev_cutT, ev_cutL, it_L, it_D, it_T, it_S, cast0, cast1, Int.add_zero, Int.zero_add, Bool.and_true, Bool.true_and, Bool.and_self, Bool.and_false, Bool.false_and]
    refine ⟨some (.d (.int x)), ?_⟩
    rw [List.reverse_append, List.reverse_cons, List.reverse_nil, List.nil_append, List.singleton_append, hor, el]
    rfl
  · rintro e ⟨w3, rfl⟩
    rw [hK]; clear hK K
    have hLl : L.length < 1000 := by have := congrArg List.length e; rw [hor_len] at this; simp at this; omega
    have ht := trimmed_ok hy 1 (by decide) hLl
    rw [List.replicate_succ, List.replicate_zero, ← e] at ht
    simp only [wpS_seq, List.reverse_reverse, frz_fI, ht, wpS_if, wpS_asg, wpS_asgs, wpS_ret, wpS_drop, wpS_skip, wpS_for, wpS_nx, wpS_rt, wp_bind, wp_ok, wp_of_some, eTest, eP, eB, eFr, eFrs, eMov, eFrz, eCons, eNil, eLend, eBin, eCmp, eCmpT, e2, eApp, eTupS, eLstS, eIx, tD, eUn, eTrue, eNotT, eIf, eCall, mCall, pb_nil, pb_none, pb_some, eApnd, eExtd, ePop, ePopAt, eAndT, eOrT, iP, iE, iOne, mVar, mD, mK, mBin, mCmp, mCmpT, mChainT, mOfT, tTrue, mTrue, mAnd, mOr, mNot, mAndT, mOrT, mNotT, mIf, mUn, mNil, mCons, mApp, mTupS, mLstS, mPart, mSlice, tInt, mSliceR, mItems, mItA, mMeth, isLs, isTp, isSt, sAug, sAugI, gNm, gIx, gIx2, gPat, gTwo, gThree, gsNil, gsCons, tg_nm, tg_tp, tgs_nil, tgs_cons, Option.bind_some, of_some, of_none, bind_ok, wp_ite, wpS_ite, ev_eqI, ev_neI, ev_ltI, ev_gtI, ev_leI, ev_geI, ev_addI, ev_iaddI, ev_subI, ev_negI, ev_divI, ev_modI, ev_intI, ev_intB, ev_absI, ev_lenL, ev_lenD, ev_lenT, ev_minI, ev_maxI, ev_tupL, ev_tupD, ev_tupT, ev_listD, ev_listT, ev_listL, ev_getL, ev_getD, ev_getT, atI_0, atI_1, atI_2, atI_3, atI_4, atI_end, ev_sz, ixN_0, ixN_1, ixN_2, ixN_3, ixN_4, put_0, put_s, List.map_cons, List.map_nil, List.replicate_succ, List.replicate_zero, List.cons_append, List.nil_append, List.length_cons, List.length_nil, List.set_cons_zero, List.set_cons_succ, List.getElem?_cons_zero, List.getElem?_cons_succ, Option.map_some, Option.map_none, frz_d, frz_l, frzs_n, frzs_c, frzs_map, frzs_ints, outs_z, outs_s, List.contains_cons, List.contains_nil, decide_eq_true_eq, beq_iff_eq, bne_iff_ne, if_true, if_false, Bool.false_eq_true, Bool.not_eq_true, Bool.or_false, Bool.or_true, Bool.not_true, Bool.not_false, Nat.reduceAdd, Nat.reduceSub, Nat.reduceLT, Nat.reduceLeDiff, Nat.reduceBEq, Nat.reduceEqDiff, Int.reduceLT, Int.reduceLE, Int.reduceEq, Int.reduceNeg, Int.reducePow, Int.reduceToNat, Nat.zero_add, and_self, and_true, true_and, reduceIte, ev_cutD, ev_cutT, ev_cutL, it_L, it_D, it_T, it_S, cast0, cast1, Int.add_zero, Int.zero_add, Bool.and_true, Bool.true_and, Bool.and_self, Bool.and_false, Bool.false_and]
/-! ### product_row -/
def syn (r : Int) : Int → List Int → List Int
  | _, [] => []
  | c, t :: ts => (c * r + t) :: syn r (c * r + t) ts
theorem syn_snoc {r t : Int} : ∀ (c : Int) (l : List Int), syn r c (l ++ [t]) = syn r c l ++ [la c (syn r c l) * r + t]
  | c, [] => rfl
  | c, x :: l => by simp only [List.cons_append, syn, la, syn_snoc _ l]
theorem syn_len {r : Int} : ∀ (c : Int) (l : List Int), (syn r c l).length = l.length
  | _, [] => rfl
  | c, x :: l => by simp only [syn, List.length_cons, syn_len _ l]
theorem syn_div {r : Int} : ∀ (p : Int) (q : List Int), q ≠ [] → syn r 0 (fr (-r) 1 p q ++ [la p q * 1]).reverse = q.reverse ++ [p]
  | p, [], h => absurd rfl h
  | p, [x], _ => by
    show [0 * r + x * 1, (0 * r + x * 1) * r + (p * 1 + x * -r)] = [x, p]
    congr 1
    · omega
    · congr 1
      rw [Int.zero_mul, Int.zero_add, Int.mul_one, Int.mul_one, Int.mul_neg]; omega
  | p, x :: y :: ys, _ => by
    have ih := syn_div (r := r) x (y :: ys) (by simp)
    have e : (fr (-r) 1 p (x :: y :: ys) ++ [la p (x :: y :: ys) * 1]).reverse = (fr (-r) 1 x (y :: ys) ++ [la x (y :: ys) * 1]).reverse ++ [p * 1 + x * -r] := by
      show ((p * 1 + x * -r) :: (fr (-r) 1 x (y :: ys) ++ [la x (y :: ys) * 1])).reverse = _
      rw [List.reverse_cons]
    rw [e, syn_snoc, ih, la_snoc, List.reverse_cons (a := x)]
    congr 2
    rw [Int.mul_one, Int.mul_neg]; omega
theorem div_ok {ns : List Int} {r : Int} (hr : Sm r) (hn : ns ≠ []) (hl : ns.length ≤ 1000) {q : List Int} {z : Int} (e : syn r 0 ns.reverse = q ++ [z]) : f_divided_by_root [.d (.tuple (ns.map .int)), .d (.int r)] = .ok (.d (.tuple [.int z, .tuple (q.reverse.map .int)]), [none, none]) := by
  refine Rs.wp.eq ?_
  unfold f_divided_by_root
  rw [wp_fn]
  unfold b_divided_by_root
  refine wpS_seqK fun K hK => ?_
  simp only [wpS_if, wpS_asg, wpS_asgs, wpS_ret, wpS_drop, wpS_skip, wpS_for, wpS_nx, wpS_rt, wp_bind, wp_ok, wp_of_some, eTest, eP, eB, eFr, eFrs, eMov, eFrz, eCons, eNil, eLend, eBin, eCmp, eCmpT, e2, eApp, eTupS, eLstS, eIx, tD, eUn, eTrue, eNotT, eIf, eCall, mCall, pb_nil, pb_none, pb_some, eApnd, eExtd, ePop, ePopAt, eAndT, eOrT, iP, iE, iOne, mVar, mD, mK, mBin, mCmp, mCmpT, mChainT, mOfT, tTrue, mTrue, mAnd, mOr, mNot, mAndT, mOrT, mNotT, mIf, mUn, mNil, mCons, mApp, mTupS, mLstS, mPart, mSlice, tInt, mSliceR, mItems, mItA, mMeth, isLs, isTp, isSt, sAug, sAugI, gNm, gIx, gIx2, gPat, gTwo, gThree, gsNil, gsCons, tg_nm, tg_tp, tgs_nil, tgs_cons, Option.bind_some, of_some, of_none, bind_ok, wp_ite, wpS_ite, ev_eqI, ev_neI, ev_ltI, ev_gtI, ev_leI, ev_geI, ev_addI, ev_iaddI, ev_subI, ev_negI, ev_divI, ev_modI, ev_intI, ev_intB, ev_absI, ev_lenL, ev_lenD, ev_lenT, ev_minI, ev_maxI, ev_tupL, ev_tupD, ev_tupT, ev_listD, ev_listT, ev_listL, ev_getL, ev_getD, ev_getT, atI_0, atI_1, atI_2, atI_3, atI_4, atI_end, ev_sz, ixN_0, ixN_1, ixN_2, ixN_3, ixN_4, put_0, put_s, List.map_cons, List.map_nil, List.replicate_succ, List.replicate_zero, List.cons_append, List.nil_append, List.length_cons, List.length_nil, List.set_cons_zero, List.set_cons_succ, List.getElem?_cons_zero, List.getElem?_cons_succ, Option.map_some, Option.map_none, frz_d, frz_l, frzs_n, frzs_c, frzs_map, frzs_ints, outs_z, outs_s, List.contains_cons, List.contains_nil, decide_eq_true_eq, beq_iff_eq, bne_iff_ne, if_true, if_false, Bool.false_eq_true, Bool.not_eq_true, Bool.or_false, Bool.or_true, Bool.not_true, Bool.not_false, Nat.reduceAdd, Nat.reduceSub, Nat.reduceLT, Nat.reduceLeDiff, Nat.reduceBEq, Nat.reduceEqDiff, Int.reduceLT, Int.reduceLE, Int.reduceEq, Int.reduceNeg, Int.reducePow, Int.reduceToNat, Nat.zero_add, and_self, and_true, true_and, reduceIte, ev_cutD, ev_cutT, ev_cutL, it_L, it_D, it_T, it_S, cast0, cast1, Int.add_zero, Int.zero_add, Bool.and_true, Bool.true_and, Bool.and_self, Bool.and_false, Bool.false_and]
  rw [hK]; clear hK K
  refine wpS_seqK fun K hK => ?_
  simp only [sRev, itVal, allD, wpS_if, wpS_asg, wpS_asgs, wpS_ret, wpS_drop, wpS_skip, wpS_for, wpS_nx, wpS_rt, wp_bind, wp_ok, wp_of_some, eTest, eP, eB, eFr, eFrs, eMov, eFrz, eCons, eNil, eLend, eBin, eCmp, eCmpT, e2, eApp, eTupS, eLstS, eIx, tD, eUn, eTrue, eNotT, eIf, eCall, mCall, pb_nil, pb_none, pb_some, eApnd, eExtd, ePop, ePopAt, eAndT, eOrT, iP, iE, iOne, mVar, mD, mK, mBin, mCmp, mCmpT, mChainT, mOfT, tTrue, mTrue, mAnd, mOr, mNot, mAndT, mOrT, mNotT, mIf, mUn, mNil, mCons, mApp, mTupS, mLstS, mPart, mSlice, tInt, mSliceR, mItems, mItA, mMeth, isLs, isTp, isSt, sAug, sAugI, gNm, gIx, gIx2, gPat, gTwo, gThree, gsNil, gsCons, tg_nm, tg_tp, tgs_nil, tgs_cons, Option.bind_some, of_some, of_none, bind_ok, wp_ite, wpS_ite, ev_eqI, ev_neI, ev_ltI, ev_gtI, ev_leI, ev_geI, ev_addI, ev_iaddI, ev_subI, ev_negI, ev_divI, ev_modI, ev_intI, ev_intB, ev_absI, ev_lenL, ev_lenD, ev_lenT, ev_minI, ev_maxI, ev_tupL, ev_tupD, ev_tupT, ev_listD, ev_listT, ev_listL, ev_getL, ev_getD, ev_getT, atI_0, atI_1, atI_2, atI_3, atI_4, atI_end, ev_sz, ixN_0, ixN_1, ixN_2, ixN_3, ixN_4, put_0, put_s, List.map_cons, List.map_nil, List.replicate_succ, List.replicate_zero, List.cons_append, List.nil_append, List.length_cons, List.length_nil, List.set_cons_zero, List.set_cons_succ, List.getElem?_cons_zero, List.getElem?_cons_succ, Option.map_some, Option.map_none, frz_d, frz_l, frzs_n, frzs_c, frzs_map, frzs_ints, outs_z, outs_s, List.contains_cons, List.contains_nil, decide_eq_true_eq, beq_iff_eq, bne_iff_ne, if_true, if_false, Bool.false_eq_true, Bool.not_eq_true, Bool.or_false, Bool.or_true, Bool.not_true, Bool.not_false, Nat.reduceAdd, Nat.reduceSub, Nat.reduceLT, Nat.reduceLeDiff, Nat.reduceBEq, Nat.reduceEqDiff, Int.reduceLT, Int.reduceLE, Int.reduceEq, Int.reduceNeg, Int.reducePow, Int.reduceToNat, Nat.zero_add, and_self, and_true, true_and, reduceIte, ev_cutD, ev_cutT, ev_cutL, it_L, it_D, it_T, it_S, cast0, cast1, Int.add_zero, Int.zero_add, Bool.and_true, Bool.true_and, Bool.and_self, Bool.and_false, Bool.false_and]
  rw [← List.map_reverse]
  refine wpS_fL PyData.int (fun pre post e => ∃ w2, e = [some (.d (.tuple (ns.map .int))), some (.d (.int r)), w2, some (.l ((syn r 0 pre).map fI)), some (.d (.int (la 0 (syn r 0 pre))))]) ns.reverse ?_ ?_ ns.reverse [] rfl ⟨none, rfl⟩
  · rintro pre x post e he ⟨w2, rfl⟩
    have hpl : pre.length ≤ 1000 := by have := congrArg List.length he; simp at this; omega
    simp only [wpS_seq, ev_mulR hr, List.length_map, syn_len, show pre.length < 16777216 by omega, app_fI, wpS_if, wpS_asg, wpS_asgs, wpS_ret, wpS_drop, wpS_skip, wpS_for, wpS_nx, wpS_rt, wp_bind, wp_ok, wp_of_some, eTest, eP, eB, eFr, eFrs, eMov, eFrz, eCons, eNil, eLend, eBin, eCmp, eCmpT, e2, eApp, eTupS, eLstS, eIx, tD, eUn, eTrue, eNotT, eIf, eCall, mCall, pb_nil, pb_none, pb_some, eApnd, eExtd, ePop, ePopAt, eAndT, eOrT, iP, iE, iOne, mVar, mD, mK, mBin, mCmp, mCmpT, mChainT, mOfT, tTrue, mTrue, mAnd, mOr, mNot, mAndT, mOrT, mNotT, mIf, mUn, mNil, mCons, mApp, mTupS, mLstS, mPart, mSlice, tInt, mSliceR, mItems, mItA, mMeth, isLs, isTp, isSt, sAug, sAugI, gNm, gIx, gIx2, gPat, gTwo, gThree, gsNil, gsCons, tg_nm, tg_tp, tgs_nil, tgs_cons, Option.bind_some, of_some, of_none, bind_ok, wp_ite, wpS_ite, ev_eqI, ev_neI, ev_ltI, ev_gtI, ev_leI, ev_geI, ev_addI, ev_iaddI, ev_subI, ev_negI, ev_divI, ev_modI, ev_intI, ev_intB, ev_absI, ev_lenL, ev_lenD, ev_lenT, ev_minI, ev_maxI, ev_tupL, ev_tupD, ev_tupT, ev_listD, ev_listT, ev_listL, ev_getL, ev_getD, ev_getT, atI_0, atI_1, atI_2, atI_3, atI_4, atI_end, ev_sz, ixN_0, ixN_1, ixN_2, ixN_3, ixN_4, put_0, put_s, List.map_cons, List.map_nil, List.replicate_succ, List.replicate_zero, List.cons_append, List.nil_append, List.length_cons, List.length_nil, List.set_cons_zero, List.set_cons_succ, List.getElem?_cons_zero, List.getElem?_cons_succ, Option.map_some, Option.map_none, frz_d, frz_l, frzs_n, frzs_c, frzs_map, frzs_ints, outs_z, outs_s, List.contains_cons, List.contains_nil, decide_eq_true_eq, beq_iff_eq, bne_iff_ne, if_true, if_false, Bool.false_eq_true, Bool.not_eq_true, Bool.or_false, Bool.or_true, Bool.not_true, Bool.not_false, Nat.reduceAdd, Nat.reduceSub, Nat.reduceLT, Nat.reduceLeDiff, Nat.reduceBEq, Nat.reduceEqDiff, Int.reduceLT, Int.reduceLE, Int.reduceEq, Int.reduceNeg, Int.reducePow, Int.reduceToNat, Nat.zero_add, and_self, and_true, true_and, reduceIte, ev_cutD, ev_cutT, ev_cutL, it_L, it_D, it_T, it_S, cast0, cast1, Int.add_zero, Int.zero_add, Bool.and_true, Bool.true_and, Bool.and_self, Bool.and_false, Bool.false_and]
    refine ⟨some (.d (.int x)), ?_⟩
    rw [syn_snoc, la_snoc]
  · rintro e' ⟨w2, rfl⟩
    rw [hK]; clear hK K
    have e1 : L2.atI (q ++ [z]) (-1) = some z := at_last
    have e2 : (((q ++ [z]).map PyData.int).take (((q ++ [z]).map PyData.int).length - 1)).reverse = q.reverse.map .int := by rw [List.map_append]; simp
    simp only [wpS_seq, e, atI_fI, e1, sRev, datas_fI, e2, fI, wpS_if, wpS_asg, wpS_asgs, wpS_ret, wpS_drop, wpS_skip, wpS_for, wpS_nx, wpS_rt, wp_bind, wp_ok, wp_of_some, eTest, eP, eB, eFr, eFrs, eMov, eFrz, eCons, eNil, eLend, eBin, eCmp, eCmpT, e2, eApp, eTupS, eLstS, eIx, tD, eUn, eTrue, eNotT, eIf, eCall, mCall, pb_nil, pb_none, pb_some, eApnd, eExtd, ePop, ePopAt, eAndT, eOrT, iP, iE, iOne, mVar, mD, mK, mBin, mCmp, mCmpT, mChainT, mOfT, tTrue, mTrue, mAnd, mOr, mNot, mAndT, mOrT, mNotT, mIf, mUn, mNil, mCons, mApp, mTupS, mLstS, mPart, mSlice, tInt, mSliceR, mItems, mItA, mMeth, isLs, isTp, isSt, sAug, sAugI, gNm, gIx, gIx2, gPat, gTwo, gThree, gsNil, gsCons, tg_nm, tg_tp, tgs_nil, tgs_cons, Option.bind_some, of_some, of_none, bind_ok, wp_ite, wpS_ite, ev_eqI, ev_neI, ev_ltI, ev_gtI, ev_leI, ev_geI, ev_addI, ev_iaddI, ev_subI, ev_negI, ev_divI, ev_modI, ev_intI, ev_intB, ev_absI, ev_lenL, ev_lenD, ev_lenT, ev_minI, ev_maxI, ev_tupL, ev_tupD, ev_tupT, ev_listD, ev_listT, ev_listL, ev_getL, ev_getD, ev_getT, atI_0, atI_1, atI_2, atI_3, atI_4, atI_end, ev_sz, ixN_0, ixN_1, ixN_2, ixN_3, ixN_4, put_0, put_s, List.map_cons, List.map_nil, List.replicate_succ, List.replicate_zero, List.cons_append, List.nil_append, List.length_cons, List.length_nil, List.set_cons_zero, List.set_cons_succ, List.getElem?_cons_zero, List.getElem?_cons_succ, Option.map_some, Option.map_none, frz_d, frz_l, frzs_n, frzs_c, frzs_map, frzs_ints, outs_z, outs_s, List.contains_cons, List.contains_nil, decide_eq_true_eq, beq_iff_eq, bne_iff_ne, if_true, if_false, Bool.false_eq_true, Bool.not_eq_true, Bool.or_false, Bool.or_true, Bool.not_true, Bool.not_false, Nat.reduceAdd, Nat.reduceSub, Nat.reduceLT, Nat.reduceLeDiff, Nat.reduceBEq, Nat.reduceEqDiff, Int.reduceLT, Int.reduceLE, Int.reduceEq, Int.reduceNeg, Int.reducePow, Int.reduceToNat, Nat.zero_add, and_self, and_true, true_and, reduceIte, ev_cutD, ev_cutT, ev_cutL, it_L, it_D, it_T, it_S, cast0, cast1, Int.add_zero, Int.zero_add, Bool.and_true, Bool.true_and, Bool.and_self, Bool.and_false, Bool.false_and]
theorem prow_ok {ns : List Int} (rs : List Int) (h : ns ≠ []) (hl : ns.length ≤ 40) (hz : ns.getLast h ≠ 0) (hb : ∀ x ∈ ns, -1000000000000000000000000000000 < x ∧ x < 1000000000000000000000000000000)
    (st : List Int → List Int → Prop) (s0 : st ns rs) (hs : ∀ p r rs', st p (r :: rs') → 0 ≤ r ∧ r ≤ 400 ∧ (∀ r' ∈ rs', r ≤ r') ∧ p.length = rs'.length + 2 ∧ (∃ p', st p' rs' ∧ syn r 0 p.reverse = p'.reverse ++ [0]) ∧ ∀ b, b < r → ∃ q z, z ≠ 0 ∧ syn b 0 p.reverse = q ++ [z])
    (hn : ∀ p, st p [] → p.length = 1) : f_product_row [.d (.tuple (ns.map .int))] = .ok (.d (.tuple (rs.map .int)), [none]) := by
  have hrl : rs.length ≤ 40 := by
    cases rs with
    | nil => simp
    | cons r rs' => have := (hs ns r rs' s0).2.2.2.1; simp; omega
  refine Rs.wp.eq ?_
  unfold f_product_row
  rw [wp_fn]
  unfold b_product_row
  refine wpS_seqK fun K hK => ?_
  simp only [checkpoly_ok h hl hz hb, wpS_if, wpS_asg, wpS_asgs, wpS_ret, wpS_drop, wpS_skip, wpS_for, wpS_nx, wpS_rt, wp_bind, wp_ok, wp_of_some, eTest, eP, eB, eFr, eFrs, eMov, eFrz, eCons, eNil, eLend, eBin, eCmp, eCmpT, e2, eApp, eTupS, eLstS, eIx, tD, eUn, eTrue, eNotT, eIf, eCall, mCall, pb_nil, pb_none, pb_some, eApnd, eExtd, ePop, ePopAt, eAndT, eOrT, iP, iE, iOne, mVar, mD, mK, mBin, mCmp, mCmpT, mChainT, mOfT, tTrue, mTrue, mAnd, mOr, mNot, mAndT, mOrT, mNotT, mIf, mUn, mNil, mCons, mApp, mTupS, mLstS, mPart, mSlice, tInt, mSliceR, mItems, mItA, mMeth, isLs, isTp, isSt, sAug, sAugI, gNm, gIx, gIx2, gPat, gTwo, gThree, gsNil, gsCons, tg_nm, tg_tp, tgs_nil, tgs_cons, Option.bind_some, of_some, of_none, bind_ok, wp_ite, wpS_ite, ev_eqI, ev_neI, ev_ltI, ev_gtI, ev_leI, ev_geI, ev_addI, ev_iaddI, ev_subI, ev_negI, ev_divI, ev_modI, ev_intI, ev_intB, ev_absI, ev_lenL, ev_lenD, ev_lenT, ev_minI, ev_maxI, ev_tupL, ev_tupD, ev_tupT, ev_listD, ev_listT, ev_listL, ev_getL, ev_getD, ev_getT, atI_0, atI_1, atI_2, atI_3, atI_4, atI_end, ev_sz, ixN_0, ixN_1, ixN_2, ixN_3, ixN_4, put_0, put_s, List.map_cons, List.map_nil, List.replicate_succ, List.replicate_zero, List.cons_append, List.nil_append, List.length_cons, List.length_nil, List.set_cons_zero, List.set_cons_succ, List.getElem?_cons_zero, List.getElem?_cons_succ, Option.map_some, Option.map_none, frz_d, frz_l, frzs_n, frzs_c, frzs_map, frzs_ints, outs_z, outs_s, List.contains_cons, List.contains_nil, decide_eq_true_eq, beq_iff_eq, bne_iff_ne, if_true, if_false, Bool.false_eq_true, Bool.not_eq_true, Bool.or_false, Bool.or_true, Bool.not_true, Bool.not_false, Nat.reduceAdd, Nat.reduceSub, Nat.reduceLT, Nat.reduceLeDiff, Nat.reduceBEq, Nat.reduceEqDiff, Int.reduceLT, Int.reduceLE, Int.reduceEq, Int.reduceNeg, Int.reducePow, Int.reduceToNat, Nat.zero_add, and_self, and_true, true_and, reduceIte, ev_cutD, ev_cutT, ev_cutL, it_L, it_D, it_T, it_S, cast0, cast1, Int.add_zero, Int.zero_add, Bool.and_true, Bool.true_and, Bool.and_self, Bool.and_false, Bool.false_and]
  rw [hK]; clear hK K
  refine wpS_seqK fun K hK => ?_
  simp only [wpS_if, wpS_asg, wpS_asgs, wpS_ret, wpS_drop, wpS_skip, wpS_for, wpS_nx, wpS_rt, wp_bind, wp_ok, wp_of_some, eTest, eP, eB, eFr, eFrs, eMov, eFrz, eCons, eNil, eLend, eBin, eCmp, eCmpT, e2, eApp, eTupS, eLstS, eIx, tD, eUn, eTrue, eNotT, eIf, eCall, mCall, pb_nil, pb_none, pb_some, eApnd, eExtd, ePop, ePopAt, eAndT, eOrT, iP, iE, iOne, mVar, mD, mK, mBin, mCmp, mCmpT, mChainT, mOfT, tTrue, mTrue, mAnd, mOr, mNot, mAndT, mOrT, mNotT, mIf, mUn, mNil, mCons, mApp, mTupS, mLstS, mPart, mSlice, tInt, mSliceR, mItems, mItA, mMeth, isLs, isTp, isSt, sAug, sAugI, gNm, gIx, gIx2, gPat, gTwo, gThree, gsNil, gsCons, tg_nm, tg_tp, tgs_nil, tgs_cons, Option.bind_some, of_some, of_none, bind_ok, wp_ite, wpS_ite, ev_eqI, ev_neI, ev_ltI, ev_gtI, ev_leI, ev_geI, ev_addI, ev_iaddI, ev_subI, ev_negI, ev_divI, ev_modI, ev_intI, ev_intB, ev_absI, ev_lenL, ev_lenD, ev_lenT, ev_minI, ev_maxI, ev_tupL, ev_tupD, ev_tupT, ev_listD, ev_listT, ev_listL, ev_getL, ev_getD, ev_getT, atI_0, atI_1, atI_2, atI_3, atI_4, atI_end, ev_sz, ixN_0, ixN_1, ixN_2, ixN_3, ixN_4, put_0, put_s, List.map_cons, List.map_nil, List.replicate_succ, List.replicate_zero, List.cons_append, List.nil_append, List.length_cons, List.length_nil, List.set_cons_zero, List.set_cons_succ, List.getElem?_cons_zero, List.getElem?_cons_succ, Option.map_some, Option.map_none, frz_d, frz_l, frzs_n, frzs_c, frzs_map, frzs_ints, outs_z, outs_s, List.contains_cons, List.contains_nil, decide_eq_true_eq, beq_iff_eq, bne_iff_ne, if_true, if_false, Bool.false_eq_true, Bool.not_eq_true, Bool.or_false, Bool.or_true, Bool.not_true, Bool.not_false, Nat.reduceAdd, Nat.reduceSub, Nat.reduceLT, Nat.reduceLeDiff, Nat.reduceBEq, Nat.reduceEqDiff, Int.reduceLT, Int.reduceLE, Int.reduceEq, Int.reduceNeg, Int.reducePow, Int.reduceToNat, Nat.zero_add, and_self, and_true, true_and, reduceIte, ev_cutD, ev_cutT, ev_cutL, it_L, it_D, it_T, it_S, cast0, cast1, Int.add_zero, Int.zero_add, Bool.and_true, Bool.true_and, Bool.and_self, Bool.and_false, Bool.false_and]
  rw [hK]; clear hK K
  refine wpS_seqK fun K hK => ?_
  refine wpS_while (fun j e => ∃ (p don rest : List Int) (b : Int) (w3 w4 : Option T), e = [some (.d (.tuple (p.map .int))), some (.l (don.map fI)), some (.d (.int b)), w3, w4] ∧ rs = don ++ rest ∧ st p rest ∧ 0 ≤ b ∧ b ≤ 400 ∧ (∀ r ∈ rest, b ≤ r) ∧ j = rest.length + (400 - b).toNat) (rs.length + 400) (by omega) ⟨ns, [], rs, 0, none, none, rfl, rfl, s0, by omega, by omega, ?_, by simp⟩ ?_
  · cases rs with
    | nil => simp
    | cons r rs' =>
      obtain ⟨h0, h1, h2, _⟩ := hs ns r rs' s0
      intro r' hr'
      rcases List.mem_cons.mp hr' with rfl | hr'
      · exact h0
      · exact Int.le_trans h0 (h2 _ hr')
  · rintro j e ⟨p, don, rest, b, w3, w4, rfl, er, hst, hb0, hb1, hbr, rfl⟩
    cases rest with
    | nil =>
      have hp := hn p hst
      simp only [hb1, List.length_map, hp, wpS_if, wpS_asg, wpS_asgs, wpS_ret, wpS_drop, wpS_skip, wpS_for, wpS_nx, wpS_rt, wp_bind, wp_ok, wp_of_some, eTest, eP, eB, eFr, eFrs, eMov, eFrz, eCons, eNil, eLend, eBin, eCmp, eCmpT, e2, eApp, eTupS, eLstS, eIx, tD, eUn, eTrue, eNotT, eIf, eCall, mCall, pb_nil, pb_none, pb_some, eApnd, eExtd, ePop, ePopAt, eAndT, eOrT, iP, iE, iOne, mVar, mD, mK, mBin, mCmp, mCmpT, mChainT, mOfT, tTrue, mTrue, mAnd, mOr, mNot, mAndT, mOrT, mNotT, mIf, mUn, mNil, mCons, mApp, mTupS, mLstS, mPart, mSlice, tInt, mSliceR, mItems, mItA, mMeth, isLs, isTp, isSt, sAug, sAugI, gNm, gIx, gIx2, gPat, gTwo, gThree, gsNil, gsCons, tg_nm, tg_tp, tgs_nil, tgs_cons, Option.bind_some, of_some, of_none, bind_ok, wp_ite, wpS_ite, ev_eqI, ev_neI, ev_ltI, ev_gtI, ev_leI, ev_geI, ev_addI, ev_iaddI, ev_subI, ev_negI, ev_divI, ev_modI, ev_intI, ev_intB, ev_absI, ev_lenL, ev_lenD, ev_lenT, ev_minI, ev_maxI, ev_tupL, ev_tupD, ev_tupT, ev_listD, ev_listT, ev_listL, ev_getL, ev_getD, ev_getT, atI_0, atI_1, atI_2, atI_3, atI_4, atI_end, ev_sz, ixN_0, ixN_1, ixN_2, ixN_3, ixN_4, put_0, put_s, List.map_cons, List.map_nil, List.replicate_succ, List.replicate_zero, List.cons_append, List.nil_append, List.length_cons, List.length_nil, List.set_cons_zero, List.set_cons_succ, List.getElem?_cons_zero, List.getElem?_cons_succ, Option.map_some, Option.map_none, frz_d, frz_l, frzs_n, frzs_c, frzs_map, frzs_ints, outs_z, outs_s, List.contains_cons, List.contains_nil, decide_eq_true_eq, beq_iff_eq, bne_iff_ne, if_true, if_false, Bool.false_eq_true, Bool.not_eq_true, Bool.or_false, Bool.or_true, Bool.not_true, Bool.not_false, Nat.reduceAdd, Nat.reduceSub, Nat.reduceLT, Nat.reduceLeDiff, Nat.reduceBEq, Nat.reduceEqDiff, Int.reduceLT, Int.reduceLE, Int.reduceEq, Int.reduceNeg, Int.reducePow, Int.reduceToNat, Nat.zero_add, and_self, and_true, true_and, reduceIte, ev_cutD, ev_cutT, ev_cutL, it_L, it_D, it_T, it_S, cast0, cast1, Int.add_zero, Int.zero_add, Bool.and_true, Bool.true_and, Bool.and_self, Bool.and_false, Bool.false_and]
      rw [hK]; clear hK K
      rw [List.append_nil] at er
      subst er
      simp only [wpS_seq, ← map_fI, wpS_if, wpS_asg, wpS_asgs, wpS_ret, wpS_drop, wpS_skip, wpS_for, wpS_nx, wpS_rt, wp_bind, wp_ok, wp_of_some, eTest, eP, eB, eFr, eFrs, eMov, eFrz, eCons, eNil, eLend, eBin, eCmp, eCmpT, e2, eApp, eTupS, eLstS, eIx, tD, eUn, eTrue, eNotT, eIf, eCall, mCall, pb_nil, pb_none, pb_some, eApnd, eExtd, ePop, ePopAt, eAndT, eOrT, iP, iE, iOne, mVar, mD, mK, mBin, mCmp, mCmpT, mChainT, mOfT, tTrue, mTrue, mAnd, mOr, mNot, mAndT, mOrT, mNotT, mIf, mUn, mNil, mCons, mApp, mTupS, mLstS, mPart, mSlice, tInt, mSliceR, mItems, mItA, mMeth, isLs, isTp, isSt, sAug, sAugI, gNm, gIx, gIx2, gPat, gTwo, gThree, gsNil, gsCons, tg_nm, tg_tp, tgs_nil, tgs_cons, Option.bind_some, of_some, of_none, bind_ok, wp_ite, wpS_ite, ev_eqI, ev_neI, ev_ltI, ev_gtI, ev_leI, ev_geI, ev_addI, ev_iaddI, ev_subI, ev_negI, ev_divI, ev_modI, ev_intI, ev_intB, ev_absI, ev_lenL, ev_lenD, ev_lenT, ev_minI, ev_maxI, ev_tupL, ev_tupD, ev_tupT, ev_listD, ev_listT, ev_listL, ev_getL, ev_getD, ev_getT, atI_0, atI_1, atI_2, atI_3, atI_4, atI_end, ev_sz, ixN_0, ixN_1, ixN_2, ixN_3, ixN_4, put_0, put_s, List.map_cons, List.map_nil, List.replicate_succ, List.replicate_zero, List.cons_append, List.nil_append, List.length_cons, List.length_nil, List.set_cons_zero, List.set_cons_succ, List.getElem?_cons_zero, List.getElem?_cons_succ, Option.map_some, Option.map_none, frz_d, frz_l, frzs_n, frzs_c, frzs_map, frzs_ints, outs_z, outs_s, List.contains_cons, List.contains_nil, decide_eq_true_eq, beq_iff_eq, bne_iff_ne, if_true, if_false, Bool.false_eq_true, Bool.not_eq_true, Bool.or_false, Bool.or_true, Bool.not_true, Bool.not_false, Nat.reduceAdd, Nat.reduceSub, Nat.reduceLT, Nat.reduceLeDiff, Nat.reduceBEq, Nat.reduceEqDiff, Int.reduceLT, Int.reduceLE, Int.reduceEq, Int.reduceNeg, Int.reducePow, Int.reduceToNat, Nat.zero_add, and_self, and_true, true_and, reduceIte, ev_cutD, ev_cutT, ev_cutL, it_L, it_D, it_T, it_S, cast0, cast1, Int.add_zero, Int.zero_add, Bool.and_true, Bool.true_and, Bool.and_self, Bool.and_false, Bool.false_and]
    | cons r rest =>
      obtain ⟨h0, h1, h2, h3, ⟨p', hst', e1⟩, h5⟩ := hs p r rest hst
      have hbr' := hbr r List.mem_cons_self
      have hpn : p ≠ [] := by intro z; rw [z] at h3; simp at h3
      have hp1 : (1 : Int) < p.length := by omega
      have hrest : rest.length ≤ 40 := by have := congrArg List.length er; simp at this; omega
      have hdon : don.length ≤ 40 := by have := congrArg List.length er; simp at this; omega
      simp only [hb1, List.length_map, hp1, wpS_seq, wpS_if, wpS_asg, wpS_asgs, wpS_ret, wpS_drop, wpS_skip, wpS_for, wpS_nx, wpS_rt, wp_bind, wp_ok, wp_of_some, eTest, eP, eB, eFr, eFrs, eMov, eFrz, eCons, eNil, eLend, eBin, eCmp, eCmpT, e2, eApp, eTupS, eLstS, eIx, tD, eUn, eTrue, eNotT, eIf, eCall, mCall, pb_nil, pb_none, pb_some, eApnd, eExtd, ePop, ePopAt, eAndT, eOrT, iP, iE, iOne, mVar, mD, mK, mBin, mCmp, mCmpT, mChainT, mOfT, tTrue, mTrue, mAnd, mOr, mNot, mAndT, mOrT, mNotT, mIf, mUn, mNil, mCons, mApp, mTupS, mLstS, mPart, mSlice, tInt, mSliceR, mItems, mItA, mMeth, isLs, isTp, isSt, sAug, sAugI, gNm, gIx, gIx2, gPat, gTwo, gThree, gsNil, gsCons, tg_nm, tg_tp, tgs_nil, tgs_cons, Option.bind_some, of_some, of_none, bind_ok, wp_ite, wpS_ite, ev_eqI, ev_neI, ev_ltI, ev_gtI, ev_leI, ev_geI, ev_addI, ev_iaddI, ev_subI, ev_negI, ev_divI, ev_modI, ev_intI, ev_intB, ev_absI, ev_lenL, ev_lenD, ev_lenT, ev_minI, ev_maxI, ev_tupL, ev_tupD, ev_tupT, ev_listD, ev_listT, ev_listL, ev_getL, ev_getD, ev_getT, atI_0, atI_1, atI_2, atI_3, atI_4, atI_end, ev_sz, ixN_0, ixN_1, ixN_2, ixN_3, ixN_4, put_0, put_s, List.map_cons, List.map_nil, List.replicate_succ, List.replicate_zero, List.cons_append, List.nil_append, List.length_cons, List.length_nil, List.set_cons_zero, List.set_cons_succ, List.getElem?_cons_zero, List.getElem?_cons_succ, Option.map_some, Option.map_none, frz_d, frz_l, frzs_n, frzs_c, frzs_map, frzs_ints, outs_z, outs_s, List.contains_cons, List.contains_nil, decide_eq_true_eq, beq_iff_eq, bne_iff_ne, if_true, if_false, Bool.false_eq_true, Bool.not_eq_true, Bool.or_false, Bool.or_true, Bool.not_true, Bool.not_false, Nat.reduceAdd, Nat.reduceSub, Nat.reduceLT, Nat.reduceLeDiff, Nat.reduceBEq, Nat.reduceEqDiff, Int.reduceLT, Int.reduceLE, Int.reduceEq, Int.reduceNeg, Int.reducePow, Int.reduceToNat, Nat.zero_add, and_self, and_true, true_and, reduceIte, ev_cutD, ev_cutT, ev_cutL, it_L, it_D, it_T, it_S, cast0, cast1, Int.add_zero, Int.zero_add, Bool.and_true, Bool.true_and, Bool.and_self, Bool.and_false, Bool.false_and]
      by_cases hbe : b = r
      · subst hbe
        simp only [div_ok (q := p'.reverse) (z := 0) ⟨by omega, by omega⟩ hpn (by omega) e1, List.length_map, show don.length < 16777216 by omega, app_fI, List.reverse_reverse, wpS_if, wpS_asg, wpS_asgs, wpS_ret, wpS_drop, wpS_skip, wpS_for, wpS_nx, wpS_rt, wp_bind, wp_ok, wp_of_some, eTest, eP, eB, eFr, eFrs, eMov, eFrz, eCons, eNil, eLend, eBin, eCmp, eCmpT, e2, eApp, eTupS, eLstS, eIx, tD, eUn, eTrue, eNotT, eIf, eCall, mCall, pb_nil, pb_none, pb_some, eApnd, eExtd, ePop, ePopAt, eAndT, eOrT, iP, iE, iOne, mVar, mD, mK, mBin, mCmp, mCmpT, mChainT, mOfT, tTrue, mTrue, mAnd, mOr, mNot, mAndT, mOrT, mNotT, mIf, mUn, mNil, mCons, mApp, mTupS, mLstS, mPart, mSlice, tInt, mSliceR, mItems, mItA, mMeth, isLs, isTp, isSt, sAug, sAugI, gNm, gIx, gIx2, gPat, gTwo, gThree, gsNil, gsCons, tg_nm, tg_tp, tgs_nil, tgs_cons, Option.bind_some, of_some, of_none, bind_ok, wp_ite, wpS_ite, ev_eqI, ev_neI, ev_ltI, ev_gtI, ev_leI, ev_geI, ev_addI, ev_iaddI, ev_subI, ev_negI, ev_divI, ev_modI, ev_intI, ev_intB, ev_absI, ev_lenL, ev_lenD, ev_lenT, ev_minI, ev_maxI, ev_tupL, ev_tupD, ev_tupT, ev_listD, ev_listT, ev_listL, ev_getL, ev_getD, ev_getT, atI_0, atI_1, atI_2, atI_3, atI_4, atI_end, ev_sz, ixN_0, ixN_1, ixN_2, ixN_3, ixN_4, put_0, put_s, List.map_cons, List.map_nil, List.replicate_succ, List.replicate_zero, List.cons_append, List.nil_append, List.length_cons, List.length_nil, List.set_cons_zero, List.set_cons_succ, List.getElem?_cons_zero, List.getElem?_cons_succ, Option.map_some, Option.map_none, frz_d, frz_l, frzs_n, frzs_c, frzs_map, frzs_ints, outs_z, outs_s, List.contains_cons, List.contains_nil, decide_eq_true_eq, beq_iff_eq, bne_iff_ne, if_true, if_false, Bool.false_eq_true, Bool.not_eq_true, Bool.or_false, Bool.or_true, Bool.not_true, Bool.not_false, Nat.reduceAdd, Nat.reduceSub, Nat.reduceLT, Nat.reduceLeDiff, Nat.reduceBEq, Nat.reduceEqDiff, Int.reduceLT, Int.reduceLE, Int.reduceEq, Int.reduceNeg, Int.reducePow, Int.reduceToNat, Nat.zero_add, and_self, and_true, true_and, reduceIte, ev_cutD, ev_cutT, ev_cutL, it_L, it_D, it_T, it_S, cast0, cast1, Int.add_zero, Int.zero_add, Bool.and_true, Bool.true_and, Bool.and_self, Bool.and_false, Bool.false_and]
        exact ⟨_, by omega, p', don ++ [b], rest, b, _, _, rfl, by rw [er, List.append_assoc]; rfl, hst', hb0, hb1, h2, rfl⟩
      · obtain ⟨q, z, hz0, e2⟩ := h5 b (by omega)
        simp only [div_ok (q := q) (z := z) ⟨by omega, by omega⟩ hpn (by omega) e2, hz0, sAug, wpS_if, wpS_asg, wpS_asgs, wpS_ret, wpS_drop, wpS_skip, wpS_for, wpS_nx, wpS_rt, wp_bind, wp_ok, wp_of_some, eTest, eP, eB, eFr, eFrs, eMov, eFrz, eCons, eNil, eLend, eBin, eCmp, eCmpT, e2, eApp, eTupS, eLstS, eIx, tD, eUn, eTrue, eNotT, eIf, eCall, mCall, pb_nil, pb_none, pb_some, eApnd, eExtd, ePop, ePopAt, eAndT, eOrT, iP, iE, iOne, mVar, mD, mK, mBin, mCmp, mCmpT, mChainT, mOfT, tTrue, mTrue, mAnd, mOr, mNot, mAndT, mOrT, mNotT, mIf, mUn, mNil, mCons, mApp, mTupS, mLstS, mPart, mSlice, tInt, mSliceR, mItems, mItA, mMeth, isLs, isTp, isSt, sAug, sAugI, gNm, gIx, gIx2, gPat, gTwo, gThree, gsNil, gsCons, tg_nm, tg_tp, tgs_nil, tgs_cons, Option.bind_some, of_some, of_none, bind_ok, wp_ite, wpS_ite, ev_eqI, ev_neI, ev_ltI, ev_gtI, ev_leI, ev_geI, ev_addI, ev_iaddI, ev_subI, ev_negI, ev_divI, ev_modI, ev_intI, ev_intB, ev_absI, ev_lenL, ev_lenD, ev_lenT, ev_minI, ev_maxI, ev_tupL, ev_tupD, ev_tupT, ev_listD, ev_listT, ev_listL, ev_getL, ev_getD, ev_getT, atI_0, atI_1, atI_2, atI_3, atI_4, atI_end, ev_sz, ixN_0, ixN_1, ixN_2, ixN_3, ixN_4, put_0, put_s, List.map_cons, List.map_nil, List.replicate_succ, List.replicate_zero, List.cons_append, List.nil_append, List.length_cons, List.length_nil, List.set_cons_zero, List.set_cons_succ, List.getElem?_cons_zero, List.getElem?_cons_succ, Option.map_some, Option.map_none, frz_d, frz_l, frzs_n, frzs_c, frzs_map, frzs_ints, outs_z, outs_s, List.contains_cons, List.contains_nil, decide_eq_true_eq, beq_iff_eq, bne_iff_ne, if_true, if_false, Bool.false_eq_true, Bool.not_eq_true, Bool.or_false, Bool.or_true, Bool.not_true, Bool.not_false, Nat.reduceAdd, Nat.reduceSub, Nat.reduceLT, Nat.reduceLeDiff, Nat.reduceBEq, Nat.reduceEqDiff, Int.reduceLT, Int.reduceLE, Int.reduceEq, Int.reduceNeg, Int.reducePow, Int.reduceToNat, Nat.zero_add, and_self, and_true, true_and, reduceIte, ev_cutD, ev_cutT, ev_cutL, it_L, it_D, it_T, it_S, cast0, cast1, Int.add_zero, Int.zero_add, Bool.and_true, Bool.true_and, Bool.and_self, Bool.and_false, Bool.false_and]
        refine ⟨_, ?_, p, don, r :: rest, b + 1, _, _, rfl, er, hst, by omega, by omega, ?_, rfl⟩
        · have : (r :: rest).length = rest.length + 1 := rfl; omega
        · intro r' hr'
          rcases List.mem_cons.mp hr' with rfl | hr'
          · omega
          · have := h2 r' hr'; omega
/-! ### the polynomials -/
def gd (l : List Int) (i : Nat) : Int := l[i]?.getD 0
theorem gd_ext {a b : List Int} (hl : a.length = b.length) (h : ∀ i, gd a i = gd b i) : a = b := by
  refine List.ext_getElem hl fun i h1 h2 => ?_
  have := h i
  unfold gd at this
  rwa [List.getElem?_eq_getElem h1, List.getElem?_eq_getElem h2] at this
theorem fr_gd {c0 c1 : Int} : ∀ (p : Int) (l : List Int) (i : Nat), gd (fr c0 c1 p l ++ [la p l * c1]) i = gd l i * c0 + (if i = 0 then p else gd l (i - 1)) * c1
  | p, [], 0 => by simp [fr, la, gd]
  | p, [], i + 1 => by simp [fr, la, gd]
  | p, x :: xs, 0 => by simp [fr, gd]; omega
  | p, x :: xs, i + 1 => by
    have ih := fr_gd (c0 := c0) (c1 := c1) x xs i
    have e : gd (fr c0 c1 p (x :: xs) ++ [la p (x :: xs) * c1]) (i + 1) = gd (fr c0 c1 x xs ++ [la x xs * c1]) i := by
      show gd ((p * c1 + x * c0) :: (fr c0 c1 x xs ++ [la x xs * c1])) (i + 1) = _
      unfold gd; rw [List.getElem?_cons_succ]
    rw [e, ih]
    have e2 : gd (x :: xs) (i + 1) = gd xs i := by unfold gd; rw [List.getElem?_cons_succ]
    have e3 : gd (x :: xs) (i + 1 - 1) = if i = 0 then x else gd xs (i - 1) := by
      cases i with
      | zero => simp [gd]
      | succ i => unfold gd; simp
    rw [e2, e3, if_neg (Nat.succ_ne_zero i)]
theorem lin_gd {c0 c1 : Int} {l : List Int} {i : Nat} : gd (lin c0 c1 l) i = gd l i * c0 + (if i = 0 then 0 else gd l (i - 1)) * c1 := fr_gd 0 l i
theorem lin_comm {a b c d : Int} {l : List Int} : lin a b (lin c d l) = lin c d (lin a b l) := by
  refine gd_ext (by simp [lin_len]) fun i => ?_
  match i with
  | 0 => simp only [lin_gd]; grind
  | 1 => simp only [lin_gd]; grind
  | i + 2 => simp only [lin_gd]; grind
theorem hor_gd {s t : Int} {ts : List Int} {i : Nat} : gd (hor s (t :: ts)) i = gd (hor s ts) i * s + (if i = 0 then 0 else gd (hor s ts) (i - 1)) * -1 + if i = 0 then t else 0 := by
  rw [← lin_gd, hor]
  obtain ⟨a, l', e⟩ := lin_ne (c0 := s) (c1 := -1) (l := hor s ts)
  rw [e]
  cases i with
  | zero => simp [gd]
  | succ i => simp [gd]
theorem hor_fr {s r : Int} : ∀ (p : Int) (l : List Int) (i : Nat), gd (hor s (fr (-r) 1 p l ++ [la p l * 1])) i = gd (hor s l) i * (s - r) + (if i = 0 then 0 else gd (hor s l) (i - 1)) * -1 + if i = 0 then p else 0
  | p, [], i => by
    show gd (hor s [p * 1]) i = _
    rw [hor_gd]
    match i with
    | 0 => simp [hor, gd]
    | 1 => simp [hor, gd]
    | i + 2 => simp [hor, gd]
  | p, x :: xs, i => by
    have ih := hor_fr (s := s) (r := r) x xs
    show gd (hor s ((p * 1 + x * -r) :: (fr (-r) 1 x xs ++ [la x xs * 1]))) i = _
    rw [hor_gd, ih i, ih (i - 1), hor_gd, hor_gd]
    match i with
    | 0 => grind
    | 1 => grind
    | i + 2 => grind
theorem hor_lin {s r : Int} {l : List Int} : hor s (lin (-r) 1 l) = lin (s - r) (-1) (hor s l) := by
  refine gd_ext (by simp [lin_len, hor_len]) fun i => ?_
  have := hor_fr (s := s) (r := r) 0 l i
  rw [lin_gd]
  unfold lin
  rw [this]
  split <;> simp
def Pr (rs : List Int) : List Int := rs.foldl (fun p r => lin (-r) 1 p) [1]
def Tr (s : Int) (rs : List Int) : List Int := rs.foldl (fun p r => lin (s - r) (-1) p) [1]
theorem Pr_snoc {rs : List Int} {r : Int} : Pr (rs ++ [r]) = lin (-r) 1 (Pr rs) := by unfold Pr; rw [List.foldl_append]; rfl
theorem Tr_snoc {s : Int} {rs : List Int} {r : Int} : Tr s (rs ++ [r]) = lin (s - r) (-1) (Tr s rs) := by unfold Tr; rw [List.foldl_append]; rfl
theorem fold_lin {r : Int} : ∀ (rs : List Int) (l : List Int), rs.foldl (fun p r => lin (-r) 1 p) (lin (-r) 1 l) = lin (-r) 1 (rs.foldl (fun p r => lin (-r) 1 p) l)
  | [], _ => rfl
  | x :: rs, l => by
    rw [List.foldl_cons, List.foldl_cons, lin_comm, fold_lin rs]
theorem Pr_cons {r : Int} {rs : List Int} : Pr (r :: rs) = lin (-r) 1 (Pr rs) := by unfold Pr; rw [List.foldl_cons, fold_lin]
theorem Pr_len (rs : List Int) : (Pr rs).length = rs.length + 1 := by
  induction rs with
  | nil => rfl
  | cons r rs ih => rw [Pr_cons, lin_len, ih]; rfl
theorem lin_zero {c0 c1 : Int} {l : List Int} : lin c0 c1 (l ++ [0]) = lin c0 c1 l ++ [0] := by
  unfold lin
  rw [fr_snoc, la_snoc, Int.zero_mul, Int.zero_mul, Int.add_zero]
theorem snoc_ind {α : Type} {P : List α → Prop} (h0 : P []) (h1 : ∀ l x, P l → P (l ++ [x])) (l : List α) : P l := by
  rw [← List.reverse_reverse l]
  induction l.reverse with
  | nil => exact h0
  | cons x xs ih => rw [List.reverse_cons]; exact h1 _ _ ih
theorem hor_Pr {s : Int} (rs : List Int) : hor s (Pr rs) = Tr s rs ++ [0] := by
  induction rs using snoc_ind with
  | h0 =>
    show hor s [1] = [1] ++ [0]
    simp [hor, lin, fr, la]
  | h1 l x ih => rw [Pr_snoc, Tr_snoc, hor_lin, ih, lin_zero]
theorem lin_last {c0 c1 y : Int} {L : List Int} : lin c0 c1 (L ++ [y]) = fr c0 c1 0 (L ++ [y]) ++ [y * c1] := by unfold lin; rw [la_snoc]
theorem Pr_last (rs : List Int) : ∃ L, Pr rs = L ++ [1] := by
  induction rs using snoc_ind with
  | h0 => exact ⟨[], rfl⟩
  | h1 l x ih =>
    obtain ⟨L, e⟩ := ih
    rw [Pr_snoc, e, lin_last]
    exact ⟨_, rfl⟩
theorem Tr_last {s : Int} (rs : List Int) : ∃ L y, Tr s rs = L ++ [y] ∧ y ≠ 0 := by
  induction rs using snoc_ind with
  | h0 => exact ⟨[], 1, rfl, by decide⟩
  | h1 l x ih =>
    obtain ⟨L, y, e, h⟩ := ih
    rw [Tr_snoc, e, lin_last]
    exact ⟨_, _, rfl, by omega⟩
def nb (M : Nat) (l : List Int) : Prop := ∀ x ∈ l, x.natAbs ≤ M
theorem fr_nb {c0 c1 : Int} {C M : Nat} (hc : c0.natAbs + c1.natAbs ≤ C) : ∀ (p : Int) (l : List Int), p.natAbs ≤ M → nb M l → nb (M * C) (fr c0 c1 p l ++ [la p l * c1])
  | p, [], hp, _ => by
    intro x hx
    rw [show fr c0 c1 p [] ++ [la p [] * c1] = [p * c1] from rfl, List.mem_singleton] at hx
    subst hx
    rw [Int.natAbs_mul]
    exact Nat.mul_le_mul hp (by omega)
  | p, y :: ys, hp, h => by
    intro x hx
    rw [show fr c0 c1 p (y :: ys) ++ [la p (y :: ys) * c1] = (p * c1 + y * c0) :: (fr c0 c1 y ys ++ [la y ys * c1]) from rfl] at hx
    have hy := h y List.mem_cons_self
    rcases List.mem_cons.mp hx with rfl | hx
    · refine Nat.le_trans (Int.natAbs_add_le _ _) ?_
      rw [Int.natAbs_mul, Int.natAbs_mul]
      have h1 := Nat.mul_le_mul_right c1.natAbs hp
      have h2 := Nat.mul_le_mul_right c0.natAbs hy
      have h3 := Nat.mul_le_mul_left M hc
      rw [Nat.mul_add] at h3
      omega
    · exact fr_nb hc y ys hy (fun z hz => h z (List.mem_cons_of_mem _ hz)) x hx
theorem lin_nb {c0 c1 : Int} {C M : Nat} {l : List Int} (hc : c0.natAbs + c1.natAbs ≤ C) (h : nb M l) : nb (M * C) (lin c0 c1 l) := fr_nb hc 0 l (by simp) h
theorem Pr_nb {rs : List Int} (h : ∀ r ∈ rs, r.natAbs ≤ 400) : nb (1401 ^ rs.length) (Pr rs) := by
  induction rs using snoc_ind with
  | h0 => intro x hx; rw [show Pr [] = [1] from rfl, List.mem_singleton] at hx; subst hx; decide
  | h1 l x ih =>
    rw [Pr_snoc, List.length_append]
    have := h x (by simp)
    exact lin_nb (C := 1401) (by rw [Int.natAbs_neg]; have : (1 : Int).natAbs = 1 := rfl; omega) (ih fun r hr => h r (by simp [hr]))
theorem Tr_nb {s : Int} (hs : s.natAbs ≤ 1000) {rs : List Int} (h : ∀ r ∈ rs, r.natAbs ≤ 400) : nb (1401 ^ rs.length) (Tr s rs) := by
  induction rs using snoc_ind with
  | h0 => intro x hx; rw [show Tr s [] = [1] from rfl, List.mem_singleton] at hx; subst hx; decide
  | h1 l x ih =>
    rw [Tr_snoc, List.length_append]
    have := h x (by simp)
    exact lin_nb (C := 1401) (by have : (-1 : Int).natAbs = 1 := rfl; omega) (ih fun r hr => h r (by simp [hr]))
/-! the value at a place -/
theorem syn_lin {b r : Int} : ∀ (p : Int) (q : List Int), ∃ A z, syn b 0 (fr (-r) 1 p q ++ [la p q * 1]).reverse = A ++ [z] ∧ z = p + (b - r) * la 0 (syn b 0 q.reverse)
  | p, [] => ⟨[], p, by simp [fr, la, syn], by simp [syn, la]⟩
  | p, x :: xs => by
    obtain ⟨A, z, e, hz⟩ := syn_lin (b := b) (r := r) x xs
    have e2 : (fr (-r) 1 p (x :: xs) ++ [la p (x :: xs) * 1]).reverse = (fr (-r) 1 x xs ++ [la x xs * 1]).reverse ++ [p * 1 + x * -r] := by
      show ((p * 1 + x * -r) :: (fr (-r) 1 x xs ++ [la x xs * 1])).reverse = _
      rw [List.reverse_cons]
    refine ⟨A ++ [z], z * b + (p * 1 + x * -r), ?_, ?_⟩
    · rw [e2, syn_snoc, e, la_snoc]
    · rw [List.reverse_cons, syn_snoc, la_snoc, hz]
      grind
theorem Pr_val {b : Int} (rs : List Int) (h : ∀ r ∈ rs, b ≠ r) : la 0 (syn b 0 (Pr rs).reverse) ≠ 0 := by
  induction rs with
  | nil => show la 0 (syn b 0 [1]) ≠ 0; simp [syn, la]
  | cons r rs ih =>
    have h1 := ih fun r' hr' => h r' (List.mem_cons_of_mem _ hr')
    have h2 : b - r ≠ 0 := by have := h r List.mem_cons_self; omega
    obtain ⟨A, z, e, hz⟩ := syn_lin (b := b) (r := r) 0 (Pr rs)
    rw [Pr_cons]
    unfold lin
    rw [e, la_snoc, hz, Int.zero_add]
    exact Int.mul_ne_zero h2 h1
theorem product_ok {rs : List Int} (hn : rs.length ≤ 6) (h : ∀ r ∈ rs, 0 ≤ r ∧ r ≤ 400) (hs : rs.Pairwise (· ≤ ·)) : f_product_row [.d (.tuple ((Pr rs).map .int))] = .ok (.d (.tuple (rs.map .int)), [none]) := by
  obtain ⟨L, eL⟩ := Pr_last rs
  have hne : Pr rs ≠ [] := by rw [eL]; simp
  have hp : (1401 : Nat) ^ rs.length ≤ 1401 ^ 6 := Nat.pow_le_pow_right (by decide) hn
  refine prow_ok rs hne (by rw [Pr_len]; omega) (by simp only [eL, List.getLast_append]; simp) (fun x hx => ?_) (fun p rs => p = Pr rs ∧ (∀ r ∈ rs, 0 ≤ r ∧ r ≤ 400) ∧ rs.Pairwise (· ≤ ·)) ⟨rfl, h, hs⟩ ?_ ?_
  · have := Pr_nb (fun r hr => by have := h r hr; omega) x hx
    omega
  · rintro p r rs' ⟨rfl, h1, h2⟩
    have hr := h1 r List.mem_cons_self
    rw [List.pairwise_cons] at h2
    refine ⟨hr.1, hr.2, h2.1, by rw [Pr_len]; rfl, ⟨Pr rs', ⟨rfl, fun r' hr' => h1 r' (List.mem_cons_of_mem _ hr'), h2.2⟩, ?_⟩, fun b hb => ?_⟩
    · rw [Pr_cons]
      have := syn_div (r := r) 0 (Pr rs') (by intro z; have := Pr_len rs'; rw [z] at this; simp at this)
      exact this
    · have hv := Pr_val (b := b) (r :: rs') fun r' hr' => by
        rcases List.mem_cons.mp hr' with rfl | hr'
        · omega
        · have := h2.1 r' hr'; omega
      obtain ⟨A, z, e, hz⟩ := syn_lin (b := b) (r := r) 0 (Pr rs')
      rw [Pr_cons] at hv ⊢
      unfold lin at hv ⊢
      rw [e, la_snoc] at hv
      exact ⟨A, z, hv, e⟩
  · rintro p ⟨rfl, _⟩
    rfl
theorem turnedT_ok {s : Int} {rs : List Int} (hs : s.natAbs ≤ 1000) (hn : rs.length ≤ 6) (h : ∀ r ∈ rs, 0 ≤ r ∧ r ≤ 400) : f_turned_about [.d (.tuple ((Pr rs).map .int)), .d (.int s)] = .ok (.d (.tuple ((Tr s rs).map .int)), [none, none]) := by
  obtain ⟨L, eL⟩ := Pr_last rs
  have hne : Pr rs ≠ [] := by rw [eL]; simp
  have hp : (1401 : Nat) ^ rs.length ≤ 1401 ^ 6 := Nat.pow_le_pow_right (by decide) hn
  obtain ⟨T, y, eT, hy⟩ := Tr_last (s := s) rs
  rw [eT]
  refine turned_ok (by omega) (by omega) hne (by rw [Pr_len]; omega) (by simp only [eL, List.getLast_append]; simp) (fun x hx => ?_) hy (by rw [hor_Pr, eT])
  have := Pr_nb (fun r hr => by have := h r hr; omega) x hx
  omega
end K22

set_option maxHeartbeats 4000000
namespace K22
open PySem PySem.Spec L2 Mi

theorem is_eq : f__law_is = fIsS := rfl
def planes (n lo hi : Int) : List PyData := (List.range n.toNat).flatMap fun i => ((List.range n.toNat).drop (i + 1)).flatMap fun j => (List.range (hi + 1 - lo).toNat).map fun (a : Nat) => PyData.tuple [.int (i : Nat), .int (j : Nat), .int (lo + (a : Nat))]
theorem cut_ok {n lo hi : Int} (hn : n = 2 ∨ n = 3 ∨ n = 4 ∨ n = 5) (hlo : lo = -1 ∨ lo = 0 ∨ lo = 1) (hhi : hi = 0 ∨ hi = 1 ∨ hi = 2) (hp : ((planes n (min lo hi) hi).length ≤ 30)) : f_run_cut [.d (.int n), .d (.int (min lo hi)), .d (.int hi)] = .ok (.d (.tuple [.int n, .tuple (planes n (min lo hi) hi)]), [none, none, none]) := by
  revert hp
  rcases hn with rfl | rfl | rfl | rfl <;> rcases hlo with rfl | rfl | rfl <;> rcases hhi with rfl | rfl | rfl <;> first | (intro h; exact absurd h (by decide +kernel)) | (intro _; kernel_rfl)
theorem own_ok {n lo hi : Int} (hn : n = 2 ∨ n = 3 ∨ n = 4 ∨ n = 5) (hlo : lo = -1 ∨ lo = 0 ∨ lo = 1) (hhi : hi = 0 ∨ hi = 1 ∨ hi = 2) (h : T) (w1 w2 w6 w7 w8 : Option T) :
    (sFor (iP (mItA rng1 (mCons (mVar 9) mNil))) (.nm 5) (sSeq (sFor (iP (mItA rng2 (mCons (mBin oAdd (mVar 5) (mK (.int 1))) (mCons (mVar 9) mNil)))) (.nm 11) (sSeq (sDrop (eExtd 4 (eP (mLc (mItA rng2 (mCons (mVar 3) (mCons (mBin oAdd (mVar 10) (mK (.int 1))) mNil))) (.nm 12) mYes (mTupS (mCons (mD (mVar 5)) (mCons (mD (mVar 11)) (mCons (mD (mVar 12)) mNil)))) [12]))))
    sSkip))
    sSkip)) [some h, w1, w2, some (.d (.int (min lo hi))), some (.l []), none, w6, w7, w8, some (.d (.int n)), some (.d (.int hi)), none, none] = .ok (.nx, [some h, w1, w2, some (.d (.int (min lo hi))), some (.l ((planes n (min lo hi) hi).map .d)), some (.d (.int (n - 1))), w6, w7, w8, some (.d (.int n)), some (.d (.int hi)), some (.d (.int (n - 1))), none]) := by
  rcases hn with rfl | rfl | rfl | rfl <;> rcases hlo with rfl | rfl | rfl <;> rcases hhi with rfl | rfl | rfl <;> kernel_rfl
theorem planes_sh (n lo hi : Int) (h1 : n.toNat ≤ 5) (h2 : lo.natAbs ≤ 100) (h3 : (hi + 1 - lo).toNat ≤ 100) : ∀ x ∈ planes n lo hi, Sh 400 1 x := by
  intro x hx
  unfold planes at hx
  obtain ⟨i, hi', hx⟩ := List.mem_flatMap.mp hx
  obtain ⟨j, hj, hx⟩ := List.mem_flatMap.mp hx
  obtain ⟨a, ha, rfl⟩ := List.mem_map.mp hx
  have hi2 := List.mem_range.mp hi'
  have hj2 := List.mem_range.mp (List.mem_of_mem_drop hj)
  have ha2 := List.mem_range.mp ha
  refine (sh_tup (w := 110) (k := 0) (n := 3) (fun x hx => ?_) (by simp)).up (by decide) (by decide)
  simp only [List.mem_cons, List.not_mem_nil, or_false] at hx
  rcases hx with rfl | rfl | rfl
  · exact sh_int (by omega)
  · exact sh_int (by omega)
  · exact sh_int (by omega)
theorem middle_ok {n lo hi : Int} (hn : n = 2 ∨ n = 3 ∨ n = 4 ∨ n = 5) (hlo : lo = -1 ∨ lo = 0 ∨ lo = 1) (hhi : hi = 0 ∨ hi = 1 ∨ hi = 2) : f_run_middle [.d (.int n), .d (.int (min lo hi)), .d (.int hi)] = .ok (.d (.int (n * (hi - min lo hi + 1))), [none, none, none]) := by
  rcases hn with rfl | rfl | rfl | rfl <;> rcases hlo with rfl | rfl | rfl <;> rcases hhi with rfl | rfl | rfl <;> kernel_rfl
theorem right_ok {h : T} (hh : HandOk h) : (f__law_is_right [h]).wp fun r => ∃ h' : T, r = (.d (.bool true), [some h']) ∧ HandOk h' := by
  unfold f__law_is_right; rw [wp_fn]; unfold b__law_is_right
  rw [any_eq, draw_eq, is_eq]
  refine wpS_seqK fun K hK => ?_
  simp only [wpS_if, wpS_asg, wpS_asgs, wpS_ret, wpS_drop, wpS_skip, wpS_for, wpS_nx, wpS_rt, wp_bind, wp_ok, wp_of_some, eTest, eP, eB, eFr, eFrs, eMov, eFrz, eCons, eNil, eLend, eBin, eCmp, eCmpT, e2, eApp, eTupS, eLstS, eIx, tD, eUn, eTrue, eNotT, eIf, eCall, mCall, pb_nil, pb_none, pb_some, eApnd, eExtd, ePop, ePopAt, eAndT, eOrT, iP, iE, iOne, mVar, mD, mK, mBin, mCmp, mCmpT, mChainT, mOfT, tTrue, mTrue, mAnd, mOr, mNot, mAndT, mOrT, mNotT, mIf, mUn, mNil, mCons, mApp, mTupS, mLstS, mPart, mSlice, tInt, mSliceR, mItems, mItA, mMeth, isLs, isTp, isSt, sAug, sAugI, gNm, gIx, gIx2, gPat, gTwo, gThree, gsNil, gsCons, tg_nm, tg_tp, tgs_nil, tgs_cons, Option.bind_some, of_some, of_none, bind_ok, wp_ite, wpS_ite, ev_eqI, ev_neI, ev_ltI, ev_gtI, ev_leI, ev_geI, ev_addI, ev_iaddI, ev_subI, ev_negI, ev_divI, ev_modI, ev_intI, ev_intB, ev_absI, ev_lenL, ev_lenD, ev_lenT, ev_minI, ev_maxI, ev_tupL, ev_tupD, ev_tupT, ev_listD, ev_listT, ev_listL, ev_getL, ev_getD, ev_getT, atI_0, atI_1, atI_2, atI_3, atI_4, atI_end, ev_sz, ixN_0, ixN_1, ixN_2, ixN_3, ixN_4, put_0, put_s, List.map_cons, List.map_nil, List.replicate_succ, List.replicate_zero, List.cons_append, List.nil_append, List.length_cons, List.length_nil, List.set_cons_zero, List.set_cons_succ, List.getElem?_cons_zero, List.getElem?_cons_succ, Option.map_some, Option.map_none, frz_d, frz_l, frzs_n, frzs_c, frzs_map, frzs_ints, outs_z, outs_s, List.contains_cons, List.contains_nil, decide_eq_true_eq, beq_iff_eq, bne_iff_ne, if_true, if_false, Bool.false_eq_true, Bool.not_eq_true, Bool.or_false, Bool.or_true, Bool.not_true, Bool.not_false, Nat.reduceAdd, Nat.reduceSub, Nat.reduceLT, Nat.reduceLeDiff, Nat.reduceBEq, Nat.reduceEqDiff, Int.reduceLT, Int.reduceLE, Int.reduceEq, Int.reduceNeg, Int.reducePow, Int.reduceToNat, Nat.zero_add, and_self, and_true, true_and, reduceIte, ev_cutD, ev_cutT, ev_cutL, it_L, it_D, it_T, it_S, cast0, cast1, Int.add_zero, Int.zero_add, Bool.and_true, Bool.true_and, Bool.and_self, Bool.and_false, Bool.false_and]
  refine eLc_wp ?_
  simp only [wpS_if, wpS_asg, wpS_asgs, wpS_ret, wpS_drop, wpS_skip, wpS_for, wpS_nx, wpS_rt, wp_bind, wp_ok, wp_of_some, eTest, eP, eB, eFr, eFrs, eMov, eFrz, eCons, eNil, eLend, eBin, eCmp, eCmpT, e2, eApp, eTupS, eLstS, eIx, tD, eUn, eTrue, eNotT, eIf, eCall, mCall, pb_nil, pb_none, pb_some, eApnd, eExtd, ePop, ePopAt, eAndT, eOrT, iP, iE, iOne, mVar, mD, mK, mBin, mCmp, mCmpT, mChainT, mOfT, tTrue, mTrue, mAnd, mOr, mNot, mAndT, mOrT, mNotT, mIf, mUn, mNil, mCons, mApp, mTupS, mLstS, mPart, mSlice, tInt, mSliceR, mItems, mItA, mMeth, isLs, isTp, isSt, sAug, sAugI, gNm, gIx, gIx2, gPat, gTwo, gThree, gsNil, gsCons, tg_nm, tg_tp, tgs_nil, tgs_cons, Option.bind_some, of_some, of_none, bind_ok, wp_ite, wpS_ite, ev_eqI, ev_neI, ev_ltI, ev_gtI, ev_leI, ev_geI, ev_addI, ev_iaddI, ev_subI, ev_negI, ev_divI, ev_modI, ev_intI, ev_intB, ev_absI, ev_lenL, ev_lenD, ev_lenT, ev_minI, ev_maxI, ev_tupL, ev_tupD, ev_tupT, ev_listD, ev_listT, ev_listL, ev_getL, ev_getD, ev_getT, atI_0, atI_1, atI_2, atI_3, atI_4, atI_end, ev_sz, ixN_0, ixN_1, ixN_2, ixN_3, ixN_4, put_0, put_s, List.map_cons, List.map_nil, List.replicate_succ, List.replicate_zero, List.cons_append, List.nil_append, List.length_cons, List.length_nil, List.set_cons_zero, List.set_cons_succ, List.getElem?_cons_zero, List.getElem?_cons_succ, Option.map_some, Option.map_none, frz_d, frz_l, frzs_n, frzs_c, frzs_map, frzs_ints, outs_z, outs_s, List.contains_cons, List.contains_nil, decide_eq_true_eq, beq_iff_eq, bne_iff_ne, if_true, if_false, Bool.false_eq_true, Bool.not_eq_true, Bool.or_false, Bool.or_true, Bool.not_true, Bool.not_false, Nat.reduceAdd, Nat.reduceSub, Nat.reduceLT, Nat.reduceLeDiff, Nat.reduceBEq, Nat.reduceEqDiff, Int.reduceLT, Int.reduceLE, Int.reduceEq, Int.reduceNeg, Int.reducePow, Int.reduceToNat, Nat.zero_add, and_self, and_true, true_and, reduceIte, ev_cutD, ev_cutT, ev_cutL, it_L, it_D, it_T, it_S, cast0, cast1, Int.add_zero, Int.zero_add, Bool.and_true, Bool.true_and, Bool.and_self, Bool.and_false, Bool.false_and]
  refine (draw_ok hh (by decide) (by decide)).mono fun r ⟨d0, h0, er, hd0, hd1, hh0⟩ => ?_
  subst er
  have hrg := rng1_ok hd0 (by omega)
  simp only [hrg, rng_ln, List.all_cons, List.all_nil, plainAt, nodupB, wipeE, show d0.toNat ≤ 16777216 by omega, decide_true, wpS_if, wpS_asg, wpS_asgs, wpS_ret, wpS_drop, wpS_skip, wpS_for, wpS_nx, wpS_rt, wp_bind, wp_ok, wp_of_some, eTest, eP, eB, eFr, eFrs, eMov, eFrz, eCons, eNil, eLend, eBin, eCmp, eCmpT, e2, eApp, eTupS, eLstS, eIx, tD, eUn, eTrue, eNotT, eIf, eCall, mCall, pb_nil, pb_none, pb_some, eApnd, eExtd, ePop, ePopAt, eAndT, eOrT, iP, iE, iOne, mVar, mD, mK, mBin, mCmp, mCmpT, mChainT, mOfT, tTrue, mTrue, mAnd, mOr, mNot, mAndT, mOrT, mNotT, mIf, mUn, mNil, mCons, mApp, mTupS, mLstS, mPart, mSlice, tInt, mSliceR, mItems, mItA, mMeth, isLs, isTp, isSt, sAug, sAugI, gNm, gIx, gIx2, gPat, gTwo, gThree, gsNil, gsCons, tg_nm, tg_tp, tgs_nil, tgs_cons, Option.bind_some, of_some, of_none, bind_ok, wp_ite, wpS_ite, ev_eqI, ev_neI, ev_ltI, ev_gtI, ev_leI, ev_geI, ev_addI, ev_iaddI, ev_subI, ev_negI, ev_divI, ev_modI, ev_intI, ev_intB, ev_absI, ev_lenL, ev_lenD, ev_lenT, ev_minI, ev_maxI, ev_tupL, ev_tupD, ev_tupT, ev_listD, ev_listT, ev_listL, ev_getL, ev_getD, ev_getT, atI_0, atI_1, atI_2, atI_3, atI_4, atI_end, ev_sz, ixN_0, ixN_1, ixN_2, ixN_3, ixN_4, put_0, put_s, List.map_cons, List.map_nil, List.replicate_succ, List.replicate_zero, List.cons_append, List.nil_append, List.length_cons, List.length_nil, List.set_cons_zero, List.set_cons_succ, List.getElem?_cons_zero, List.getElem?_cons_succ, Option.map_some, Option.map_none, frz_d, frz_l, frzs_n, frzs_c, frzs_map, frzs_ints, outs_z, outs_s, List.contains_cons, List.contains_nil, decide_eq_true_eq, beq_iff_eq, bne_iff_ne, if_true, if_false, Bool.false_eq_true, Bool.not_eq_true, Bool.or_false, Bool.or_true, Bool.not_true, Bool.not_false, Nat.reduceAdd, Nat.reduceSub, Nat.reduceLT, Nat.reduceLeDiff, Nat.reduceBEq, Nat.reduceEqDiff, Int.reduceLT, Int.reduceLE, Int.reduceEq, Int.reduceNeg, Int.reducePow, Int.reduceToNat, Nat.zero_add, and_self, and_true, true_and, reduceIte, ev_cutD, ev_cutT, ev_cutL, it_L, it_D, it_T, it_S, cast0, cast1, Int.add_zero, Int.zero_add, Bool.and_true, Bool.true_and, Bool.and_self, Bool.and_false, Bool.false_and]
  have hw : [some h0, none, none, none, none, none, none, none, none, none, none, none, none].set 2 none = [some h0, none, none, none, none, none, none, none, none, none, none, none, none] := rfl
  refine (eLcGo_wp (fun e => ∃ h, e = [some h, none, none, none, none, none, none, none, none, none, none, none, none] ∧ HandOk h) (fun t => ∃ r, t = fI r ∧ (0 ≤ r ∧ r ≤ 400)) _ ⟨h0, rfl, hh0⟩ ?_).mono ?_
  · rintro x - e ⟨h1, rfl, hh1⟩
    simp only [wpS_if, wpS_asg, wpS_asgs, wpS_ret, wpS_drop, wpS_skip, wpS_for, wpS_nx, wpS_rt, wp_bind, wp_ok, wp_of_some, eTest, eP, eB, eFr, eFrs, eMov, eFrz, eCons, eNil, eLend, eBin, eCmp, eCmpT, e2, eApp, eTupS, eLstS, eIx, tD, eUn, eTrue, eNotT, eIf, eCall, mCall, pb_nil, pb_none, pb_some, eApnd, eExtd, ePop, ePopAt, eAndT, eOrT, iP, iE, iOne, mVar, mD, mK, mBin, mCmp, mCmpT, mChainT, mOfT, tTrue, mTrue, mAnd, mOr, mNot, mAndT, mOrT, mNotT, mIf, mUn, mNil, mCons, mApp, mTupS, mLstS, mPart, mSlice, tInt, mSliceR, mItems, mItA, mMeth, isLs, isTp, isSt, sAug, sAugI, gNm, gIx, gIx2, gPat, gTwo, gThree, gsNil, gsCons, tg_nm, tg_tp, tgs_nil, tgs_cons, Option.bind_some, of_some, of_none, bind_ok, wp_ite, wpS_ite, ev_eqI, ev_neI, ev_ltI, ev_gtI, ev_leI, ev_geI, ev_addI, ev_iaddI, ev_subI, ev_negI, ev_divI, ev_modI, ev_intI, ev_intB, ev_absI, ev_lenL, ev_lenD, ev_lenT, ev_minI, ev_maxI, ev_tupL, ev_tupD, ev_tupT, ev_listD, ev_listT, ev_listL, ev_getL, ev_getD, ev_getT, atI_0, atI_1, atI_2, atI_3, atI_4, atI_end, ev_sz, ixN_0, ixN_1, ixN_2, ixN_3, ixN_4, put_0, put_s, List.map_cons, List.map_nil, List.replicate_succ, List.replicate_zero, List.cons_append, List.nil_append, List.length_cons, List.length_nil, List.set_cons_zero, List.set_cons_succ, List.getElem?_cons_zero, List.getElem?_cons_succ, Option.map_some, Option.map_none, frz_d, frz_l, frzs_n, frzs_c, frzs_map, frzs_ints, outs_z, outs_s, List.contains_cons, List.contains_nil, decide_eq_true_eq, beq_iff_eq, bne_iff_ne, if_true, if_false, Bool.false_eq_true, Bool.not_eq_true, Bool.or_false, Bool.or_true, Bool.not_true, Bool.not_false, Nat.reduceAdd, Nat.reduceSub, Nat.reduceLT, Nat.reduceLeDiff, Nat.reduceBEq, Nat.reduceEqDiff, Int.reduceLT, Int.reduceLE, Int.reduceEq, Int.reduceNeg, Int.reducePow, Int.reduceToNat, Nat.zero_add, and_self, and_true, true_and, reduceIte, ev_cutD, ev_cutT, ev_cutL, it_L, it_D, it_T, it_S, cast0, cast1, Int.add_zero, Int.zero_add, Bool.and_true, Bool.true_and, Bool.and_self, Bool.and_false, Bool.false_and]
    refine (draw_ok hh1 (by decide) (by decide)).mono fun r ⟨d2, h2, er, hd2, hd3, hh2⟩ => ?_
    subst er
    simp only [wpS_if, wpS_asg, wpS_asgs, wpS_ret, wpS_drop, wpS_skip, wpS_for, wpS_nx, wpS_rt, wp_bind, wp_ok, wp_of_some, eTest, eP, eB, eFr, eFrs, eMov, eFrz, eCons, eNil, eLend, eBin, eCmp, eCmpT, e2, eApp, eTupS, eLstS, eIx, tD, eUn, eTrue, eNotT, eIf, eCall, mCall, pb_nil, pb_none, pb_some, eApnd, eExtd, ePop, ePopAt, eAndT, eOrT, iP, iE, iOne, mVar, mD, mK, mBin, mCmp, mCmpT, mChainT, mOfT, tTrue, mTrue, mAnd, mOr, mNot, mAndT, mOrT, mNotT, mIf, mUn, mNil, mCons, mApp, mTupS, mLstS, mPart, mSlice, tInt, mSliceR, mItems, mItA, mMeth, isLs, isTp, isSt, sAug, sAugI, gNm, gIx, gIx2, gPat, gTwo, gThree, gsNil, gsCons, tg_nm, tg_tp, tgs_nil, tgs_cons, Option.bind_some, of_some, of_none, bind_ok, wp_ite, wpS_ite, ev_eqI, ev_neI, ev_ltI, ev_gtI, ev_leI, ev_geI, ev_addI, ev_iaddI, ev_subI, ev_negI, ev_divI, ev_modI, ev_intI, ev_intB, ev_absI, ev_lenL, ev_lenD, ev_lenT, ev_minI, ev_maxI, ev_tupL, ev_tupD, ev_tupT, ev_listD, ev_listT, ev_listL, ev_getL, ev_getD, ev_getT, atI_0, atI_1, atI_2, atI_3, atI_4, atI_end, ev_sz, ixN_0, ixN_1, ixN_2, ixN_3, ixN_4, put_0, put_s, List.map_cons, List.map_nil, List.replicate_succ, List.replicate_zero, List.cons_append, List.nil_append, List.length_cons, List.length_nil, List.set_cons_zero, List.set_cons_succ, List.getElem?_cons_zero, List.getElem?_cons_succ, Option.map_some, Option.map_none, frz_d, frz_l, frzs_n, frzs_c, frzs_map, frzs_ints, outs_z, outs_s, List.contains_cons, List.contains_nil, decide_eq_true_eq, beq_iff_eq, bne_iff_ne, if_true, if_false, Bool.false_eq_true, Bool.not_eq_true, Bool.or_false, Bool.or_true, Bool.not_true, Bool.not_false, Nat.reduceAdd, Nat.reduceSub, Nat.reduceLT, Nat.reduceLeDiff, Nat.reduceBEq, Nat.reduceEqDiff, Int.reduceLT, Int.reduceLE, Int.reduceEq, Int.reduceNeg, Int.reducePow, Int.reduceToNat, Nat.zero_add, and_self, and_true, true_and, reduceIte, ev_cutD, ev_cutT, ev_cutL, it_L, it_D, it_T, it_S, cast0, cast1, Int.add_zero, Int.zero_add, Bool.and_true, Bool.true_and, Bool.and_self, Bool.and_false, Bool.false_and]
    refine (any_ok hh2 (by simp) (by simp)).mono fun r ⟨x3, h3, er, hx3, hh3⟩ => ?_
    subst er
    simp only [wipeE, wpS_if, wpS_asg, wpS_asgs, wpS_ret, wpS_drop, wpS_skip, wpS_for, wpS_nx, wpS_rt, wp_bind, wp_ok, wp_of_some, eTest, eP, eB, eFr, eFrs, eMov, eFrz, eCons, eNil, eLend, eBin, eCmp, eCmpT, e2, eApp, eTupS, eLstS, eIx, tD, eUn, eTrue, eNotT, eIf, eCall, mCall, pb_nil, pb_none, pb_some, eApnd, eExtd, ePop, ePopAt, eAndT, eOrT, iP, iE, iOne, mVar, mD, mK, mBin, mCmp, mCmpT, mChainT, mOfT, tTrue, mTrue, mAnd, mOr, mNot, mAndT, mOrT, mNotT, mIf, mUn, mNil, mCons, mApp, mTupS, mLstS, mPart, mSlice, tInt, mSliceR, mItems, mItA, mMeth, isLs, isTp, isSt, sAug, sAugI, gNm, gIx, gIx2, gPat, gTwo, gThree, gsNil, gsCons, tg_nm, tg_tp, tgs_nil, tgs_cons, Option.bind_some, of_some, of_none, bind_ok, wp_ite, wpS_ite, ev_eqI, ev_neI, ev_ltI, ev_gtI, ev_leI, ev_geI, ev_addI, ev_iaddI, ev_subI, ev_negI, ev_divI, ev_modI, ev_intI, ev_intB, ev_absI, ev_lenL, ev_lenD, ev_lenT, ev_minI, ev_maxI, ev_tupL, ev_tupD, ev_tupT, ev_listD, ev_listT, ev_listL, ev_getL, ev_getD, ev_getT, atI_0, atI_1, atI_2, atI_3, atI_4, atI_end, ev_sz, ixN_0, ixN_1, ixN_2, ixN_3, ixN_4, put_0, put_s, List.map_cons, List.map_nil, List.replicate_succ, List.replicate_zero, List.cons_append, List.nil_append, List.length_cons, List.length_nil, List.set_cons_zero, List.set_cons_succ, List.getElem?_cons_zero, List.getElem?_cons_succ, Option.map_some, Option.map_none, frz_d, frz_l, frzs_n, frzs_c, frzs_map, frzs_ints, outs_z, outs_s, List.contains_cons, List.contains_nil, decide_eq_true_eq, beq_iff_eq, bne_iff_ne, if_true, if_false, Bool.false_eq_true, Bool.not_eq_true, Bool.or_false, Bool.or_true, Bool.not_true, Bool.not_false, Nat.reduceAdd, Nat.reduceSub, Nat.reduceLT, Nat.reduceLeDiff, Nat.reduceBEq, Nat.reduceEqDiff, Int.reduceLT, Int.reduceLE, Int.reduceEq, Int.reduceNeg, Int.reducePow, Int.reduceToNat, Nat.zero_add, and_self, and_true, true_and, reduceIte, ev_cutD, ev_cutT, ev_cutL, it_L, it_D, it_T, it_S, cast0, cast1, Int.add_zero, Int.zero_add, Bool.and_true, Bool.true_and, Bool.and_self, Bool.and_false, Bool.false_and]
    refine ⟨?_, h3, rfl, hh3⟩
    simp only [List.mem_cons, List.not_mem_nil, or_false] at hx3
    rcases hx3 with rfl | rfl | rfl | rfl
    · exact ⟨0, rfl, by decide, by decide⟩
    · exact ⟨400, rfl, by decide, by decide⟩
    · exact ⟨d2, rfl, hd2, by omega⟩
    · exact ⟨3, rfl, by decide, by decide⟩
  rintro ⟨ts, e⟩ ⟨hlen, hP, h1, rfl, hh1⟩
  obtain ⟨as, rfl, has⟩ := of_map hP
  have hal : as.length ≤ 6 := by
    have : (as.map fI).length = (rng 0 d0.toNat).length := hlen
    rw [List.length_map, rng_ln] at this
    omega
  simp only [restE, sorted_ok (ns := as) (by omega), wpS_if, wpS_asg, wpS_asgs, wpS_ret, wpS_drop, wpS_skip, wpS_for, wpS_nx, wpS_rt, wp_bind, wp_ok, wp_of_some, eTest, eP, eB, eFr, eFrs, eMov, eFrz, eCons, eNil, eLend, eBin, eCmp, eCmpT, e2, eApp, eTupS, eLstS, eIx, tD, eUn, eTrue, eNotT, eIf, eCall, mCall, pb_nil, pb_none, pb_some, eApnd, eExtd, ePop, ePopAt, eAndT, eOrT, iP, iE, iOne, mVar, mD, mK, mBin, mCmp, mCmpT, mChainT, mOfT, tTrue, mTrue, mAnd, mOr, mNot, mAndT, mOrT, mNotT, mIf, mUn, mNil, mCons, mApp, mTupS, mLstS, mPart, mSlice, tInt, mSliceR, mItems, mItA, mMeth, isLs, isTp, isSt, sAug, sAugI, gNm, gIx, gIx2, gPat, gTwo, gThree, gsNil, gsCons, tg_nm, tg_tp, tgs_nil, tgs_cons, Option.bind_some, of_some, of_none, bind_ok, wp_ite, wpS_ite, ev_eqI, ev_neI, ev_ltI, ev_gtI, ev_leI, ev_geI, ev_addI, ev_iaddI, ev_subI, ev_negI, ev_divI, ev_modI, ev_intI, ev_intB, ev_absI, ev_lenL, ev_lenD, ev_lenT, ev_minI, ev_maxI, ev_tupL, ev_tupD, ev_tupT, ev_listD, ev_listT, ev_listL, ev_getL, ev_getD, ev_getT, atI_0, atI_1, atI_2, atI_3, atI_4, atI_end, ev_sz, ixN_0, ixN_1, ixN_2, ixN_3, ixN_4, put_0, put_s, List.map_cons, List.map_nil, List.replicate_succ, List.replicate_zero, List.cons_append, List.nil_append, List.length_cons, List.length_nil, List.set_cons_zero, List.set_cons_succ, List.getElem?_cons_zero, List.getElem?_cons_succ, Option.map_some, Option.map_none, frz_d, frz_l, frzs_n, frzs_c, frzs_map, frzs_ints, outs_z, outs_s, List.contains_cons, List.contains_nil, decide_eq_true_eq, beq_iff_eq, bne_iff_ne, if_true, if_false, Bool.false_eq_true, Bool.not_eq_true, Bool.or_false, Bool.or_true, Bool.not_true, Bool.not_false, Nat.reduceAdd, Nat.reduceSub, Nat.reduceLT, Nat.reduceLeDiff, Nat.reduceBEq, Nat.reduceEqDiff, Int.reduceLT, Int.reduceLE, Int.reduceEq, Int.reduceNeg, Int.reducePow, Int.reduceToNat, Nat.zero_add, and_self, and_true, true_and, reduceIte, ev_cutD, ev_cutT, ev_cutL, it_L, it_D, it_T, it_S, cast0, cast1, Int.add_zero, Int.zero_add, Bool.and_true, Bool.true_and, Bool.and_self, Bool.and_false, Bool.false_and]
  rw [hK]; clear hK K
  have hsr := isort_sorted as
  have hrs : ∀ r ∈ isort ile as, 0 ≤ r ∧ r ≤ 400 := fun r hr => has r (mem_isort.mp hr)
  have hrl : (isort ile as).length ≤ 6 := by rw [len_isort]; exact hal
  revert hsr hrs hrl
  generalize isort ile as = rs
  intro hsr hrs hrl
  refine wpS_seqK fun K hK => ?_
  simp only [wpS_if, wpS_asg, wpS_asgs, wpS_ret, wpS_drop, wpS_skip, wpS_for, wpS_nx, wpS_rt, wp_bind, wp_ok, wp_of_some, eTest, eP, eB, eFr, eFrs, eMov, eFrz, eCons, eNil, eLend, eBin, eCmp, eCmpT, e2, eApp, eTupS, eLstS, eIx, tD, eUn, eTrue, eNotT, eIf, eCall, mCall, pb_nil, pb_none, pb_some, eApnd, eExtd, ePop, ePopAt, eAndT, eOrT, iP, iE, iOne, mVar, mD, mK, mBin, mCmp, mCmpT, mChainT, mOfT, tTrue, mTrue, mAnd, mOr, mNot, mAndT, mOrT, mNotT, mIf, mUn, mNil, mCons, mApp, mTupS, mLstS, mPart, mSlice, tInt, mSliceR, mItems, mItA, mMeth, isLs, isTp, isSt, sAug, sAugI, gNm, gIx, gIx2, gPat, gTwo, gThree, gsNil, gsCons, tg_nm, tg_tp, tgs_nil, tgs_cons, Option.bind_some, of_some, of_none, bind_ok, wp_ite, wpS_ite, ev_eqI, ev_neI, ev_ltI, ev_gtI, ev_leI, ev_geI, ev_addI, ev_iaddI, ev_subI, ev_negI, ev_divI, ev_modI, ev_intI, ev_intB, ev_absI, ev_lenL, ev_lenD, ev_lenT, ev_minI, ev_maxI, ev_tupL, ev_tupD, ev_tupT, ev_listD, ev_listT, ev_listL, ev_getL, ev_getD, ev_getT, atI_0, atI_1, atI_2, atI_3, atI_4, atI_end, ev_sz, ixN_0, ixN_1, ixN_2, ixN_3, ixN_4, put_0, put_s, List.map_cons, List.map_nil, List.replicate_succ, List.replicate_zero, List.cons_append, List.nil_append, List.length_cons, List.length_nil, List.set_cons_zero, List.set_cons_succ, List.getElem?_cons_zero, List.getElem?_cons_succ, Option.map_some, Option.map_none, frz_d, frz_l, frzs_n, frzs_c, frzs_map, frzs_ints, outs_z, outs_s, List.contains_cons, List.contains_nil, decide_eq_true_eq, beq_iff_eq, bne_iff_ne, if_true, if_false, Bool.false_eq_true, Bool.not_eq_true, Bool.or_false, Bool.or_true, Bool.not_true, Bool.not_false, Nat.reduceAdd, Nat.reduceSub, Nat.reduceLT, Nat.reduceLeDiff, Nat.reduceBEq, Nat.reduceEqDiff, Int.reduceLT, Int.reduceLE, Int.reduceEq, Int.reduceNeg, Int.reducePow, Int.reduceToNat, Nat.zero_add, and_self, and_true, true_and, reduceIte, ev_cutD, ev_cutT, ev_cutL, it_L, it_D, it_T, it_S, cast0, cast1, Int.add_zero, Int.zero_add, Bool.and_true, Bool.true_and, Bool.and_self, Bool.and_false, Bool.false_and]
  refine (draw_ok hh1 (by decide) (by decide)).mono fun r ⟨d2, h2, er, hd2, hd3, hh2⟩ => ?_
  subst er
  simp only [wpS_if, wpS_asg, wpS_asgs, wpS_ret, wpS_drop, wpS_skip, wpS_for, wpS_nx, wpS_rt, wp_bind, wp_ok, wp_of_some, eTest, eP, eB, eFr, eFrs, eMov, eFrz, eCons, eNil, eLend, eBin, eCmp, eCmpT, e2, eApp, eTupS, eLstS, eIx, tD, eUn, eTrue, eNotT, eIf, eCall, mCall, pb_nil, pb_none, pb_some, eApnd, eExtd, ePop, ePopAt, eAndT, eOrT, iP, iE, iOne, mVar, mD, mK, mBin, mCmp, mCmpT, mChainT, mOfT, tTrue, mTrue, mAnd, mOr, mNot, mAndT, mOrT, mNotT, mIf, mUn, mNil, mCons, mApp, mTupS, mLstS, mPart, mSlice, tInt, mSliceR, mItems, mItA, mMeth, isLs, isTp, isSt, sAug, sAugI, gNm, gIx, gIx2, gPat, gTwo, gThree, gsNil, gsCons, tg_nm, tg_tp, tgs_nil, tgs_cons, Option.bind_some, of_some, of_none, bind_ok, wp_ite, wpS_ite, ev_eqI, ev_neI, ev_ltI, ev_gtI, ev_leI, ev_geI, ev_addI, ev_iaddI, ev_subI, ev_negI, ev_divI, ev_modI, ev_intI, ev_intB, ev_absI, ev_lenL, ev_lenD, ev_lenT, ev_minI, ev_maxI, ev_tupL, ev_tupD, ev_tupT, ev_listD, ev_listT, ev_listL, ev_getL, ev_getD, ev_getT, atI_0, atI_1, atI_2, atI_3, atI_4, atI_end, ev_sz, ixN_0, ixN_1, ixN_2, ixN_3, ixN_4, put_0, put_s, List.map_cons, List.map_nil, List.replicate_succ, List.replicate_zero, List.cons_append, List.nil_append, List.length_cons, List.length_nil, List.set_cons_zero, List.set_cons_succ, List.getElem?_cons_zero, List.getElem?_cons_succ, Option.map_some, Option.map_none, frz_d, frz_l, frzs_n, frzs_c, frzs_map, frzs_ints, outs_z, outs_s, List.contains_cons, List.contains_nil, decide_eq_true_eq, beq_iff_eq, bne_iff_ne, if_true, if_false, Bool.false_eq_true, Bool.not_eq_true, Bool.or_false, Bool.or_true, Bool.not_true, Bool.not_false, Nat.reduceAdd, Nat.reduceSub, Nat.reduceLT, Nat.reduceLeDiff, Nat.reduceBEq, Nat.reduceEqDiff, Int.reduceLT, Int.reduceLE, Int.reduceEq, Int.reduceNeg, Int.reducePow, Int.reduceToNat, Nat.zero_add, and_self, and_true, true_and, reduceIte, ev_cutD, ev_cutT, ev_cutL, it_L, it_D, it_T, it_S, cast0, cast1, Int.add_zero, Int.zero_add, Bool.and_true, Bool.true_and, Bool.and_self, Bool.and_false, Bool.false_and]
  refine (any_ok hh2 (by simp) (by simp)).mono fun r ⟨x3, h3, er, hx3, hh3⟩ => ?_
  subst er
  simp only [wipeE, wpS_if, wpS_asg, wpS_asgs, wpS_ret, wpS_drop, wpS_skip, wpS_for, wpS_nx, wpS_rt, wp_bind, wp_ok, wp_of_some, eTest, eP, eB, eFr, eFrs, eMov, eFrz, eCons, eNil, eLend, eBin, eCmp, eCmpT, e2, eApp, eTupS, eLstS, eIx, tD, eUn, eTrue, eNotT, eIf, eCall, mCall, pb_nil, pb_none, pb_some, eApnd, eExtd, ePop, ePopAt, eAndT, eOrT, iP, iE, iOne, mVar, mD, mK, mBin, mCmp, mCmpT, mChainT, mOfT, tTrue, mTrue, mAnd, mOr, mNot, mAndT, mOrT, mNotT, mIf, mUn, mNil, mCons, mApp, mTupS, mLstS, mPart, mSlice, tInt, mSliceR, mItems, mItA, mMeth, isLs, isTp, isSt, sAug, sAugI, gNm, gIx, gIx2, gPat, gTwo, gThree, gsNil, gsCons, tg_nm, tg_tp, tgs_nil, tgs_cons, Option.bind_some, of_some, of_none, bind_ok, wp_ite, wpS_ite, ev_eqI, ev_neI, ev_ltI, ev_gtI, ev_leI, ev_geI, ev_addI, ev_iaddI, ev_subI, ev_negI, ev_divI, ev_modI, ev_intI, ev_intB, ev_absI, ev_lenL, ev_lenD, ev_lenT, ev_minI, ev_maxI, ev_tupL, ev_tupD, ev_tupT, ev_listD, ev_listT, ev_listL, ev_getL, ev_getD, ev_getT, atI_0, atI_1, atI_2, atI_3, atI_4, atI_end, ev_sz, ixN_0, ixN_1, ixN_2, ixN_3, ixN_4, put_0, put_s, List.map_cons, List.map_nil, List.replicate_succ, List.replicate_zero, List.cons_append, List.nil_append, List.length_cons, List.length_nil, List.set_cons_zero, List.set_cons_succ, List.getElem?_cons_zero, List.getElem?_cons_succ, Option.map_some, Option.map_none, frz_d, frz_l, frzs_n, frzs_c, frzs_map, frzs_ints, outs_z, outs_s, List.contains_cons, List.contains_nil, decide_eq_true_eq, beq_iff_eq, bne_iff_ne, if_true, if_false, Bool.false_eq_true, Bool.not_eq_true, Bool.or_false, Bool.or_true, Bool.not_true, Bool.not_false, Nat.reduceAdd, Nat.reduceSub, Nat.reduceLT, Nat.reduceLeDiff, Nat.reduceBEq, Nat.reduceEqDiff, Int.reduceLT, Int.reduceLE, Int.reduceEq, Int.reduceNeg, Int.reducePow, Int.reduceToNat, Nat.zero_add, and_self, and_true, true_and, reduceIte, ev_cutD, ev_cutT, ev_cutL, it_L, it_D, it_T, it_S, cast0, cast1, Int.add_zero, Int.zero_add, Bool.and_true, Bool.true_and, Bool.and_self, Bool.and_false, Bool.false_and]
  obtain ⟨s, rfl, hs⟩ : ∃ s : Int, x3 = .int s ∧ s.natAbs ≤ 1000 := by
    simp only [List.mem_cons, List.not_mem_nil, or_false] at hx3
    rcases hx3 with rfl | rfl | rfl
    · exact ⟨0, rfl, by decide⟩
    · exact ⟨7, rfl, by decide⟩
    · exact ⟨d2 - 1000, rfl, by omega⟩
  rw [hK]; clear hK K
  refine wpS_seqK fun K hK => ?_
  simp only [frz_fI, itVal, wpS_if, wpS_asg, wpS_asgs, wpS_ret, wpS_drop, wpS_skip, wpS_for, wpS_nx, wpS_rt, wp_bind, wp_ok, wp_of_some, eTest, eP, eB, eFr, eFrs, eMov, eFrz, eCons, eNil, eLend, eBin, eCmp, eCmpT, e2, eApp, eTupS, eLstS, eIx, tD, eUn, eTrue, eNotT, eIf, eCall, mCall, pb_nil, pb_none, pb_some, eApnd, eExtd, ePop, ePopAt, eAndT, eOrT, iP, iE, iOne, mVar, mD, mK, mBin, mCmp, mCmpT, mChainT, mOfT, tTrue, mTrue, mAnd, mOr, mNot, mAndT, mOrT, mNotT, mIf, mUn, mNil, mCons, mApp, mTupS, mLstS, mPart, mSlice, tInt, mSliceR, mItems, mItA, mMeth, isLs, isTp, isSt, sAug, sAugI, gNm, gIx, gIx2, gPat, gTwo, gThree, gsNil, gsCons, tg_nm, tg_tp, tgs_nil, tgs_cons, Option.bind_some, of_some, of_none, bind_ok, wp_ite, wpS_ite, ev_eqI, ev_neI, ev_ltI, ev_gtI, ev_leI, ev_geI, ev_addI, ev_iaddI, ev_subI, ev_negI, ev_divI, ev_modI, ev_intI, ev_intB, ev_absI, ev_lenL, ev_lenD, ev_lenT, ev_minI, ev_maxI, ev_tupL, ev_tupD, ev_tupT, ev_listD, ev_listT, ev_listL, ev_getL, ev_getD, ev_getT, atI_0, atI_1, atI_2, atI_3, atI_4, atI_end, ev_sz, ixN_0, ixN_1, ixN_2, ixN_3, ixN_4, put_0, put_s, List.map_cons, List.map_nil, List.replicate_succ, List.replicate_zero, List.cons_append, List.nil_append, List.length_cons, List.length_nil, List.set_cons_zero, List.set_cons_succ, List.getElem?_cons_zero, List.getElem?_cons_succ, Option.map_some, Option.map_none, frz_d, frz_l, frzs_n, frzs_c, frzs_map, frzs_ints, outs_z, outs_s, List.contains_cons, List.contains_nil, decide_eq_true_eq, beq_iff_eq, bne_iff_ne, if_true, if_false, Bool.false_eq_true, Bool.not_eq_true, Bool.or_false, Bool.or_true, Bool.not_true, Bool.not_false, Nat.reduceAdd, Nat.reduceSub, Nat.reduceLT, Nat.reduceLeDiff, Nat.reduceBEq, Nat.reduceEqDiff, Int.reduceLT, Int.reduceLE, Int.reduceEq, Int.reduceNeg, Int.reducePow, Int.reduceToNat, Nat.zero_add, and_self, and_true, true_and, reduceIte, ev_cutD, ev_cutT, ev_cutL, it_L, it_D, it_T, it_S, cast0, cast1, Int.add_zero, Int.zero_add, Bool.and_true, Bool.true_and, Bool.and_self, Bool.and_false, Bool.false_and]
  have sm1 : ∀ {z : Int}, z.natAbs ≤ 100000 → Sm z := fun h => ⟨by omega, by omega⟩
  refine wpS_fL PyData.int (fun pre post e => ∃ w2, e = [some h3, some (.d (.list (rs.map .int))), w2, none, none, none, some (.l ((Pr pre).map fI)), some (.l ((Tr s pre).map fI)), some (.d (.int s)), none, none, none, none]) rs ?_ ?_ rs [] rfl ⟨none, rfl⟩
  · rintro pre x post e he ⟨w2, rfl⟩
    have hx := hrs x (by rw [he]; simp)
    have hpl : pre.length ≤ 6 := by have := congrArg List.length he; simp at this; omega
    have tl : (Tr s pre).length ≤ 1000 := by
      have := congrArg List.length (hor_Pr (s := s) pre)
      rw [hor_len, Pr_len] at this
      simp at this; omega
    simp only [wpS_seq, frz_fI, wpS_if, wpS_asg, wpS_asgs, wpS_ret, wpS_drop, wpS_skip, wpS_for, wpS_nx, wpS_rt, wp_bind, wp_ok, wp_of_some, eTest, eP, eB, eFr, eFrs, eMov, eFrz, eCons, eNil, eLend, eBin, eCmp, eCmpT, e2, eApp, eTupS, eLstS, eIx, tD, eUn, eTrue, eNotT, eIf, eCall, mCall, pb_nil, pb_none, pb_some, eApnd, eExtd, ePop, ePopAt, eAndT, eOrT, iP, iE, iOne, mVar, mD, mK, mBin, mCmp, mCmpT, mChainT, mOfT, tTrue, mTrue, mAnd, mOr, mNot, mAndT, mOrT, mNotT, mIf, mUn, mNil, mCons, mApp, mTupS, mLstS, mPart, mSlice, tInt, mSliceR, mItems, mItA, mMeth, isLs, isTp, isSt, sAug, sAugI, gNm, gIx, gIx2, gPat, gTwo, gThree, gsNil, gsCons, tg_nm, tg_tp, tgs_nil, tgs_cons, Option.bind_some, of_some, of_none, bind_ok, wp_ite, wpS_ite, ev_eqI, ev_neI, ev_ltI, ev_gtI, ev_leI, ev_geI, ev_addI, ev_iaddI, ev_subI, ev_negI, ev_divI, ev_modI, ev_intI, ev_intB, ev_absI, ev_lenL, ev_lenD, ev_lenT, ev_minI, ev_maxI, ev_tupL, ev_tupD, ev_tupT, ev_listD, ev_listT, ev_listL, ev_getL, ev_getD, ev_getT, atI_0, atI_1, atI_2, atI_3, atI_4, atI_end, ev_sz, ixN_0, ixN_1, ixN_2, ixN_3, ixN_4, put_0, put_s, List.map_cons, List.map_nil, List.replicate_succ, List.replicate_zero, List.cons_append, List.nil_append, List.length_cons, List.length_nil, List.set_cons_zero, List.set_cons_succ, List.getElem?_cons_zero, List.getElem?_cons_succ, Option.map_some, Option.map_none, frz_d, frz_l, frzs_n, frzs_c, frzs_map, frzs_ints, outs_z, outs_s, List.contains_cons, List.contains_nil, decide_eq_true_eq, beq_iff_eq, bne_iff_ne, if_true, if_false, Bool.false_eq_true, Bool.not_eq_true, Bool.or_false, Bool.or_true, Bool.not_true, Bool.not_false, Nat.reduceAdd, Nat.reduceSub, Nat.reduceLT, Nat.reduceLeDiff, Nat.reduceBEq, Nat.reduceEqDiff, Int.reduceLT, Int.reduceLE, Int.reduceEq, Int.reduceNeg, Int.reducePow, Int.reduceToNat, Nat.zero_add, and_self, and_true, true_and, reduceIte, ev_cutD, ev_cutT, ev_cutL, it_L, it_D, it_T, it_S, cast0, cast1, Int.add_zero, Int.zero_add, Bool.and_true, Bool.true_and, Bool.and_self, Bool.and_false, Bool.false_and]
    rw [times_ok (one := Pr pre) (c0 := 0 - x) (c1 := 1) (sm1 (by omega)) (sm1 (by decide)) (by rw [Pr_len]; omega) |>.eq]
    simp only [frz_fI, wpS_if, wpS_asg, wpS_asgs, wpS_ret, wpS_drop, wpS_skip, wpS_for, wpS_nx, wpS_rt, wp_bind, wp_ok, wp_of_some, eTest, eP, eB, eFr, eFrs, eMov, eFrz, eCons, eNil, eLend, eBin, eCmp, eCmpT, e2, eApp, eTupS, eLstS, eIx, tD, eUn, eTrue, eNotT, eIf, eCall, mCall, pb_nil, pb_none, pb_some, eApnd, eExtd, ePop, ePopAt, eAndT, eOrT, iP, iE, iOne, mVar, mD, mK, mBin, mCmp, mCmpT, mChainT, mOfT, tTrue, mTrue, mAnd, mOr, mNot, mAndT, mOrT, mNotT, mIf, mUn, mNil, mCons, mApp, mTupS, mLstS, mPart, mSlice, tInt, mSliceR, mItems, mItA, mMeth, isLs, isTp, isSt, sAug, sAugI, gNm, gIx, gIx2, gPat, gTwo, gThree, gsNil, gsCons, tg_nm, tg_tp, tgs_nil, tgs_cons, Option.bind_some, of_some, of_none, bind_ok, wp_ite, wpS_ite, ev_eqI, ev_neI, ev_ltI, ev_gtI, ev_leI, ev_geI, ev_addI, ev_iaddI, ev_subI, ev_negI, ev_divI, ev_modI, ev_intI, ev_intB, ev_absI, ev_lenL, ev_lenD, ev_lenT, ev_minI, ev_maxI, ev_tupL, ev_tupD, ev_tupT, ev_listD, ev_listT, ev_listL, ev_getL, ev_getD, ev_getT, atI_0, atI_1, atI_2, atI_3, atI_4, atI_end, ev_sz, ixN_0, ixN_1, ixN_2, ixN_3, ixN_4, put_0, put_s, List.map_cons, List.map_nil, List.replicate_succ, List.replicate_zero, List.cons_append, List.nil_append, List.length_cons, List.length_nil, List.set_cons_zero, List.set_cons_succ, List.getElem?_cons_zero, List.getElem?_cons_succ, Option.map_some, Option.map_none, frz_d, frz_l, frzs_n, frzs_c, frzs_map, frzs_ints, outs_z, outs_s, List.contains_cons, List.contains_nil, decide_eq_true_eq, beq_iff_eq, bne_iff_ne, if_true, if_false, Bool.false_eq_true, Bool.not_eq_true, Bool.or_false, Bool.or_true, Bool.not_true, Bool.not_false, Nat.reduceAdd, Nat.reduceSub, Nat.reduceLT, Nat.reduceLeDiff, Nat.reduceBEq, Nat.reduceEqDiff, Int.reduceLT, Int.reduceLE, Int.reduceEq, Int.reduceNeg, Int.reducePow, Int.reduceToNat, Nat.zero_add, and_self, and_true, true_and, reduceIte, ev_cutD, ev_cutT, ev_cutL, it_L, it_D, it_T, it_S, cast0, cast1, Int.add_zero, Int.zero_add, Bool.and_true, Bool.true_and, Bool.and_self, Bool.and_false, Bool.false_and]
    rw [times_ok (one := Tr s pre) (c0 := s - x) (c1 := -1) (sm1 (by omega)) (sm1 (by decide)) tl |>.eq]
    simp only [wpS_if, wpS_asg, wpS_asgs, wpS_ret, wpS_drop, wpS_skip, wpS_for, wpS_nx, wpS_rt, wp_bind, wp_ok, wp_of_some, eTest, eP, eB, eFr, eFrs, eMov, eFrz, eCons, eNil, eLend, eBin, eCmp, eCmpT, e2, eApp, eTupS, eLstS, eIx, tD, eUn, eTrue, eNotT, eIf, eCall, mCall, pb_nil, pb_none, pb_some, eApnd, eExtd, ePop, ePopAt, eAndT, eOrT, iP, iE, iOne, mVar, mD, mK, mBin, mCmp, mCmpT, mChainT, mOfT, tTrue, mTrue, mAnd, mOr, mNot, mAndT, mOrT, mNotT, mIf, mUn, mNil, mCons, mApp, mTupS, mLstS, mPart, mSlice, tInt, mSliceR, mItems, mItA, mMeth, isLs, isTp, isSt, sAug, sAugI, gNm, gIx, gIx2, gPat, gTwo, gThree, gsNil, gsCons, tg_nm, tg_tp, tgs_nil, tgs_cons, Option.bind_some, of_some, of_none, bind_ok, wp_ite, wpS_ite, ev_eqI, ev_neI, ev_ltI, ev_gtI, ev_leI, ev_geI, ev_addI, ev_iaddI, ev_subI, ev_negI, ev_divI, ev_modI, ev_intI, ev_intB, ev_absI, ev_lenL, ev_lenD, ev_lenT, ev_minI, ev_maxI, ev_tupL, ev_tupD, ev_tupT, ev_listD, ev_listT, ev_listL, ev_getL, ev_getD, ev_getT, atI_0, atI_1, atI_2, atI_3, atI_4, atI_end, ev_sz, ixN_0, ixN_1, ixN_2, ixN_3, ixN_4, put_0, put_s, List.map_cons, List.map_nil, List.replicate_succ, List.replicate_zero, List.cons_append, List.nil_append, List.length_cons, List.length_nil, List.set_cons_zero, List.set_cons_succ, List.getElem?_cons_zero, List.getElem?_cons_succ, Option.map_some, Option.map_none, frz_d, frz_l, frzs_n, frzs_c, frzs_map, frzs_ints, outs_z, outs_s, List.contains_cons, List.contains_nil, decide_eq_true_eq, beq_iff_eq, bne_iff_ne, if_true, if_false, Bool.false_eq_true, Bool.not_eq_true, Bool.or_false, Bool.or_true, Bool.not_true, Bool.not_false, Nat.reduceAdd, Nat.reduceSub, Nat.reduceLT, Nat.reduceLeDiff, Nat.reduceBEq, Nat.reduceEqDiff, Int.reduceLT, Int.reduceLE, Int.reduceEq, Int.reduceNeg, Int.reducePow, Int.reduceToNat, Nat.zero_add, and_self, and_true, true_and, reduceIte, ev_cutD, ev_cutT, ev_cutL, it_L, it_D, it_T, it_S, cast0, cast1, Int.add_zero, Int.zero_add, Bool.and_true, Bool.true_and, Bool.and_self, Bool.and_false, Bool.false_and]
    refine ⟨some (.d (.int x)), ?_⟩
    rw [Pr_snoc, Tr_snoc, Int.zero_sub]
  rintro e ⟨w2, rfl⟩
  rw [hK]; clear hK K
  have hT : ∀ (M : List Int), nb (1401 ^ rs.length) M → ∀ x ∈ M.map PyData.int, Sh 110 0 x := by
    intro M hM x hx
    obtain ⟨i, hi, rfl⟩ := List.mem_map.mp hx
    have h1 := hM i hi
    have hp : (1401 : Nat) ^ rs.length ≤ 1401 ^ 6 := Nat.pow_le_pow_right (by decide) hrl
    exact sh_int (by omega)
  have tl : (Tr s rs).length ≤ 7 := by
    have := congrArg List.length (hor_Pr (s := s) rs)
    rw [hor_len, Pr_len] at this
    simp at this; omega
  have hsh : Sh 2000 2 (.list [.tuple (rs.map .int), .tuple ((Tr s rs).map .int)]) := by
    refine (sh_list (w := 900) (k := 1) (n := 2) (fun x hx => ?_) (by simp)).up (by decide) (by decide)
    simp only [List.mem_cons, List.not_mem_nil, or_false] at hx
    rcases hx with rfl | rfl
    · refine (sh_tup (w := 110) (k := 0) (n := 7) (fun x hx => ?_) (by simp; omega)).up (by decide) (by decide)
      obtain ⟨i, hi, rfl⟩ := List.mem_map.mp hx
      have := hrs i hi
      exact sh_int (by omega)
    · exact (sh_tup (w := 110) (k := 0) (n := 7) (hT _ (Tr_nb hs fun r hr => by have := hrs r hr; omega)) (by simp; omega)).up (by decide) (by decide)
  refine wpS_seqK fun K hK => ?_
  simp only [← map_fI, product_ok hrl hrs hsr, turnedT_ok hs hrl hrs, wpS_if, wpS_asg, wpS_asgs, wpS_ret, wpS_drop, wpS_skip, wpS_for, wpS_nx, wpS_rt, wp_bind, wp_ok, wp_of_some, eTest, eP, eB, eFr, eFrs, eMov, eFrz, eCons, eNil, eLend, eBin, eCmp, eCmpT, e2, eApp, eTupS, eLstS, eIx, tD, eUn, eTrue, eNotT, eIf, eCall, mCall, pb_nil, pb_none, pb_some, eApnd, eExtd, ePop, ePopAt, eAndT, eOrT, iP, iE, iOne, mVar, mD, mK, mBin, mCmp, mCmpT, mChainT, mOfT, tTrue, mTrue, mAnd, mOr, mNot, mAndT, mOrT, mNotT, mIf, mUn, mNil, mCons, mApp, mTupS, mLstS, mPart, mSlice, tInt, mSliceR, mItems, mItA, mMeth, isLs, isTp, isSt, sAug, sAugI, gNm, gIx, gIx2, gPat, gTwo, gThree, gsNil, gsCons, tg_nm, tg_tp, tgs_nil, tgs_cons, Option.bind_some, of_some, of_none, bind_ok, wp_ite, wpS_ite, ev_eqI, ev_neI, ev_ltI, ev_gtI, ev_leI, ev_geI, ev_addI, ev_iaddI, ev_subI, ev_negI, ev_divI, ev_modI, ev_intI, ev_intB, ev_absI, ev_lenL, ev_lenD, ev_lenT, ev_minI, ev_maxI, ev_tupL, ev_tupD, ev_tupT, ev_listD, ev_listT, ev_listL, ev_getL, ev_getD, ev_getT, atI_0, atI_1, atI_2, atI_3, atI_4, atI_end, ev_sz, ixN_0, ixN_1, ixN_2, ixN_3, ixN_4, put_0, put_s, List.map_cons, List.map_nil, List.replicate_succ, List.replicate_zero, List.cons_append, List.nil_append, List.length_cons, List.length_nil, List.set_cons_zero, List.set_cons_succ, List.getElem?_cons_zero, List.getElem?_cons_succ, Option.map_some, Option.map_none, frz_d, frz_l, frzs_n, frzs_c, frzs_map, frzs_ints, outs_z, outs_s, List.contains_cons, List.contains_nil, decide_eq_true_eq, beq_iff_eq, bne_iff_ne, if_true, if_false, Bool.false_eq_true, Bool.not_eq_true, Bool.or_false, Bool.or_true, Bool.not_true, Bool.not_false, Nat.reduceAdd, Nat.reduceSub, Nat.reduceLT, Nat.reduceLeDiff, Nat.reduceBEq, Nat.reduceEqDiff, Int.reduceLT, Int.reduceLE, Int.reduceEq, Int.reduceNeg, Int.reducePow, Int.reduceToNat, Nat.zero_add, and_self, and_true, true_and, reduceIte, ev_cutD, ev_cutT, ev_cutL, it_L, it_D, it_T, it_S, cast0, cast1, Int.add_zero, Int.zero_add, Bool.and_true, Bool.true_and, Bool.and_self, Bool.and_false, Bool.false_and]
  simp only [is_ok (t := .d (.list [.tuple (rs.map .int), .tuple ((Tr s rs).map .int)])) (u := .d (.list [.tuple (rs.map .int), .tuple ((Tr s rs).map .int)])) rfl (by rw [frz_d]; exact hsh) (by decide) (by decide), wpS_if, wpS_asg, wpS_asgs, wpS_ret, wpS_drop, wpS_skip, wpS_for, wpS_nx, wpS_rt, wp_bind, wp_ok, wp_of_some, eTest, eP, eB, eFr, eFrs, eMov, eFrz, eCons, eNil, eLend, eBin, eCmp, eCmpT, e2, eApp, eTupS, eLstS, eIx, tD, eUn, eTrue, eNotT, eIf, eCall, mCall, pb_nil, pb_none, pb_some, eApnd, eExtd, ePop, ePopAt, eAndT, eOrT, iP, iE, iOne, mVar, mD, mK, mBin, mCmp, mCmpT, mChainT, mOfT, tTrue, mTrue, mAnd, mOr, mNot, mAndT, mOrT, mNotT, mIf, mUn, mNil, mCons, mApp, mTupS, mLstS, mPart, mSlice, tInt, mSliceR, mItems, mItA, mMeth, isLs, isTp, isSt, sAug, sAugI, gNm, gIx, gIx2, gPat, gTwo, gThree, gsNil, gsCons, tg_nm, tg_tp, tgs_nil, tgs_cons, Option.bind_some, of_some, of_none, bind_ok, wp_ite, wpS_ite, ev_eqI, ev_neI, ev_ltI, ev_gtI, ev_leI, ev_geI, ev_addI, ev_iaddI, ev_subI, ev_negI, ev_divI, ev_modI, ev_intI, ev_intB, ev_absI, ev_lenL, ev_lenD, ev_lenT, ev_minI, ev_maxI, ev_tupL, ev_tupD, ev_tupT, ev_listD, ev_listT, ev_listL, ev_getL, ev_getD, ev_getT, atI_0, atI_1, atI_2, atI_3, atI_4, atI_end, ev_sz, ixN_0, ixN_1, ixN_2, ixN_3, ixN_4, put_0, put_s, List.map_cons, List.map_nil, List.replicate_succ, List.replicate_zero, List.cons_append, List.nil_append, List.length_cons, List.length_nil, List.set_cons_zero, List.set_cons_succ, List.getElem?_cons_zero, List.getElem?_cons_succ, Option.map_some, Option.map_none, frz_d, frz_l, frzs_n, frzs_c, frzs_map, frzs_ints, outs_z, outs_s, List.contains_cons, List.contains_nil, decide_eq_true_eq, beq_iff_eq, bne_iff_ne, if_true, if_false, Bool.false_eq_true, Bool.not_eq_true, Bool.or_false, Bool.or_true, Bool.not_true, Bool.not_false, Nat.reduceAdd, Nat.reduceSub, Nat.reduceLT, Nat.reduceLeDiff, Nat.reduceBEq, Nat.reduceEqDiff, Int.reduceLT, Int.reduceLE, Int.reduceEq, Int.reduceNeg, Int.reducePow, Int.reduceToNat, Nat.zero_add, and_self, and_true, true_and, reduceIte, ev_cutD, ev_cutT, ev_cutL, it_L, it_D, it_T, it_S, cast0, cast1, Int.add_zero, Int.zero_add, Bool.and_true, Bool.true_and, Bool.and_self, Bool.and_false, Bool.false_and]
  rw [hK]; clear hK K
  refine wpS_seqK fun K hK => ?_
  simp only [wpS_if, wpS_asg, wpS_asgs, wpS_ret, wpS_drop, wpS_skip, wpS_for, wpS_nx, wpS_rt, wp_bind, wp_ok, wp_of_some, eTest, eP, eB, eFr, eFrs, eMov, eFrz, eCons, eNil, eLend, eBin, eCmp, eCmpT, e2, eApp, eTupS, eLstS, eIx, tD, eUn, eTrue, eNotT, eIf, eCall, mCall, pb_nil, pb_none, pb_some, eApnd, eExtd, ePop, ePopAt, eAndT, eOrT, iP, iE, iOne, mVar, mD, mK, mBin, mCmp, mCmpT, mChainT, mOfT, tTrue, mTrue, mAnd, mOr, mNot, mAndT, mOrT, mNotT, mIf, mUn, mNil, mCons, mApp, mTupS, mLstS, mPart, mSlice, tInt, mSliceR, mItems, mItA, mMeth, isLs, isTp, isSt, sAug, sAugI, gNm, gIx, gIx2, gPat, gTwo, gThree, gsNil, gsCons, tg_nm, tg_tp, tgs_nil, tgs_cons, Option.bind_some, of_some, of_none, bind_ok, wp_ite, wpS_ite, ev_eqI, ev_neI, ev_ltI, ev_gtI, ev_leI, ev_geI, ev_addI, ev_iaddI, ev_subI, ev_negI, ev_divI, ev_modI, ev_intI, ev_intB, ev_absI, ev_lenL, ev_lenD, ev_lenT, ev_minI, ev_maxI, ev_tupL, ev_tupD, ev_tupT, ev_listD, ev_listT, ev_listL, ev_getL, ev_getD, ev_getT, atI_0, atI_1, atI_2, atI_3, atI_4, atI_end, ev_sz, ixN_0, ixN_1, ixN_2, ixN_3, ixN_4, put_0, put_s, List.map_cons, List.map_nil, List.replicate_succ, List.replicate_zero, List.cons_append, List.nil_append, List.length_cons, List.length_nil, List.set_cons_zero, List.set_cons_succ, List.getElem?_cons_zero, List.getElem?_cons_succ, Option.map_some, Option.map_none, frz_d, frz_l, frzs_n, frzs_c, frzs_map, frzs_ints, outs_z, outs_s, List.contains_cons, List.contains_nil, decide_eq_true_eq, beq_iff_eq, bne_iff_ne, if_true, if_false, Bool.false_eq_true, Bool.not_eq_true, Bool.or_false, Bool.or_true, Bool.not_true, Bool.not_false, Nat.reduceAdd, Nat.reduceSub, Nat.reduceLT, Nat.reduceLeDiff, Nat.reduceBEq, Nat.reduceEqDiff, Int.reduceLT, Int.reduceLE, Int.reduceEq, Int.reduceNeg, Int.reducePow, Int.reduceToNat, Nat.zero_add, and_self, and_true, true_and, reduceIte, ev_cutD, ev_cutT, ev_cutL, it_L, it_D, it_T, it_S, cast0, cast1, Int.add_zero, Int.zero_add, Bool.and_true, Bool.true_and, Bool.and_self, Bool.and_false, Bool.false_and]
  refine (any_ok hh3 (by simp) (by simp)).mono fun r ⟨x4, h4, er, hx4, hh4⟩ => ?_
  subst er
  simp only [wpS_if, wpS_asg, wpS_asgs, wpS_ret, wpS_drop, wpS_skip, wpS_for, wpS_nx, wpS_rt, wp_bind, wp_ok, wp_of_some, eTest, eP, eB, eFr, eFrs, eMov, eFrz, eCons, eNil, eLend, eBin, eCmp, eCmpT, e2, eApp, eTupS, eLstS, eIx, tD, eUn, eTrue, eNotT, eIf, eCall, mCall, pb_nil, pb_none, pb_some, eApnd, eExtd, ePop, ePopAt, eAndT, eOrT, iP, iE, iOne, mVar, mD, mK, mBin, mCmp, mCmpT, mChainT, mOfT, tTrue, mTrue, mAnd, mOr, mNot, mAndT, mOrT, mNotT, mIf, mUn, mNil, mCons, mApp, mTupS, mLstS, mPart, mSlice, tInt, mSliceR, mItems, mItA, mMeth, isLs, isTp, isSt, sAug, sAugI, gNm, gIx, gIx2, gPat, gTwo, gThree, gsNil, gsCons, tg_nm, tg_tp, tgs_nil, tgs_cons, Option.bind_some, of_some, of_none, bind_ok, wp_ite, wpS_ite, ev_eqI, ev_neI, ev_ltI, ev_gtI, ev_leI, ev_geI, ev_addI, ev_iaddI, ev_subI, ev_negI, ev_divI, ev_modI, ev_intI, ev_intB, ev_absI, ev_lenL, ev_lenD, ev_lenT, ev_minI, ev_maxI, ev_tupL, ev_tupD, ev_tupT, ev_listD, ev_listT, ev_listL, ev_getL, ev_getD, ev_getT, atI_0, atI_1, atI_2, atI_3, atI_4, atI_end, ev_sz, ixN_0, ixN_1, ixN_2, ixN_3, ixN_4, put_0, put_s, List.map_cons, List.map_nil, List.replicate_succ, List.replicate_zero, List.cons_append, List.nil_append, List.length_cons, List.length_nil, List.set_cons_zero, List.set_cons_succ, List.getElem?_cons_zero, List.getElem?_cons_succ, Option.map_some, Option.map_none, frz_d, frz_l, frzs_n, frzs_c, frzs_map, frzs_ints, outs_z, outs_s, List.contains_cons, List.contains_nil, decide_eq_true_eq, beq_iff_eq, bne_iff_ne, if_true, if_false, Bool.false_eq_true, Bool.not_eq_true, Bool.or_false, Bool.or_true, Bool.not_true, Bool.not_false, Nat.reduceAdd, Nat.reduceSub, Nat.reduceLT, Nat.reduceLeDiff, Nat.reduceBEq, Nat.reduceEqDiff, Int.reduceLT, Int.reduceLE, Int.reduceEq, Int.reduceNeg, Int.reducePow, Int.reduceToNat, Nat.zero_add, and_self, and_true, true_and, reduceIte, ev_cutD, ev_cutT, ev_cutL, it_L, it_D, it_T, it_S, cast0, cast1, Int.add_zero, Int.zero_add, Bool.and_true, Bool.true_and, Bool.and_self, Bool.and_false, Bool.false_and]
  refine (draw_ok hh4 (by decide) (by decide)).mono fun r ⟨d5, h5, er, hd5, he5, hh5⟩ => ?_
  subst er
  simp only [wpS_if, wpS_asg, wpS_asgs, wpS_ret, wpS_drop, wpS_skip, wpS_for, wpS_nx, wpS_rt, wp_bind, wp_ok, wp_of_some, eTest, eP, eB, eFr, eFrs, eMov, eFrz, eCons, eNil, eLend, eBin, eCmp, eCmpT, e2, eApp, eTupS, eLstS, eIx, tD, eUn, eTrue, eNotT, eIf, eCall, mCall, pb_nil, pb_none, pb_some, eApnd, eExtd, ePop, ePopAt, eAndT, eOrT, iP, iE, iOne, mVar, mD, mK, mBin, mCmp, mCmpT, mChainT, mOfT, tTrue, mTrue, mAnd, mOr, mNot, mAndT, mOrT, mNotT, mIf, mUn, mNil, mCons, mApp, mTupS, mLstS, mPart, mSlice, tInt, mSliceR, mItems, mItA, mMeth, isLs, isTp, isSt, sAug, sAugI, gNm, gIx, gIx2, gPat, gTwo, gThree, gsNil, gsCons, tg_nm, tg_tp, tgs_nil, tgs_cons, Option.bind_some, of_some, of_none, bind_ok, wp_ite, wpS_ite, ev_eqI, ev_neI, ev_ltI, ev_gtI, ev_leI, ev_geI, ev_addI, ev_iaddI, ev_subI, ev_negI, ev_divI, ev_modI, ev_intI, ev_intB, ev_absI, ev_lenL, ev_lenD, ev_lenT, ev_minI, ev_maxI, ev_tupL, ev_tupD, ev_tupT, ev_listD, ev_listT, ev_listL, ev_getL, ev_getD, ev_getT, atI_0, atI_1, atI_2, atI_3, atI_4, atI_end, ev_sz, ixN_0, ixN_1, ixN_2, ixN_3, ixN_4, put_0, put_s, List.map_cons, List.map_nil, List.replicate_succ, List.replicate_zero, List.cons_append, List.nil_append, List.length_cons, List.length_nil, List.set_cons_zero, List.set_cons_succ, List.getElem?_cons_zero, List.getElem?_cons_succ, Option.map_some, Option.map_none, frz_d, frz_l, frzs_n, frzs_c, frzs_map, frzs_ints, outs_z, outs_s, List.contains_cons, List.contains_nil, decide_eq_true_eq, beq_iff_eq, bne_iff_ne, if_true, if_false, Bool.false_eq_true, Bool.not_eq_true, Bool.or_false, Bool.or_true, Bool.not_true, Bool.not_false, Nat.reduceAdd, Nat.reduceSub, Nat.reduceLT, Nat.reduceLeDiff, Nat.reduceBEq, Nat.reduceEqDiff, Int.reduceLT, Int.reduceLE, Int.reduceEq, Int.reduceNeg, Int.reducePow, Int.reduceToNat, Nat.zero_add, and_self, and_true, true_and, reduceIte, ev_cutD, ev_cutT, ev_cutL, it_L, it_D, it_T, it_S, cast0, cast1, Int.add_zero, Int.zero_add, Bool.and_true, Bool.true_and, Bool.and_self, Bool.and_false, Bool.false_and]
  refine (draw_ok hh5 (by decide) (by decide)).mono fun r ⟨d6, h6, er, hd6, he6, hh6⟩ => ?_
  subst er
  simp only [wpS_if, wpS_asg, wpS_asgs, wpS_ret, wpS_drop, wpS_skip, wpS_for, wpS_nx, wpS_rt, wp_bind, wp_ok, wp_of_some, eTest, eP, eB, eFr, eFrs, eMov, eFrz, eCons, eNil, eLend, eBin, eCmp, eCmpT, e2, eApp, eTupS, eLstS, eIx, tD, eUn, eTrue, eNotT, eIf, eCall, mCall, pb_nil, pb_none, pb_some, eApnd, eExtd, ePop, ePopAt, eAndT, eOrT, iP, iE, iOne, mVar, mD, mK, mBin, mCmp, mCmpT, mChainT, mOfT, tTrue, mTrue, mAnd, mOr, mNot, mAndT, mOrT, mNotT, mIf, mUn, mNil, mCons, mApp, mTupS, mLstS, mPart, mSlice, tInt, mSliceR, mItems, mItA, mMeth, isLs, isTp, isSt, sAug, sAugI, gNm, gIx, gIx2, gPat, gTwo, gThree, gsNil, gsCons, tg_nm, tg_tp, tgs_nil, tgs_cons, Option.bind_some, of_some, of_none, bind_ok, wp_ite, wpS_ite, ev_eqI, ev_neI, ev_ltI, ev_gtI, ev_leI, ev_geI, ev_addI, ev_iaddI, ev_subI, ev_negI, ev_divI, ev_modI, ev_intI, ev_intB, ev_absI, ev_lenL, ev_lenD, ev_lenT, ev_minI, ev_maxI, ev_tupL, ev_tupD, ev_tupT, ev_listD, ev_listT, ev_listL, ev_getL, ev_getD, ev_getT, atI_0, atI_1, atI_2, atI_3, atI_4, atI_end, ev_sz, ixN_0, ixN_1, ixN_2, ixN_3, ixN_4, put_0, put_s, List.map_cons, List.map_nil, List.replicate_succ, List.replicate_zero, List.cons_append, List.nil_append, List.length_cons, List.length_nil, List.set_cons_zero, List.set_cons_succ, List.getElem?_cons_zero, List.getElem?_cons_succ, Option.map_some, Option.map_none, frz_d, frz_l, frzs_n, frzs_c, frzs_map, frzs_ints, outs_z, outs_s, List.contains_cons, List.contains_nil, decide_eq_true_eq, beq_iff_eq, bne_iff_ne, if_true, if_false, Bool.false_eq_true, Bool.not_eq_true, Bool.or_false, Bool.or_true, Bool.not_true, Bool.not_false, Nat.reduceAdd, Nat.reduceSub, Nat.reduceLT, Nat.reduceLeDiff, Nat.reduceBEq, Nat.reduceEqDiff, Int.reduceLT, Int.reduceLE, Int.reduceEq, Int.reduceNeg, Int.reducePow, Int.reduceToNat, Nat.zero_add, and_self, and_true, true_and, reduceIte, ev_cutD, ev_cutT, ev_cutL, it_L, it_D, it_T, it_S, cast0, cast1, Int.add_zero, Int.zero_add, Bool.and_true, Bool.true_and, Bool.and_self, Bool.and_false, Bool.false_and]
  rw [hK]; clear hK K
  obtain ⟨n, rfl, hn⟩ : ∃ n : Int, x4 = .int n ∧ (n = 2 ∨ n = 3 ∨ n = 4 ∨ n = 5) := by
    simp only [List.mem_cons, List.not_mem_nil, or_false] at hx4
    rcases hx4 with rfl | rfl | rfl | rfl <;> exact ⟨_, rfl, by simp⟩
  have hlo : d5 - 1 = -1 ∨ d5 - 1 = 0 ∨ d5 - 1 = 1 := by omega
  have hhi : d6 = 0 ∨ d6 = 1 ∨ d6 = 2 := by omega
  revert hlo
  generalize d5 - 1 = lo
  intro hlo
  refine wpS_seqK fun K hK => ?_
  simp only [wpS_if, wpS_asg, wpS_asgs, wpS_ret, wpS_drop, wpS_skip, wpS_for, wpS_nx, wpS_rt, wp_bind, wp_ok, wp_of_some, eTest, eP, eB, eFr, eFrs, eMov, eFrz, eCons, eNil, eLend, eBin, eCmp, eCmpT, e2, eApp, eTupS, eLstS, eIx, tD, eUn, eTrue, eNotT, eIf, eCall, mCall, pb_nil, pb_none, pb_some, eApnd, eExtd, ePop, ePopAt, eAndT, eOrT, iP, iE, iOne, mVar, mD, mK, mBin, mCmp, mCmpT, mChainT, mOfT, tTrue, mTrue, mAnd, mOr, mNot, mAndT, mOrT, mNotT, mIf, mUn, mNil, mCons, mApp, mTupS, mLstS, mPart, mSlice, tInt, mSliceR, mItems, mItA, mMeth, isLs, isTp, isSt, sAug, sAugI, gNm, gIx, gIx2, gPat, gTwo, gThree, gsNil, gsCons, tg_nm, tg_tp, tgs_nil, tgs_cons, Option.bind_some, of_some, of_none, bind_ok, wp_ite, wpS_ite, ev_eqI, ev_neI, ev_ltI, ev_gtI, ev_leI, ev_geI, ev_addI, ev_iaddI, ev_subI, ev_negI, ev_divI, ev_modI, ev_intI, ev_intB, ev_absI, ev_lenL, ev_lenD, ev_lenT, ev_minI, ev_maxI, ev_tupL, ev_tupD, ev_tupT, ev_listD, ev_listT, ev_listL, ev_getL, ev_getD, ev_getT, atI_0, atI_1, atI_2, atI_3, atI_4, atI_end, ev_sz, ixN_0, ixN_1, ixN_2, ixN_3, ixN_4, put_0, put_s, List.map_cons, List.map_nil, List.replicate_succ, List.replicate_zero, List.cons_append, List.nil_append, List.length_cons, List.length_nil, List.set_cons_zero, List.set_cons_succ, List.getElem?_cons_zero, List.getElem?_cons_succ, Option.map_some, Option.map_none, frz_d, frz_l, frzs_n, frzs_c, frzs_map, frzs_ints, outs_z, outs_s, List.contains_cons, List.contains_nil, decide_eq_true_eq, beq_iff_eq, bne_iff_ne, if_true, if_false, Bool.false_eq_true, Bool.not_eq_true, Bool.or_false, Bool.or_true, Bool.not_true, Bool.not_false, Nat.reduceAdd, Nat.reduceSub, Nat.reduceLT, Nat.reduceLeDiff, Nat.reduceBEq, Nat.reduceEqDiff, Int.reduceLT, Int.reduceLE, Int.reduceEq, Int.reduceNeg, Int.reducePow, Int.reduceToNat, Nat.zero_add, and_self, and_true, true_and, reduceIte, ev_cutD, ev_cutT, ev_cutL, it_L, it_D, it_T, it_S, cast0, cast1, Int.add_zero, Int.zero_add, Bool.and_true, Bool.true_and, Bool.and_self, Bool.and_false, Bool.false_and]
  rw [hK]; clear hK K
  refine wpS_seqK fun K hK => ?_
  simp only [wpS_if, wpS_asg, wpS_asgs, wpS_ret, wpS_drop, wpS_skip, wpS_for, wpS_nx, wpS_rt, wp_bind, wp_ok, wp_of_some, eTest, eP, eB, eFr, eFrs, eMov, eFrz, eCons, eNil, eLend, eBin, eCmp, eCmpT, e2, eApp, eTupS, eLstS, eIx, tD, eUn, eTrue, eNotT, eIf, eCall, mCall, pb_nil, pb_none, pb_some, eApnd, eExtd, ePop, ePopAt, eAndT, eOrT, iP, iE, iOne, mVar, mD, mK, mBin, mCmp, mCmpT, mChainT, mOfT, tTrue, mTrue, mAnd, mOr, mNot, mAndT, mOrT, mNotT, mIf, mUn, mNil, mCons, mApp, mTupS, mLstS, mPart, mSlice, tInt, mSliceR, mItems, mItA, mMeth, isLs, isTp, isSt, sAug, sAugI, gNm, gIx, gIx2, gPat, gTwo, gThree, gsNil, gsCons, tg_nm, tg_tp, tgs_nil, tgs_cons, Option.bind_some, of_some, of_none, bind_ok, wp_ite, wpS_ite, ev_eqI, ev_neI, ev_ltI, ev_gtI, ev_leI, ev_geI, ev_addI, ev_iaddI, ev_subI, ev_negI, ev_divI, ev_modI, ev_intI, ev_intB, ev_absI, ev_lenL, ev_lenD, ev_lenT, ev_minI, ev_maxI, ev_tupL, ev_tupD, ev_tupT, ev_listD, ev_listT, ev_listL, ev_getL, ev_getD, ev_getT, atI_0, atI_1, atI_2, atI_3, atI_4, atI_end, ev_sz, ixN_0, ixN_1, ixN_2, ixN_3, ixN_4, put_0, put_s, List.map_cons, List.map_nil, List.replicate_succ, List.replicate_zero, List.cons_append, List.nil_append, List.length_cons, List.length_nil, List.set_cons_zero, List.set_cons_succ, List.getElem?_cons_zero, List.getElem?_cons_succ, Option.map_some, Option.map_none, frz_d, frz_l, frzs_n, frzs_c, frzs_map, frzs_ints, outs_z, outs_s, List.contains_cons, List.contains_nil, decide_eq_true_eq, beq_iff_eq, bne_iff_ne, if_true, if_false, Bool.false_eq_true, Bool.not_eq_true, Bool.or_false, Bool.or_true, Bool.not_true, Bool.not_false, Nat.reduceAdd, Nat.reduceSub, Nat.reduceLT, Nat.reduceLeDiff, Nat.reduceBEq, Nat.reduceEqDiff, Int.reduceLT, Int.reduceLE, Int.reduceEq, Int.reduceNeg, Int.reducePow, Int.reduceToNat, Nat.zero_add, and_self, and_true, true_and, reduceIte, ev_cutD, ev_cutT, ev_cutL, it_L, it_D, it_T, it_S, cast0, cast1, Int.add_zero, Int.zero_add, Bool.and_true, Bool.true_and, Bool.and_self, Bool.and_false, Bool.false_and]
  rw [hK]; clear hK K
  rw [wpS_seq, own_ok hn hlo hhi, wpS_nx]
  have shp : ((planes n (min lo d6) d6).length ≤ 30) → Sh 100000 4 (.tuple [.int n, .tuple (planes n (min lo d6) d6)]) := by
    intro hp
    refine (sh_tup (w := 30000) (k := 2) (n := 2) (fun x hx => ?_) (by simp)).up (by decide) (by decide)
    simp only [List.mem_cons, List.not_mem_nil, or_false] at hx
    rcases hx with rfl | rfl
    · exact (sh_int (by omega)).up (by decide) (by decide)
    · exact (sh_tup (w := 400) (k := 1) (n := 30) (planes_sh _ _ _ (by omega) (by omega) (by omega)) hp).up (by decide) (by decide)
  have mid : fIsS [.d (.int (n * (d6 - min lo d6 + 1))), .d (.int (n * (d6 - min lo d6 + 1)))] = .ok (.d (.bool true), [none, none]) := by
    refine is_ok (w := 110) (k := 0) rfl ?_ (by decide) (by decide)
    rw [frz_d]
    refine sh_int ?_
    rcases hn with rfl | rfl | rfl | rfl <;> omega
  have fin : (sSeq (sRet (eP (mCall fIsS (mCons (mCall f_run_middle (mCons (mD (mVar 9)) (mCons (mD (mVar 3)) (mCons (mD (mVar 10)) mNil)))) (mCons (mBin oMul (mVar 9) (mBin oAdd (mBin oSub (mVar 10) (mVar 3)) (mK (.int 1)))) mNil))))) sSkip [some h6, some (T.d (PyData.list (List.map PyData.int rs))), w2, some (.d (.int (min lo d6))), some (.l ((planes n (min lo d6) d6).map .d)), some (.d (.int (n - 1))), some (T.l (List.map T.d (List.map PyData.int (Pr rs)))), some (T.l (List.map T.d (List.map PyData.int (Tr s rs)))), some (T.d (PyData.int s)), some (.d (.int n)), some (.d (.int d6)), some (.d (.int (n - 1))), none]).wpS (fun e => ∃ h', (T.d PyData.none, outs [0] 1 0 e) = (T.d (PyData.bool true), [some h']) ∧ HandOk h') fun r e => ∃ h', (r, outs [0] 1 0 e) = (T.d (PyData.bool true), [some h']) ∧ HandOk h' := by
    simp only [wpS_seq, middle_ok hn hlo hhi, ev_mulL (sm1 (z := n) (by omega)), mid, wpS_if, wpS_asg, wpS_asgs, wpS_ret, wpS_drop, wpS_skip, wpS_for, wpS_nx, wpS_rt, wp_bind, wp_ok, wp_of_some, eTest, eP, eB, eFr, eFrs, eMov, eFrz, eCons, eNil, eLend, eBin, eCmp, eCmpT, e2, eApp, eTupS, eLstS, eIx, tD, eUn, eTrue, eNotT, eIf, eCall, mCall, pb_nil, pb_none, pb_some, eApnd, eExtd, ePop, ePopAt, eAndT, eOrT, iP, iE, iOne, mVar, mD, mK, mBin, mCmp, mCmpT, mChainT, mOfT, tTrue, mTrue, mAnd, mOr, mNot, mAndT, mOrT, mNotT, mIf, mUn, mNil, mCons, mApp, mTupS, mLstS, mPart, mSlice, tInt, mSliceR, mItems, mItA, mMeth, isLs, isTp, isSt, sAug, sAugI, gNm, gIx, gIx2, gPat, gTwo, gThree, gsNil, gsCons, tg_nm, tg_tp, tgs_nil, tgs_cons, Option.bind_some, of_some, of_none, bind_ok, wp_ite, wpS_ite, ev_eqI, ev_neI, ev_ltI, ev_gtI, ev_leI, ev_geI, ev_addI, ev_iaddI, ev_subI, ev_negI, ev_divI, ev_modI, ev_intI, ev_intB, ev_absI, ev_lenL, ev_lenD, ev_lenT, ev_minI, ev_maxI, ev_tupL, ev_tupD, ev_tupT, ev_listD, ev_listT, ev_listL, ev_getL, ev_getD, ev_getT, atI_0, atI_1, atI_2, atI_3, atI_4, atI_end, ev_sz, ixN_0, ixN_1, ixN_2, ixN_3, ixN_4, put_0, put_s, List.map_cons, List.map_nil, List.replicate_succ, List.replicate_zero, List.cons_append, List.nil_append, List.length_cons, List.length_nil, List.set_cons_zero, List.set_cons_succ, List.getElem?_cons_zero, List.getElem?_cons_succ, Option.map_some, Option.map_none, frz_d, frz_l, frzs_n, frzs_c, frzs_map, frzs_ints, outs_z, outs_s, List.contains_cons, List.contains_nil, decide_eq_true_eq, beq_iff_eq, bne_iff_ne, if_true, if_false, Bool.false_eq_true, Bool.not_eq_true, Bool.or_false, Bool.or_true, Bool.not_true, Bool.not_false, Nat.reduceAdd, Nat.reduceSub, Nat.reduceLT, Nat.reduceLeDiff, Nat.reduceBEq, Nat.reduceEqDiff, Int.reduceLT, Int.reduceLE, Int.reduceEq, Int.reduceNeg, Int.reducePow, Int.reduceToNat, Nat.zero_add, and_self, and_true, true_and, reduceIte, ev_cutD, ev_cutT, ev_cutL, it_L, it_D, it_T, it_S, cast0, cast1, Int.add_zero, Int.zero_add, Bool.and_true, Bool.true_and, Bool.and_self, Bool.and_false, Bool.false_and]
    exact ⟨h6, rfl, hh6⟩
  refine wpS_seqK fun K hK => ?_
  by_cases hp : (planes n (min lo d6) d6).length ≤ 30
  · have hp' : (((planes n (min lo d6) d6).length : Nat) : Int) ≤ 30 := by omega
    simp only [List.length_map, hp', cut_ok hn hlo hhi hp, is_ok (t := .d (.tuple [.int n, .tuple (planes n (min lo d6) d6)])) (u := .d (.tuple [.int n, .tuple (planes n (min lo d6) d6)])) rfl (by rw [frz_d]; exact shp hp) (by decide) (by decide), wpS_if, wpS_asg, wpS_asgs, wpS_ret, wpS_drop, wpS_skip, wpS_for, wpS_nx, wpS_rt, wp_bind, wp_ok, wp_of_some, eTest, eP, eB, eFr, eFrs, eMov, eFrz, eCons, eNil, eLend, eBin, eCmp, eCmpT, e2, eApp, eTupS, eLstS, eIx, tD, eUn, eTrue, eNotT, eIf, eCall, mCall, pb_nil, pb_none, pb_some, eApnd, eExtd, ePop, ePopAt, eAndT, eOrT, iP, iE, iOne, mVar, mD, mK, mBin, mCmp, mCmpT, mChainT, mOfT, tTrue, mTrue, mAnd, mOr, mNot, mAndT, mOrT, mNotT, mIf, mUn, mNil, mCons, mApp, mTupS, mLstS, mPart, mSlice, tInt, mSliceR, mItems, mItA, mMeth, isLs, isTp, isSt, sAug, sAugI, gNm, gIx, gIx2, gPat, gTwo, gThree, gsNil, gsCons, tg_nm, tg_tp, tgs_nil, tgs_cons, Option.bind_some, of_some, of_none, bind_ok, wp_ite, wpS_ite, ev_eqI, ev_neI, ev_ltI, ev_gtI, ev_leI, ev_geI, ev_addI, ev_iaddI, ev_subI, ev_negI, ev_divI, ev_modI, ev_intI, ev_intB, ev_absI, ev_lenL, ev_lenD, ev_lenT, ev_minI, ev_maxI, ev_tupL, ev_tupD, ev_tupT, ev_listD, ev_listT, ev_listL, ev_getL, ev_getD, ev_getT, atI_0, atI_1, atI_2, atI_3, atI_4, atI_end, ev_sz, ixN_0, ixN_1, ixN_2, ixN_3, ixN_4, put_0, put_s, List.map_cons, List.map_nil, List.replicate_succ, List.replicate_zero, List.cons_append, List.nil_append, List.length_cons, List.length_nil, List.set_cons_zero, List.set_cons_succ, List.getElem?_cons_zero, List.getElem?_cons_succ, Option.map_some, Option.map_none, frz_d, frz_l, frzs_n, frzs_c, frzs_map, frzs_ints, outs_z, outs_s, List.contains_cons, List.contains_nil, decide_eq_true_eq, beq_iff_eq, bne_iff_ne, if_true, if_false, Bool.false_eq_true, Bool.not_eq_true, Bool.or_false, Bool.or_true, Bool.not_true, Bool.not_false, Nat.reduceAdd, Nat.reduceSub, Nat.reduceLT, Nat.reduceLeDiff, Nat.reduceBEq, Nat.reduceEqDiff, Int.reduceLT, Int.reduceLE, Int.reduceEq, Int.reduceNeg, Int.reducePow, Int.reduceToNat, Nat.zero_add, and_self, and_true, true_and, reduceIte, ev_cutD, ev_cutT, ev_cutL, it_L, it_D, it_T, it_S, cast0, cast1, Int.add_zero, Int.zero_add, Bool.and_true, Bool.true_and, Bool.and_self, Bool.and_false, Bool.false_and]
    rw [hK]
    exact fin
  · have hp' : ¬ (((planes n (min lo d6) d6).length : Nat) : Int) ≤ 30 := by omega
    simp only [List.length_map, hp', wpS_if, wpS_asg, wpS_asgs, wpS_ret, wpS_drop, wpS_skip, wpS_for, wpS_nx, wpS_rt, wp_bind, wp_ok, wp_of_some, eTest, eP, eB, eFr, eFrs, eMov, eFrz, eCons, eNil, eLend, eBin, eCmp, eCmpT, e2, eApp, eTupS, eLstS, eIx, tD, eUn, eTrue, eNotT, eIf, eCall, mCall, pb_nil, pb_none, pb_some, eApnd, eExtd, ePop, ePopAt, eAndT, eOrT, iP, iE, iOne, mVar, mD, mK, mBin, mCmp, mCmpT, mChainT, mOfT, tTrue, mTrue, mAnd, mOr, mNot, mAndT, mOrT, mNotT, mIf, mUn, mNil, mCons, mApp, mTupS, mLstS, mPart, mSlice, tInt, mSliceR, mItems, mItA, mMeth, isLs, isTp, isSt, sAug, sAugI, gNm, gIx, gIx2, gPat, gTwo, gThree, gsNil, gsCons, tg_nm, tg_tp, tgs_nil, tgs_cons, Option.bind_some, of_some, of_none, bind_ok, wp_ite, wpS_ite, ev_eqI, ev_neI, ev_ltI, ev_gtI, ev_leI, ev_geI, ev_addI, ev_iaddI, ev_subI, ev_negI, ev_divI, ev_modI, ev_intI, ev_intB, ev_absI, ev_lenL, ev_lenD, ev_lenT, ev_minI, ev_maxI, ev_tupL, ev_tupD, ev_tupT, ev_listD, ev_listT, ev_listL, ev_getL, ev_getD, ev_getT, atI_0, atI_1, atI_2, atI_3, atI_4, atI_end, ev_sz, ixN_0, ixN_1, ixN_2, ixN_3, ixN_4, put_0, put_s, List.map_cons, List.map_nil, List.replicate_succ, List.replicate_zero, List.cons_append, List.nil_append, List.length_cons, List.length_nil, List.set_cons_zero, List.set_cons_succ, List.getElem?_cons_zero, List.getElem?_cons_succ, Option.map_some, Option.map_none, frz_d, frz_l, frzs_n, frzs_c, frzs_map, frzs_ints, outs_z, outs_s, List.contains_cons, List.contains_nil, decide_eq_true_eq, beq_iff_eq, bne_iff_ne, if_true, if_false, Bool.false_eq_true, Bool.not_eq_true, Bool.or_false, Bool.or_true, Bool.not_true, Bool.not_false, Nat.reduceAdd, Nat.reduceSub, Nat.reduceLT, Nat.reduceLeDiff, Nat.reduceBEq, Nat.reduceEqDiff, Int.reduceLT, Int.reduceLE, Int.reduceEq, Int.reduceNeg, Int.reducePow, Int.reduceToNat, Nat.zero_add, and_self, and_true, true_and, reduceIte, ev_cutD, ev_cutT, ev_cutL, it_L, it_D, it_T, it_S, cast0, cast1, Int.add_zero, Int.zero_add, Bool.and_true, Bool.true_and, Bool.and_self, Bool.and_false, Bool.false_and]
    rw [hK]
    exact fin
theorem law_ok (ns : List Int) : ∃ us, f_law [.d (.list (ns.map .int))] = .ok (.d (.bool true), us) :=
  law_std (p := 71167) (q := 21) ⟨by decide, by decide⟩ (fun h hh => are_refused_ok hh) (fun h hh => right_ok hh)
end K22

set_option maxHeartbeats 0
namespace K22
open PySem PySem.Spec PyProof.Rows L2 Mi LamX

def cls : List Str := ["CutError", "NoNumber", "NoPlanes", "NoPoly", "NoInteger", "NoRun"]
def tfs : List He.Defn := [("_law_are_refused", none)]
def fa : List He.Fa := [.free "abs", .free "all", .free "any", .free "bool", .free "enumerate", .free "int", .free "isinstance", .free "len", .free "list", .free "max", .free "min", .free "range", .free "repr", .free "sorted", .free "tuple", .free "zip", .int "LEAST_N" 2, .int "LEAST_SPACE" 2, .int "MOST_END" 20, .int "MOST_N" 12, .int "MOST_PLANES" 30, .int "MOST_ROOT" 400, .int "MOST_SIZE" 1000000000000000000000000000000, .int "MOST_SPACE" 5, .int "MOST_X" 1000000000, .glo "NoInteger", .exc "NoInteger", .glo "NoNumber", .exc "NoNumber", .glo "NoPlanes", .exc "NoPlanes", .glo "NoPoly", .exc "NoPoly", .glo "NoRun", .exc "NoRun", .glo "CutError", .glo "_law_hand", .glo "_law_draw", .glo "_law_any", .glo "_law_refusal", .glo "is_integer", .glo "is_within", .glo "check_space", .glo "check_run", .glo "all_pairs", .glo "run_cut", .glo "check_ruled", .glo "trimmed", .glo "terms_product", .glo "raised_to", .glo "poly_of_unlike", .glo "poly_of_like", .glo "raw_run_poly", .glo "run_poly", .glo "value_at", .glo "run_rooms", .glo "run_bounded", .glo "run_middle", .glo "is_poly", .glo "check_poly", .glo "turned_about", .glo "divided_by_root", .glo "product_row", .glo "_law_are_refused", .glo "_law_is", .glo "_law_times", .glo "_law_is_right", .glo "law"]
def D__law_hand : He.DefD := ⟨("_law_hand", none), "_law_hand", "_law_hand", defArgs s__law_hand, defBody s__law_hand, defScope s__law_hand, [], []⟩
def D__law_draw : He.DefD := ⟨("_law_draw", none), "_law_draw", "_law_draw", defArgs s__law_draw, defBody s__law_draw, defScope s__law_draw, [], []⟩
def D__law_any : He.DefD := ⟨("_law_any", none), "_law_any", "_law_any", defArgs s__law_any, defBody s__law_any, defScope s__law_any, [], []⟩
def D__law_refusal : He.DefD := ⟨("_law_refusal", none), "_law_refusal", "_law_refusal", defArgs s__law_refusal, defBody s__law_refusal, defScope s__law_refusal, [], []⟩
def D_is_integer : He.DefD := ⟨("is_integer", none), "is_integer", "is_integer", defArgs s_is_integer, defBody s_is_integer, defScope s_is_integer, [], []⟩
def D_is_within : He.DefD := ⟨("is_within", none), "is_within", "is_within", defArgs s_is_within, defBody s_is_within, defScope s_is_within, [], []⟩
def D_check_space : He.DefD := ⟨("check_space", none), "check_space", "check_space", defArgs s_check_space, defBody s_check_space, defScope s_check_space, [], []⟩
def D_check_run : He.DefD := ⟨("check_run", none), "check_run", "check_run", defArgs s_check_run, defBody s_check_run, defScope s_check_run, [], []⟩
def D_all_pairs : He.DefD := ⟨("all_pairs", none), "all_pairs", "all_pairs", defArgs s_all_pairs, defBody s_all_pairs, defScope s_all_pairs, [], []⟩
def D_run_cut : He.DefD := ⟨("run_cut", none), "run_cut", "run_cut", defArgs s_run_cut, defBody s_run_cut, defScope s_run_cut, [], []⟩
def D_check_ruled : He.DefD := ⟨("check_ruled", none), "check_ruled", "check_ruled", defArgs s_check_ruled, defBody s_check_ruled, defScope s_check_ruled, [], []⟩
def D_trimmed : He.DefD := ⟨("trimmed", none), "trimmed", "trimmed", defArgs s_trimmed, defBody s_trimmed, defScope s_trimmed, [], []⟩
def D_terms_product : He.DefD := ⟨("terms_product", none), "terms_product", "terms_product", defArgs s_terms_product, defBody s_terms_product, defScope s_terms_product, [], []⟩
def D_raised_to : He.DefD := ⟨("raised_to", none), "raised_to", "raised_to", defArgs s_raised_to, defBody s_raised_to, defScope s_raised_to, [], []⟩
def D_poly_of_unlike : He.DefD := ⟨("poly_of_unlike", none), "poly_of_unlike", "poly_of_unlike", defArgs s_poly_of_unlike, defBody s_poly_of_unlike, defScope s_poly_of_unlike, [], []⟩
def D_poly_of_like : He.DefD := ⟨("poly_of_like", none), "poly_of_like", "poly_of_like", defArgs s_poly_of_like, defBody s_poly_of_like, defScope s_poly_of_like, [], []⟩
def D_raw_run_poly : He.DefD := ⟨("raw_run_poly", none), "raw_run_poly", "raw_run_poly", defArgs s_raw_run_poly, defBody s_raw_run_poly, defScope s_raw_run_poly, [], []⟩
def D_run_poly : He.DefD := ⟨("run_poly", none), "run_poly", "run_poly", defArgs s_run_poly, defBody s_run_poly, defScope s_run_poly, [], []⟩
def D_value_at : He.DefD := ⟨("value_at", none), "value_at", "value_at", defArgs s_value_at, defBody s_value_at, defScope s_value_at, [], []⟩
def D_run_rooms : He.DefD := ⟨("run_rooms", none), "run_rooms", "run_rooms", defArgs s_run_rooms, defBody s_run_rooms, defScope s_run_rooms, [], []⟩
def D_run_bounded : He.DefD := ⟨("run_bounded", none), "run_bounded", "run_bounded", defArgs s_run_bounded, defBody s_run_bounded, defScope s_run_bounded, [], []⟩
def D_run_middle : He.DefD := ⟨("run_middle", none), "run_middle", "run_middle", defArgs s_run_middle, defBody s_run_middle, defScope s_run_middle, [], []⟩
def D_is_poly : He.DefD := ⟨("is_poly", none), "is_poly", "is_poly", defArgs s_is_poly, defBody s_is_poly, defScope s_is_poly, [], []⟩
def D_check_poly : He.DefD := ⟨("check_poly", none), "check_poly", "check_poly", defArgs s_check_poly, defBody s_check_poly, defScope s_check_poly, [], []⟩
def D_turned_about : He.DefD := ⟨("turned_about", none), "turned_about", "turned_about", defArgs s_turned_about, defBody s_turned_about, defScope s_turned_about, [], []⟩
def D_divided_by_root : He.DefD := ⟨("divided_by_root", none), "divided_by_root", "divided_by_root", defArgs s_divided_by_root, defBody s_divided_by_root, defScope s_divided_by_root, [], []⟩
def D_product_row : He.DefD := ⟨("product_row", none), "product_row", "product_row", defArgs s_product_row, defBody s_product_row, defScope s_product_row, [], []⟩
def D__law_are_refused : He.DefD := ⟨("_law_are_refused", none), "_law_are_refused", "_law_are_refused", defArgs s__law_are_refused, defBody s__law_are_refused, defScope s__law_are_refused, [], []⟩
def D__law_is : He.DefD := ⟨("_law_is", none), "_law_is", "_law_is", defArgs s__law_is, defBody s__law_is, defScope s__law_is, [], []⟩
def D__law_times : He.DefD := ⟨("_law_times", none), "_law_times", "_law_times", defArgs s__law_times, defBody s__law_times, defScope s__law_times, [], []⟩
def D__law_is_right : He.DefD := ⟨("_law_is_right", none), "_law_is_right", "_law_is_right", defArgs s__law_is_right, defBody s__law_is_right, defScope s__law_is_right, [], []⟩
def D_law : He.DefD := ⟨("law", none), "law", "law", defArgs s_law, defBody s_law, defScope s_law, [], []⟩
def fns : List He.DefD := [D__law_hand, D__law_draw, D__law_any, D__law_refusal, D_is_integer, D_is_within, D_check_space, D_check_run, D_all_pairs, D_run_cut, D_check_ruled, D_trimmed, D_terms_product, D_raised_to, D_poly_of_unlike, D_poly_of_like, D_raw_run_poly, D_run_poly, D_value_at, D_run_rooms, D_run_bounded, D_run_middle, D_is_poly, D_check_poly, D_turned_about, D_divided_by_root, D_product_row, D__law_are_refused, D__law_is, D__law_times, D__law_is_right, D_law]
def ctK (K : PySem.W.Frag) (c : Nat) : Addr := He.ga K (cls.getD c "")
def flags : List Nat := [1, 5, 3, 4, 2]
def exB (K : PySem.W.Frag) : Bool := (List.range 6).all fun c => (wd c).isNone || (excB K (ctK K c) && (decide (PySem.W.exmOne K (.ref (ctK K c)) (.ref (ctK K 0)) = some true) && flags.all fun j => decide (PySem.W.kitOne K (.ref (ctK K c)) (.ref (ctK K j)) = some (isub c j))))
theorem wd_lt {c : Nat} {w : Str} (h : wd c = some w) : c < 6 := by
  rcases Nat.lt_or_ge c 6 with z | z
  · exact z
  · exfalso; unfold wd at h; rw [List.getD_eq_getElem?_getD, List.getElem?_eq_none (by simpa using z)] at h; cases h
theorem exB_ok {K : PySem.W.Frag} (h : exB K = true) {c : Nat} {w : Str} (e : wd c = some w) : ExcC K (ctK K c) ∧ PySem.W.exmOne K (.ref (ctK K c)) (.ref (ctK K 0)) = some true ∧ ∀ j ∈ flags, PySem.W.kitOne K (.ref (ctK K c)) (.ref (ctK K j)) = some (isub c j) := by
  have z := List.all_eq_true.mp h c (List.mem_range.mpr (wd_lt e))
  rw [e] at z
  simp only [Option.isNone_some, Bool.false_or, Bool.and_eq_true, decide_eq_true_eq] at z
  exact ⟨excB_ok z.1, z.2.1, fun j hj => by simpa using List.all_eq_true.mp z.2.2 j hj⟩
abbrev R : PySem.W.OpenRow := PySem.W.OpenLaw.row PySem.Challenge.rw_roomscut_k22_whole_refusals_of_runs
abbrev hk : PySem.W.Hook := He.hookX 4 fa fns [] tfs exB
def ob (s : PySem.W.SharedT) : He.AlX := He.obsX 4 fa fns [] tfs exB (HandSHeadRun.getT s)
theorem ob_eq (s : PySem.W.SharedT) : ob s = hk.obs s.abs := He.obsX_eq (HandSHeadRun.getT_eq s)
def loose0 : List Str := ["CutError", "NoNumber", "NoPlanes", "NoPoly", "NoInteger", "NoRun", "LEAST_SPACE", "MOST_SPACE", "MOST_PLANES", "is_integer", "is_within", "check_space", "all_pairs", "MOST_X", "MOST_SIZE", "trimmed", "value_at", "is_poly", "check_poly", "LEAST_N", "MOST_N", "MOST_END", "MOST_ROOT", "check_run", "run_cut", "check_ruled", "terms_product", "raised_to", "poly_of_like", "poly_of_unlike"]
def loose1 : List Str := ["raw_run_poly", "run_poly", "run_rooms", "run_bounded", "turned_about", "run_middle", "divided_by_root", "product_row", "_law_hand", "_law_draw", "_law_any", "_law_refusal", "_law_are_refused", "_law_is", "_law_times", "_law_is_right"]
def loose : List Str := loose0 ++ loose1
theorem run (w : World) : HandSHeadRun.RunEq R (PySem.W.view R.prog [51]) hk ob 3000 loose w := by
  intro os
  kernel_rfl
@[reducible] def tbK (K : PySem.W.Frag) : Tb := ⟨tfs.map fun p => ((He.cT K p).2, (envOfC p.1 (defScope s_law) 0 0 .none).qual ++ "<lambda>")⟩
theorem gG {w : World} {K : PySem.W.Frag} {h hh : Heap} {mg : Str → Option Value} (X : K.In h) (N : h.Ns mainGlobals mg) (c : He.SaysX fa fns [] tfs exB w hh K) : G K mg (ctK K) where
  b_abs := He.free_ok X N (c.t.d.fact 0 (f := .free "abs") rfl)
  b_all := He.free_ok X N (c.t.d.fact 1 (f := .free "all") rfl)
  b_any := He.free_ok X N (c.t.d.fact 2 (f := .free "any") rfl)
  b_bool := He.free_ok X N (c.t.d.fact 3 (f := .free "bool") rfl)
  b_enumerate := He.free_ok X N (c.t.d.fact 4 (f := .free "enumerate") rfl)
  b_int := He.free_ok X N (c.t.d.fact 5 (f := .free "int") rfl)
  b_isinstance := He.free_ok X N (c.t.d.fact 6 (f := .free "isinstance") rfl)
  b_len := He.free_ok X N (c.t.d.fact 7 (f := .free "len") rfl)
  b_list := He.free_ok X N (c.t.d.fact 8 (f := .free "list") rfl)
  b_max := He.free_ok X N (c.t.d.fact 9 (f := .free "max") rfl)
  b_min := He.free_ok X N (c.t.d.fact 10 (f := .free "min") rfl)
  b_range := He.free_ok X N (c.t.d.fact 11 (f := .free "range") rfl)
  b_repr := He.free_ok X N (c.t.d.fact 12 (f := .free "repr") rfl)
  b_sorted := He.free_ok X N (c.t.d.fact 13 (f := .free "sorted") rfl)
  b_tuple := He.free_ok X N (c.t.d.fact 14 (f := .free "tuple") rfl)
  b_zip := He.free_ok X N (c.t.d.fact 15 (f := .free "zip") rfl)
  k_LEAST_N := gk_int X N (c.t.d.fact 16 (f := .int "LEAST_N" 2) rfl)
  k_LEAST_SPACE := gk_int X N (c.t.d.fact 17 (f := .int "LEAST_SPACE" 2) rfl)
  k_MOST_END := gk_int X N (c.t.d.fact 18 (f := .int "MOST_END" 20) rfl)
  k_MOST_N := gk_int X N (c.t.d.fact 19 (f := .int "MOST_N" 12) rfl)
  k_MOST_PLANES := gk_int X N (c.t.d.fact 20 (f := .int "MOST_PLANES" 30) rfl)
  k_MOST_ROOT := gk_int X N (c.t.d.fact 21 (f := .int "MOST_ROOT" 400) rfl)
  k_MOST_SIZE := gk_int X N (c.t.d.fact 22 (f := .int "MOST_SIZE" 1000000000000000000000000000000) rfl)
  k_MOST_SPACE := gk_int X N (c.t.d.fact 23 (f := .int "MOST_SPACE" 5) rfl)
  k_MOST_X := gk_int X N (c.t.d.fact 24 (f := .int "MOST_X" 1000000000) rfl)
  x_NoInteger := ek_ok X N rfl (c.t.d.fact 25 (f := .glo "NoInteger") rfl) (c.t.d.fact 26 (f := .exc "NoInteger") rfl)
  x_NoNumber := ek_ok X N rfl (c.t.d.fact 27 (f := .glo "NoNumber") rfl) (c.t.d.fact 28 (f := .exc "NoNumber") rfl)
  x_NoPlanes := ek_ok X N rfl (c.t.d.fact 29 (f := .glo "NoPlanes") rfl) (c.t.d.fact 30 (f := .exc "NoPlanes") rfl)
  x_NoPoly := ek_ok X N rfl (c.t.d.fact 31 (f := .glo "NoPoly") rfl) (c.t.d.fact 32 (f := .exc "NoPoly") rfl)
  x_NoRun := ek_ok X N rfl (c.t.d.fact 33 (f := .glo "NoRun") rfl) (c.t.d.fact 34 (f := .exc "NoRun") rfl)
  x_0 := He.glo_ok X N (c.t.d.fact 35 (f := .glo "CutError") rfl)
  x_w := fun _ _ e => (exB_ok c.more e).1
  x_is := fun _ _ e => (exB_ok c.more e).2.2
  x_err := fun _ _ e => (exB_ok c.more e).2.1
theorem uni__law_are_refused {w : World} {K : PySem.W.Frag} {hh : Heap} (c : He.SaysX fa fns [] tfs exB w hh K) : ∀ p ∈ (tbK K).T, p.1 = (He.cT K ("_law_are_refused", none)).2 → p.2 = (envOfC "_law_are_refused" (defScope s__law_are_refused) 0 0 .none).qual ++ "<lambda>" := fun p hp _ => by
  obtain ⟨q, hq, rfl⟩ := List.mem_map.mp hp
  rw [List.mem_singleton.mp hq]
  rfl
theorem fgs {P : Program} {w : World} {K : PySem.W.Frag} {h hh : Heap} {mg : Str → Option Value} (X : K.In h) (N : h.Ns mainGlobals mg) (c : He.SaysX fa fns [] tfs exB w hh K)
    {base : Heap} (TB : letI := tbK K; ∀ p ∈ tfs.map (He.cT K), TabB base mg p.1 p.2) : letI := tbK K; ∀ fd, FunD K "law" "law" (defArgs s_law) (defBody s_law) (defScope s_law) [] [] (He.ga K "law") fd → Fg P w K mg base 9 (He.ga K "law") fd ["script"] (spM K (ctK K) 1 f_law) := by
  letI := tbK K
  intro fdl F_law
  have g := gG X N c
  obtain ⟨d__law_hand, F__law_hand⟩ := c.t.d.def_ 0 (d := D__law_hand) rfl
  have m__law_hand : mg "_law_hand" = some (.ref (He.ga K "_law_hand")) := He.glo_ok X N (c.t.d.fact 36 (f := .glo "_law_hand") rfl)
  have n__law_hand : Binds K d__law_hand ["script"] [] := F__law_hand.bindsN (fun _ _ _ _ _ _ us hl => match us, hl with | [_], _ => rfl)
  have c__law_hand : Cal P w K mg base (ctK K) "_law_hand" 1 1 f__law_hand := cal_fun F__law_hand m__law_hand n__law_hand (fg_fun F__law_hand sc__law_hand (nL := 2) rfl fun cdv A outer s H E _ hr hg => w__law_hand g hr hg)
  obtain ⟨d__law_draw, F__law_draw⟩ := c.t.d.def_ 1 (d := D__law_draw) rfl
  have m__law_draw : mg "_law_draw" = some (.ref (He.ga K "_law_draw")) := He.glo_ok X N (c.t.d.fact 37 (f := .glo "_law_draw") rfl)
  have n__law_draw : Binds K d__law_draw ["hand", "many"] [] := F__law_draw.bindsN (fun _ _ _ _ _ _ us hl => match us, hl with | [_, _], _ => rfl)
  have c__law_draw : Cal P w K mg base (ctK K) "_law_draw" 1 2 f__law_draw := cal_fun F__law_draw m__law_draw n__law_draw (fg_fun F__law_draw sc__law_draw (nL := 3) rfl fun cdv A outer s H E _ hr hg => w__law_draw g hr hg)
  obtain ⟨d__law_any, F__law_any⟩ := c.t.d.def_ 2 (d := D__law_any) rfl
  have m__law_any : mg "_law_any" = some (.ref (He.ga K "_law_any")) := He.glo_ok X N (c.t.d.fact 38 (f := .glo "_law_any") rfl)
  have n__law_any : Binds K d__law_any ["hand", "some"] [] := F__law_any.bindsN (fun _ _ _ _ _ _ us hl => match us, hl with | [_, _], _ => rfl)
  have c__law_any : Cal P w K mg base (ctK K) "_law_any" 2 2 f__law_any := cal_fun F__law_any m__law_any n__law_any (fg_fun F__law_any sc__law_any (nL := 0) rfl fun cdv A outer s H E _ hr hg => w__law_any g c__law_draw hr hg)
  obtain ⟨d__law_refusal, F__law_refusal⟩ := c.t.d.def_ 3 (d := D__law_refusal) rfl
  have m__law_refusal : mg "_law_refusal" = some (.ref (He.ga K "_law_refusal")) := He.glo_ok X N (c.t.d.fact 39 (f := .glo "_law_refusal") rfl)
  have n__law_refusal : Binds K d__law_refusal ["call"] [] := F__law_refusal.bindsN (fun _ _ _ _ _ _ us hl => match us, hl with | [_], _ => rfl)
  have t__law_refusal : Tel P w K mg base (ctK K) "_law_refusal" "call" wd := tel_fun F__law_refusal m__law_refusal n__law_refusal sc__law_refusal rfl (by exact Or.inl rfl) (fun cdv X q => gives__law_refusal g X q)
  obtain ⟨d_is_integer, F_is_integer⟩ := c.t.d.def_ 4 (d := D_is_integer) rfl
  have m_is_integer : mg "is_integer" = some (.ref (He.ga K "is_integer")) := He.glo_ok X N (c.t.d.fact 40 (f := .glo "is_integer") rfl)
  have n_is_integer : Binds K d_is_integer ["thing"] [] := F_is_integer.bindsN (fun _ _ _ _ _ _ us hl => match us, hl with | [_], _ => rfl)
  have c_is_integer : Cal P w K mg base (ctK K) "is_integer" 1 1 f_is_integer := cal_fun F_is_integer m_is_integer n_is_integer (fg_fun F_is_integer sc_is_integer (nL := 0) rfl fun cdv A outer s H E _ hr hg => w_is_integer g hr hg)
  obtain ⟨d_is_within, F_is_within⟩ := c.t.d.def_ 5 (d := D_is_within) rfl
  have m_is_within : mg "is_within" = some (.ref (He.ga K "is_within")) := He.glo_ok X N (c.t.d.fact 41 (f := .glo "is_within") rfl)
  have n_is_within : Binds K d_is_within ["thing", "low", "high"] [] := F_is_within.bindsN (fun _ _ _ _ _ _ us hl => match us, hl with | [_, _, _], _ => rfl)
  have c_is_within : Cal P w K mg base (ctK K) "is_within" 2 3 f_is_within := cal_fun F_is_within m_is_within n_is_within (fg_fun F_is_within sc_is_within (nL := 0) rfl fun cdv A outer s H E _ hr hg => w_is_within g c_is_integer hr hg)
  obtain ⟨d_check_space, F_check_space⟩ := c.t.d.def_ 6 (d := D_check_space) rfl
  have m_check_space : mg "check_space" = some (.ref (He.ga K "check_space")) := He.glo_ok X N (c.t.d.fact 42 (f := .glo "check_space") rfl)
  have n_check_space : Binds K d_check_space ["n"] [] := F_check_space.bindsN (fun _ _ _ _ _ _ us hl => match us, hl with | [_], _ => rfl)
  have c_check_space : Cal P w K mg base (ctK K) "check_space" 3 1 f_check_space := cal_fun F_check_space m_check_space n_check_space (fg_fun F_check_space sc_check_space (nL := 0) rfl fun cdv A outer s H E _ hr hg => w_check_space g c_is_within hr hg)
  obtain ⟨d_check_run, F_check_run⟩ := c.t.d.def_ 7 (d := D_check_run) rfl
  have m_check_run : mg "check_run" = some (.ref (He.ga K "check_run")) := He.glo_ok X N (c.t.d.fact 43 (f := .glo "check_run") rfl)
  have n_check_run : Binds K d_check_run ["low", "high"] [] := F_check_run.bindsN (fun _ _ _ _ _ _ us hl => match us, hl with | [_, _], _ => rfl)
  have c_check_run : Cal P w K mg base (ctK K) "check_run" 3 2 f_check_run := cal_fun F_check_run m_check_run n_check_run (fg_fun F_check_run sc_check_run (nL := 0) rfl fun cdv A outer s H E _ hr hg => w_check_run g c_is_within hr hg)
  obtain ⟨d_all_pairs, F_all_pairs⟩ := c.t.d.def_ 8 (d := D_all_pairs) rfl
  have m_all_pairs : mg "all_pairs" = some (.ref (He.ga K "all_pairs")) := He.glo_ok X N (c.t.d.fact 44 (f := .glo "all_pairs") rfl)
  have n_all_pairs : Binds K d_all_pairs ["n"] [] := F_all_pairs.bindsN (fun _ _ _ _ _ _ us hl => match us, hl with | [_], _ => rfl)
  have c_all_pairs : Cal P w K mg base (ctK K) "all_pairs" 1 1 f_all_pairs := cal_fun F_all_pairs m_all_pairs n_all_pairs (fg_fun F_all_pairs sc_all_pairs (nL := 2) rfl fun cdv A outer s H E _ hr hg => w_all_pairs g hr hg)
  obtain ⟨d_run_cut, F_run_cut⟩ := c.t.d.def_ 9 (d := D_run_cut) rfl
  have m_run_cut : mg "run_cut" = some (.ref (He.ga K "run_cut")) := He.glo_ok X N (c.t.d.fact 45 (f := .glo "run_cut") rfl)
  have n_run_cut : Binds K d_run_cut ["n", "low", "high"] [] := F_run_cut.bindsN (fun _ _ _ _ _ _ us hl => match us, hl with | [_, _, _], _ => rfl)
  have c_run_cut : Cal P w K mg base (ctK K) "run_cut" 4 3 f_run_cut := cal_fun F_run_cut m_run_cut n_run_cut (fg_fun F_run_cut sc_run_cut (nL := 4) rfl fun cdv A outer s H E _ hr hg => w_run_cut g c_all_pairs c_check_run c_check_space hr hg)
  obtain ⟨d_check_ruled, F_check_ruled⟩ := c.t.d.def_ 10 (d := D_check_ruled) rfl
  have m_check_ruled : mg "check_ruled" = some (.ref (He.ga K "check_ruled")) := He.glo_ok X N (c.t.d.fact 46 (f := .glo "check_ruled") rfl)
  have n_check_ruled : Binds K d_check_ruled ["n", "low", "high"] [] := F_check_ruled.bindsN (fun _ _ _ _ _ _ us hl => match us, hl with | [_, _, _], _ => rfl)
  have c_check_ruled : Cal P w K mg base (ctK K) "check_ruled" 4 3 f_check_ruled := cal_fun F_check_ruled m_check_ruled n_check_ruled (fg_fun F_check_ruled sc_check_ruled (nL := 0) rfl fun cdv A outer s H E _ hr hg => w_check_ruled g c_check_run c_is_within hr hg)
  obtain ⟨d_trimmed, F_trimmed⟩ := c.t.d.def_ 11 (d := D_trimmed) rfl
  have m_trimmed : mg "trimmed" = some (.ref (He.ga K "trimmed")) := He.glo_ok X N (c.t.d.fact 47 (f := .glo "trimmed") rfl)
  have n_trimmed : Binds K d_trimmed ["terms"] [] := F_trimmed.bindsN (fun _ _ _ _ _ _ us hl => match us, hl with | [_], _ => rfl)
  have c_trimmed : Cal P w K mg base (ctK K) "trimmed" 1 1 f_trimmed := cal_fun F_trimmed m_trimmed n_trimmed (fg_fun F_trimmed sc_trimmed (nL := 1) rfl fun cdv A outer s H E _ hr hg => w_trimmed g hr hg)
  obtain ⟨d_terms_product, F_terms_product⟩ := c.t.d.def_ 12 (d := D_terms_product) rfl
  have m_terms_product : mg "terms_product" = some (.ref (He.ga K "terms_product")) := He.glo_ok X N (c.t.d.fact 48 (f := .glo "terms_product") rfl)
  have n_terms_product : Binds K d_terms_product ["one", "other"] [] := F_terms_product.bindsN (fun _ _ _ _ _ _ us hl => match us, hl with | [_, _], _ => rfl)
  have c_terms_product : Cal P w K mg base (ctK K) "terms_product" 1 2 f_terms_product := cal_fun F_terms_product m_terms_product n_terms_product (fg_fun F_terms_product sc_terms_product (nL := 5) rfl fun cdv A outer s H E _ hr hg => w_terms_product g hr hg)
  obtain ⟨d_raised_to, F_raised_to⟩ := c.t.d.def_ 13 (d := D_raised_to) rfl
  have m_raised_to : mg "raised_to" = some (.ref (He.ga K "raised_to")) := He.glo_ok X N (c.t.d.fact 49 (f := .glo "raised_to") rfl)
  have n_raised_to : Binds K d_raised_to ["row", "power"] [] := F_raised_to.bindsN (fun _ _ _ _ _ _ us hl => match us, hl with | [_, _], _ => rfl)
  have c_raised_to : Cal P w K mg base (ctK K) "raised_to" 2 2 f_raised_to := cal_fun F_raised_to m_raised_to n_raised_to (fg_fun F_raised_to sc_raised_to (nL := 2) rfl fun cdv A outer s H E _ hr hg => w_raised_to g c_terms_product hr hg)
  obtain ⟨d_poly_of_unlike, F_poly_of_unlike⟩ := c.t.d.def_ 14 (d := D_poly_of_unlike) rfl
  have m_poly_of_unlike : mg "poly_of_unlike" = some (.ref (He.ga K "poly_of_unlike")) := He.glo_ok X N (c.t.d.fact 50 (f := .glo "poly_of_unlike") rfl)
  have n_poly_of_unlike : Binds K d_poly_of_unlike ["n", "first", "last"] [] := F_poly_of_unlike.bindsN (fun _ _ _ _ _ _ us hl => match us, hl with | [_, _, _], _ => rfl)
  have c_poly_of_unlike : Cal P w K mg base (ctK K) "poly_of_unlike" 3 3 f_poly_of_unlike := cal_fun F_poly_of_unlike m_poly_of_unlike n_poly_of_unlike (fg_fun F_poly_of_unlike sc_poly_of_unlike (nL := 10) rfl fun cdv A outer s H E _ hr hg => w_poly_of_unlike g c_raised_to hr hg)
  obtain ⟨d_poly_of_like, F_poly_of_like⟩ := c.t.d.def_ 15 (d := D_poly_of_like) rfl
  have m_poly_of_like : mg "poly_of_like" = some (.ref (He.ga K "poly_of_like")) := He.glo_ok X N (c.t.d.fact 51 (f := .glo "poly_of_like") rfl)
  have n_poly_of_like : Binds K d_poly_of_like ["n", "high"] [] := F_poly_of_like.bindsN (fun _ _ _ _ _ _ us hl => match us, hl with | [_, _], _ => rfl)
  have c_poly_of_like : Cal P w K mg base (ctK K) "poly_of_like" 2 2 f_poly_of_like := cal_fun F_poly_of_like m_poly_of_like n_poly_of_like (fg_fun F_poly_of_like sc_poly_of_like (nL := 2) rfl fun cdv A outer s H E _ hr hg => w_poly_of_like g c_terms_product hr hg)
  obtain ⟨d_raw_run_poly, F_raw_run_poly⟩ := c.t.d.def_ 16 (d := D_raw_run_poly) rfl
  have m_raw_run_poly : mg "raw_run_poly" = some (.ref (He.ga K "raw_run_poly")) := He.glo_ok X N (c.t.d.fact 52 (f := .glo "raw_run_poly") rfl)
  have n_raw_run_poly : Binds K d_raw_run_poly ["n", "low", "high"] [] := F_raw_run_poly.bindsN (fun _ _ _ _ _ _ us hl => match us, hl with | [_, _, _], _ => rfl)
  have c_raw_run_poly : Cal P w K mg base (ctK K) "raw_run_poly" 4 3 f_raw_run_poly := cal_fun F_raw_run_poly m_raw_run_poly n_raw_run_poly (fg_fun F_raw_run_poly sc_raw_run_poly (nL := 2) rfl fun cdv A outer s H E _ hr hg => w_raw_run_poly g c_poly_of_like c_poly_of_unlike c_trimmed hr hg)
  obtain ⟨d_run_poly, F_run_poly⟩ := c.t.d.def_ 17 (d := D_run_poly) rfl
  have m_run_poly : mg "run_poly" = some (.ref (He.ga K "run_poly")) := He.glo_ok X N (c.t.d.fact 53 (f := .glo "run_poly") rfl)
  have n_run_poly : Binds K d_run_poly ["n", "low", "high"] [] := F_run_poly.bindsN (fun _ _ _ _ _ _ us hl => match us, hl with | [_, _, _], _ => rfl)
  have c_run_poly : Cal P w K mg base (ctK K) "run_poly" 5 3 f_run_poly := cal_fun F_run_poly m_run_poly n_run_poly (fg_fun F_run_poly sc_run_poly (nL := 0) rfl fun cdv A outer s H E _ hr hg => w_run_poly g c_check_ruled c_raw_run_poly hr hg)
  obtain ⟨d_value_at, F_value_at⟩ := c.t.d.def_ 18 (d := D_value_at) rfl
  have m_value_at : mg "value_at" = some (.ref (He.ga K "value_at")) := He.glo_ok X N (c.t.d.fact 54 (f := .glo "value_at") rfl)
  have n_value_at : Binds K d_value_at ["poly", "q"] [] := F_value_at.bindsN (fun _ _ _ _ _ _ us hl => match us, hl with | [_, _], _ => rfl)
  have c_value_at : Cal P w K mg base (ctK K) "value_at" 1 2 f_value_at := cal_fun F_value_at m_value_at n_value_at (fg_fun F_value_at sc_value_at (nL := 2) rfl fun cdv A outer s H E _ hr hg => w_value_at g hr hg)
  obtain ⟨d_run_rooms, F_run_rooms⟩ := c.t.d.def_ 19 (d := D_run_rooms) rfl
  have m_run_rooms : mg "run_rooms" = some (.ref (He.ga K "run_rooms")) := He.glo_ok X N (c.t.d.fact 55 (f := .glo "run_rooms") rfl)
  have n_run_rooms : Binds K d_run_rooms ["n", "low", "high"] [] := F_run_rooms.bindsN (fun _ _ _ _ _ _ us hl => match us, hl with | [_, _, _], _ => rfl)
  have c_run_rooms : Cal P w K mg base (ctK K) "run_rooms" 5 3 f_run_rooms := cal_fun F_run_rooms m_run_rooms n_run_rooms (fg_fun F_run_rooms sc_run_rooms (nL := 0) rfl fun cdv A outer s H E _ hr hg => w_run_rooms g c_check_ruled c_raw_run_poly c_value_at hr hg)
  obtain ⟨d_run_bounded, F_run_bounded⟩ := c.t.d.def_ 20 (d := D_run_bounded) rfl
  have m_run_bounded : mg "run_bounded" = some (.ref (He.ga K "run_bounded")) := He.glo_ok X N (c.t.d.fact 56 (f := .glo "run_bounded") rfl)
  have n_run_bounded : Binds K d_run_bounded ["n", "low", "high"] [] := F_run_bounded.bindsN (fun _ _ _ _ _ _ us hl => match us, hl with | [_, _, _], _ => rfl)
  have c_run_bounded : Cal P w K mg base (ctK K) "run_bounded" 5 3 f_run_bounded := cal_fun F_run_bounded m_run_bounded n_run_bounded (fg_fun F_run_bounded sc_run_bounded (nL := 0) rfl fun cdv A outer s H E _ hr hg => w_run_bounded g c_check_ruled c_raw_run_poly c_value_at hr hg)
  obtain ⟨d_run_middle, F_run_middle⟩ := c.t.d.def_ 21 (d := D_run_middle) rfl
  have m_run_middle : mg "run_middle" = some (.ref (He.ga K "run_middle")) := He.glo_ok X N (c.t.d.fact 57 (f := .glo "run_middle") rfl)
  have n_run_middle : Binds K d_run_middle ["n", "low", "high"] [] := F_run_middle.bindsN (fun _ _ _ _ _ _ us hl => match us, hl with | [_, _, _], _ => rfl)
  have c_run_middle : Cal P w K mg base (ctK K) "run_middle" 5 3 f_run_middle := cal_fun F_run_middle m_run_middle n_run_middle (fg_fun F_run_middle sc_run_middle (nL := 0) rfl fun cdv A outer s H E _ hr hg => w_run_middle g c_check_ruled hr hg)
  obtain ⟨d_is_poly, F_is_poly⟩ := c.t.d.def_ 22 (d := D_is_poly) rfl
  have m_is_poly : mg "is_poly" = some (.ref (He.ga K "is_poly")) := He.glo_ok X N (c.t.d.fact 58 (f := .glo "is_poly") rfl)
  have n_is_poly : Binds K d_is_poly ["thing"] [] := F_is_poly.bindsN (fun _ _ _ _ _ _ us hl => match us, hl with | [_], _ => rfl)
  have c_is_poly : Cal P w K mg base (ctK K) "is_poly" 2 1 f_is_poly := cal_fun F_is_poly m_is_poly n_is_poly (fg_fun F_is_poly sc_is_poly (nL := 1) rfl fun cdv A outer s H E _ hr hg => w_is_poly g c_is_integer hr hg)
  obtain ⟨d_check_poly, F_check_poly⟩ := c.t.d.def_ 23 (d := D_check_poly) rfl
  have m_check_poly : mg "check_poly" = some (.ref (He.ga K "check_poly")) := He.glo_ok X N (c.t.d.fact 59 (f := .glo "check_poly") rfl)
  have n_check_poly : Binds K d_check_poly ["thing"] [] := F_check_poly.bindsN (fun _ _ _ _ _ _ us hl => match us, hl with | [_], _ => rfl)
  have c_check_poly : Cal P w K mg base (ctK K) "check_poly" 3 1 f_check_poly := cal_fun F_check_poly m_check_poly n_check_poly (fg_fun F_check_poly sc_check_poly (nL := 0) rfl fun cdv A outer s H E _ hr hg => w_check_poly g c_is_poly hr hg)
  obtain ⟨d_turned_about, F_turned_about⟩ := c.t.d.def_ 24 (d := D_turned_about) rfl
  have m_turned_about : mg "turned_about" = some (.ref (He.ga K "turned_about")) := He.glo_ok X N (c.t.d.fact 60 (f := .glo "turned_about") rfl)
  have n_turned_about : Binds K d_turned_about ["poly", "s"] [] := F_turned_about.bindsN (fun _ _ _ _ _ _ us hl => match us, hl with | [_, _], _ => rfl)
  have c_turned_about : Cal P w K mg base (ctK K) "turned_about" 4 2 f_turned_about := cal_fun F_turned_about m_turned_about n_turned_about (fg_fun F_turned_about sc_turned_about (nL := 2) rfl fun cdv A outer s H E _ hr hg => w_turned_about g c_check_poly c_is_within c_terms_product c_trimmed hr hg)
  obtain ⟨d_divided_by_root, F_divided_by_root⟩ := c.t.d.def_ 25 (d := D_divided_by_root) rfl
  have m_divided_by_root : mg "divided_by_root" = some (.ref (He.ga K "divided_by_root")) := He.glo_ok X N (c.t.d.fact 61 (f := .glo "divided_by_root") rfl)
  have n_divided_by_root : Binds K d_divided_by_root ["poly", "root"] [] := F_divided_by_root.bindsN (fun _ _ _ _ _ _ us hl => match us, hl with | [_, _], _ => rfl)
  have c_divided_by_root : Cal P w K mg base (ctK K) "divided_by_root" 1 2 f_divided_by_root := cal_fun F_divided_by_root m_divided_by_root n_divided_by_root (fg_fun F_divided_by_root sc_divided_by_root (nL := 3) rfl fun cdv A outer s H E _ hr hg => w_divided_by_root g hr hg)
  obtain ⟨d_product_row, F_product_row⟩ := c.t.d.def_ 26 (d := D_product_row) rfl
  have m_product_row : mg "product_row" = some (.ref (He.ga K "product_row")) := He.glo_ok X N (c.t.d.fact 62 (f := .glo "product_row") rfl)
  have n_product_row : Binds K d_product_row ["poly"] [] := F_product_row.bindsN (fun _ _ _ _ _ _ us hl => match us, hl with | [_], _ => rfl)
  have c_product_row : Cal P w K mg base (ctK K) "product_row" 4 1 f_product_row := cal_fun F_product_row m_product_row n_product_row (fg_fun F_product_row sc_product_row (nL := 4) rfl fun cdv A outer s H E _ hr hg => w_product_row g c_check_poly c_divided_by_root hr hg)
  obtain ⟨d__law_are_refused, F__law_are_refused⟩ := c.t.d.def_ 27 (d := D__law_are_refused) rfl
  have m__law_are_refused : mg "_law_are_refused" = some (.ref (He.ga K "_law_are_refused")) := He.glo_ok X N (c.t.d.fact 63 (f := .glo "_law_are_refused") rfl)
  have n__law_are_refused : Binds K d__law_are_refused ["hand"] [] := F__law_are_refused.bindsN (fun _ _ _ _ _ _ us hl => match us, hl with | [_], _ => rfl)
  have c__law_are_refused : Cal P w K mg base (ctK K) "_law_are_refused" 8 1 f__law_are_refused := cal_fun F__law_are_refused m__law_are_refused n__law_are_refused (fg_fun F__law_are_refused sc__law_are_refused (nL := 8) rfl fun cdv A outer s H E ⟨cc, hc, hcode⟩ hr hg => by
    subst hc
    have e : He.codeOf K ("_law_are_refused", none) = cc := by
      obtain ⟨_, _, _, _, _, _, _, _, _, _, rfl, lk, _, _, _⟩ := F__law_are_refused.ex
      exact He.codeOf_eq lk (hcode _ _ _ _ lk)
    refine w__law_are_refused g c__law_any c_product_row c_run_bounded c_run_cut c_run_middle c_run_poly c_run_rooms c_turned_about t__law_refusal (P_ := (He.cT K ("_law_are_refused", none)).2) ⟨?_, ?_, ?_⟩ hr hg
    · have z := TB (He.cT K ("_law_are_refused", none)) (List.mem_map.mpr ⟨_, by decide, rfl⟩)
      have z2 : TabB base mg (He.codeOf K ("_law_are_refused", none)) (He.cT K ("_law_are_refused", none)).2 := z
      rwa [e] at z2
    · exact List.mem_map.mpr ⟨("_law_are_refused", none), by decide, rfl⟩
    · exact uni__law_are_refused c)
  obtain ⟨d__law_is, F__law_is⟩ := c.t.d.def_ 28 (d := D__law_is) rfl
  have m__law_is : mg "_law_is" = some (.ref (He.ga K "_law_is")) := He.glo_ok X N (c.t.d.fact 64 (f := .glo "_law_is") rfl)
  have n__law_is : Binds K d__law_is ["told", "due"] [] := F__law_is.bindsN (fun _ _ _ _ _ _ us hl => match us, hl with | [_, _], _ => rfl)
  have c__law_is : Cal P w K mg base (ctK K) "_law_is" 1 2 f__law_is := cal_fun F__law_is m__law_is n__law_is (fg_fun F__law_is sc__law_is (nL := 0) rfl fun cdv A outer s H E _ hr hg => w__law_is g hr hg)
  obtain ⟨d__law_times, F__law_times⟩ := c.t.d.def_ 29 (d := D__law_times) rfl
  have m__law_times : mg "_law_times" = some (.ref (He.ga K "_law_times")) := He.glo_ok X N (c.t.d.fact 65 (f := .glo "_law_times") rfl)
  have n__law_times : Binds K d__law_times ["one", "other"] [] := F__law_times.bindsN (fun _ _ _ _ _ _ us hl => match us, hl with | [_, _], _ => rfl)
  have c__law_times : Cal P w K mg base (ctK K) "_law_times" 1 2 f__law_times := cal_fun F__law_times m__law_times n__law_times (fg_fun F__law_times sc__law_times (nL := 5) rfl fun cdv A outer s H E _ hr hg => w__law_times g hr hg)
  obtain ⟨d__law_is_right, F__law_is_right⟩ := c.t.d.def_ 30 (d := D__law_is_right) rfl
  have m__law_is_right : mg "_law_is_right" = some (.ref (He.ga K "_law_is_right")) := He.glo_ok X N (c.t.d.fact 66 (f := .glo "_law_is_right") rfl)
  have n__law_is_right : Binds K d__law_is_right ["hand"] [] := F__law_is_right.bindsN (fun _ _ _ _ _ _ us hl => match us, hl with | [_], _ => rfl)
  have c__law_is_right : Cal P w K mg base (ctK K) "_law_is_right" 6 1 f__law_is_right := cal_fun F__law_is_right m__law_is_right n__law_is_right (fg_fun F__law_is_right sc__law_is_right (nL := 12) rfl fun cdv A outer s H E _ hr hg => w__law_is_right g c__law_any c__law_draw c__law_is c__law_times c_product_row c_run_cut c_run_middle c_turned_about hr hg)
  exact fg_fun F_law sc_law (nL := 2) rfl fun cdv A outer s H E _ hr hg => w_law g c__law_are_refused c__law_hand c__law_is_right hr hg
end K22
open PySem PySem.W PySem.Calls PyProof.Rows
theorem K22.holds_of (law_ok : ∀ ns : List Int, ns.length ≤ 63 → (∀ z ∈ ns, Builtin.Int.intBits z ≤ 1048576) → ∃ us, K22.f_law [.d (.list (ns.map .int))] = .ok (.d (.bool true), us)) : PySem.Challenge.rw_roomscut_k22_whole_refusals_of_runs.Holds := by
  w_on; o_law
  refine HandSHeadRun.head_any (r := OpenLaw.row PySem.Challenge.rw_roomscut_k22_whole_refusals_of_runs) (q := view (OpenLaw.row PySem.Challenge.rw_roomscut_k22_whole_refusals_of_runs).prog [51]) (H := K22.hk) (ob := K22.ob) (M := 3000) (loose := K22.loose) (d := HandSHeadRun.topDef (OpenLaw.row PySem.Challenge.rw_roomscut_k22_whole_refusals_of_runs).prog 51) (kwd := []) K22.ob_eq
    (by kernel_rfl) (fun s => by kernel_rfl) K22.run (by kernel_rfl) (by kernel_rfl) (by kernel_rfl) (by rfl) (by first | assumption | decide +kernel) (by decide +kernel) ⟨rfl, rfl, rfl, rfl, rfl, by decide +kernel⟩ ?hw ?hc
  case hw => w_witness2
  case hc =>
    refine Mi.walk_ofG (l := PySem.Challenge.rw_roomscut_k22_whole_refusals_of_runs) (n := 63) (k := 9) (x := "script") rfl (by decide) (by kernel_rfl) ⟨rfl, by decide, by decide⟩ ?F
    intro w mg fa h Y G hmg0
    obtain ⟨K, KX, c⟩ := Y
    letI := K22.tbK K
    have hmg : mg ("law" : PySem.Str) = some (.ref fa) := by
      have e : (HandSHeadRun.topDef (OpenLaw.row PySem.Challenge.rw_roomscut_k22_whole_refusals_of_runs).prog 51).name = ("law" : PySem.Str) := by kernel_rfl
      rw [← e]
      exact hmg0
    obtain ⟨fd, F⟩ := c.t.d.def_ 31 (d := K22.D_law) rfl
    have e := hmg.symm.trans (He.glo_ok KX G (c.t.d.fact 67 (f := .glo "law") rfl))
    cases e
    have b := L2.FunD.bindsA (ps := ["script"]) F fun _ _ _ _ _ _ us hl => match us, hl with | [_], _ => rfl
    refine ⟨K, KX, fd, K22.tfs.map (He.cT K), Mi.spM K (K22.ctK K) 1 K22.f_law, ?_, ?_, ?_, fun s v => b s [v] rfl, ?_, ?_⟩
    · intro p hp
      obtain ⟨q, hq, rfl⟩ := List.mem_map.mp hp
      exact c.empty q hq
    · intro p hp
      obtain ⟨q, hq, rfl⟩ := List.mem_map.mp hp
      exact c.out q hq
    · intro p hp
      obtain ⟨q, hq, rfl⟩ := List.mem_map.mp hp
      exact PySem.W.codeHd_of_K KX (c.hd q hq)
    · intro H a ns hl hb hH hS ha
      obtain ⟨us, e⟩ := law_ok ns hl hb
      exact Mi.spM_law (fun p hp => by
        obtain ⟨q, hq, rfl⟩ := List.mem_map.mp hp
        exact List.mem_map.mpr ⟨He.cT K q, List.mem_map.mpr ⟨q, hq, rfl⟩, rfl⟩) hH hS ha e
    · intro base KB GB TB
      exact K22.fgs KB GB c TB fd F

set_option maxHeartbeats 0
theorem PySem.Challenge.cw_roomscut_k22_whole_refusals_of_runs_holds : PySem.Challenge.rw_roomscut_k22_whole_refusals_of_runs.Holds :=
  K22.holds_of fun ns _ _ => K22.law_ok ns
