import PyProof.Rows.All
import Wide.All
import OpenK.AllK
import Wide.FinOn
import HandS.ForMost
import HandS.ForExc
import HandS.CallSlots
import HandS.TupAny
import HandS.Lambda
import HandS.ExcCtx
import HandS.ExcOwn
import HandS.WordsExc
import HandS.Defaults
import HandS.IsInst
import HandS.TupMul
import HandS.Style
import HandS.Deep
import HandS.Zip
import HandS.Walk
import HandS.Set
import PyProof.Rows.SortShellAny
import PyProof.StrWalks
import HandS.Strs
import KE.GoesMore
import HandS.Text
import HandS.HotCalls
import HandS.ExcIs
import HandS.ExcField
import HandS.ExcInitHot
import PyProof.ListStr
import HandS.Conv
import HandS.EndTab
import HandS.HeadWalk
import HandS.CallLocal
import HandS.Dict
import KE.KDictWalk
import KE.SortCalls
import KE.DataFind
import KE.DataMinMax
import PySem.Challenge.RW_barrelsuntold_k04_whole_clashes
import HandS.HeadHook4
import HandS.Head2
set_option Elab.async false
set_option linter.all false
set_option maxRecDepth 100000
set_option maxHeartbeats 4000000
/-! A data layer over the hand layer: nested data, a store of hot objects, readings over both. -/
namespace DL
open PySem PySem.Spec PyProof.Rows L2
abbrev Fg := PySem.W.Frag
/-- nested data; a thing that may change is a ref -/
inductive D where
  | non
  | bl (b : Bool)
  | int (i : Int)
  | str (x : Str)
  | tup (xs : List D)
  | lst (xs : List D)
  | ref (a : Addr)
  | ty (n : String)
/-- what stands at a hot address -/
inductive MO where
  | lst (xs : List D)
  | dK (kvs : List (Key × D))
  | dT (kvs : List (List Key × D))
  | ins (C : Addr) (fs : List (Str × D))
  | hid
  | tabs (T : List (Addr × Str))
  | tp (ks : List Key)
abbrev Mem := Addr → Option MO
def mput (M : Mem) (a : Addr) (o : Option MO) : Mem := fun b => if b = a then o else M b
theorem mput_same {M : Mem} {a : Addr} {o : Option MO} : mput M a o a = o := by unfold mput; rw [if_pos rfl]
theorem mput_ne {M : Mem} {a b : Addr} {o : Option MO} (h : b ≠ a) : mput M a o b = M b := by unfold mput; rw [if_neg h]
theorem mput_mput {M : Mem} {a : Addr} {o u : Option MO} : mput (mput M a o) a u = mput M a u := by
  funext b; unfold mput; split <;> rfl
theorem mput_self {M : Mem} {a : Addr} {o : Option MO} (h : M a = o) : mput M a o = M := by
  funext b; unfold mput; split
  · rename_i e; rw [e, h]
  · rfl
/-- two stores beside each other -/
def mj (M F : Mem) : Mem := fun a => match M a with | some o => some o | none => F a
structure Dj (M F : Mem) : Prop where
  at_ : ∀ a, M a = none ∨ F a = none
  nt : ∀ a T, F a ≠ some (.tabs T)
theorem mj_l {M F : Mem} {a : Addr} {o : MO} (h : M a = some o) : mj M F a = some o := by unfold mj; rw [h]
theorem mj_r {M F : Mem} {a : Addr} (h : M a = none) : mj M F a = F a := by unfold mj; rw [h]
theorem mj_none {M F : Mem} {a : Addr} (h : mj M F a = none) : M a = none ∧ F a = none := by
  cases q : M a with
  | none => exact ⟨rfl, by rw [mj_r q] at h; exact h⟩
  | some o => rw [mj_l q] at h; cases h
theorem mj_put {M F : Mem} {a : Addr} {o : MO} : mj (mput M a (some o)) F = mput (mj M F) a (some o) := by
  funext b
  by_cases e : b = a
  · subst e; rw [mput_same, mj_l mput_same]
  · rw [mput_ne e]; unfold mj; rw [mput_ne e]
theorem dj_put {M F : Mem} {a : Addr} {o : Option MO} (d : Dj M F) (h : F a = none) : Dj (mput M a o) F := ⟨fun b => by
  by_cases e : b = a
  · subst e; exact .inr h
  · rw [mput_ne e]; exact d.at_ b, d.nt⟩
theorem dj_here {M F : Mem} {a : Addr} {o : MO} (d : Dj M F) (h : M a = some o) : F a = none := by
  rcases d.at_ a with z | z
  · rw [h] at z; cases z
  · exact z
mutual
/-- the value v bears the data d -/
inductive Rp (K : Fg) (M : Mem) (H : Hp) : V → D → Prop
  | non : Rp K M H .non .non
  | bl (b : Bool) : Rp K M H (.bl b) (.bl b)
  | int (i : Int) : Rp K M H (.int i) (.int i)
  | str (x : Str) : Rp K M H (.str x) (.str x)
  | ty (n : String) : Rp K M H (.ty n) (.ty n)
  | ref (a : Addr) : Rp K M H (.ref a) (.ref a)
  | tup {a : Addr} {vs : List V} {ds : List D} : SqT K H a vs → RpL K M H vs ds → Rp K M H (.ref a) (.tup ds)
  | lst {a : Addr} {vs : List V} {ds : List D} : H a = some (.lst vs) → M a = none → RpL K M H vs ds → Rp K M H (.ref a) (.lst ds)
inductive RpL (K : Fg) (M : Mem) (H : Hp) : List V → List D → Prop
  | nil : RpL K M H [] []
  | cons {v : V} {vs : List V} {d : D} {ds : List D} : Rp K M H v d → RpL K M H vs ds → RpL K M H (v :: vs) (d :: ds)
end
/-- keyed data -/
abbrev KvR (K : Fg) (M : Mem) (H : Hp) {κ : Type} : List (κ × V) → List (κ × D) → Prop := Paired fun p q => p.1 = q.1 ∧ Rp K M H p.2 q.2
def MoOk (K : Fg) (M : Mem) (H : Hp) (a : Addr) : MO → Prop
  | .lst ds => ∃ vs, H a = some (.lst vs) ∧ RpL K M H vs ds
  | .dK kvs => ∃ vs, H a = some (.dK vs) ∧ KvR K M H vs kvs
  | .dT kvs => ∃ vs, H a = some (.dT vs) ∧ KvR K M H vs kvs
  | .ins C fs => ∃ dx vs, H a = some (.ins C dx vs) ∧ KvR K M H vs fs
  | .hid => ∃ vs, H a = some (.lst vs)
  | .tabs T => (∃ q, (a, q) ∈ T) ∧ LamX.Tabs T H
  | .tp ks => H a = some (.tup (ks.map kV))
/-- what may change behind one's back -/
def Hot (o : HO) : Prop := Mut (some o) ∨ ∃ ps, o = .tbl ps
def MemOk (K : Fg) (M : Mem) (H : Hp) : Prop := ∀ a o, M a = some o → MoOk K M H a o
abbrev NT (o : HO) : Prop := ∀ ps, o ≠ .tbl ps
/-- what was there and not hot is as it was -/
structure Ev (M : Mem) (H : Hp) (M' : Mem) (H' : Hp) : Prop where
  keep : ∀ a o, H a = some o → ((M a = none ∧ ∀ ps, o ≠ .tbl ps) ∨ ¬ Hot o) → H' a = some o
  mono : ∀ a o, H a = some o → NT o → M a = none → M' a = none
  dom : ∀ a o, H a = some o → NT o → ∃ o', H' a = some o' ∧ NT o'
theorem Ev.refl {M : Mem} {H : Hp} : Ev M H M H := ⟨fun _ _ h _ => h, fun _ _ _ _ h => h, fun _ o h n => ⟨o, h, n⟩⟩
theorem Ev.trans {M M1 M2 : Mem} {H H1 H2 : Hp} (a : Ev M H M1 H1) (b : Ev M1 H1 M2 H2) : Ev M H M2 H2 where
  keep := fun x o h q => b.keep x o (a.keep x o h q) (q.elim (fun z => .inl ⟨a.mono x o h z.2 z.1, z.2⟩) .inr)
  mono := fun x o h n q => by
    obtain ⟨o', h', n'⟩ := a.dom x o h n
    exact b.mono x o' h' n' (a.mono x o h n q)
  dom := fun x o h n => by
    obtain ⟨o', h', n'⟩ := a.dom x o h n
    exact b.dom x o' h' n'
/-- what data stand on is kept -/
structure Kp (A : Mem) (H : Hp) (A' : Mem) (H' : Hp) : Prop where
  tup : ∀ a vs, Rd H a (.tup vs) → Rd H' a (.tup vs)
  lst : ∀ a vs, H a = some (.lst vs) → A a = none → H' a = some (.lst vs) ∧ A' a = none
theorem Ev.kpF {M M' F : Mem} {H H' : Hp} (e : Ev M H M' H') : Kp (mj M F) H (mj M' F) H' where
  tup := fun a vs h => by
    rcases h with h | ⟨o, h⟩
    · exact .inl (e.keep _ _ h (.inr fun z => z.elim id fun ⟨_, e⟩ => nomatch e))
    · exact .inr ⟨o, e.keep _ _ h (.inr fun z => z.elim id fun ⟨_, e⟩ => nomatch e)⟩
  lst := fun a vs h n => by
    obtain ⟨n1, n2⟩ := mj_none n
    exact ⟨e.keep _ _ h (.inl ⟨n1, fun _ => nofun⟩), (mj_r (e.mono _ _ h (fun _ => nofun) n1)).trans n2⟩
theorem Ev.kp {M M' : Mem} {H H' : Hp} (e : Ev M H M' H') : Kp M H M' H' where
  tup := fun a vs h => by
    rcases h with h | ⟨o, h⟩
    · exact .inl (e.keep _ _ h (.inr fun z => z.elim id fun ⟨_, e⟩ => nomatch e))
    · exact .inr ⟨o, e.keep _ _ h (.inr fun z => z.elim id fun ⟨_, e⟩ => nomatch e)⟩
  lst := fun a vs h n => by
    exact ⟨e.keep _ _ h (.inl ⟨n, fun _ => nofun⟩), e.mono _ _ h (fun _ => nofun) n⟩
theorem Kp.sqT {K : Fg} {M M' : Mem} {H H' : Hp} (e : Kp M H M' H') {a : Addr} {vs : List V} (h : SqT K H a vs) : SqT K H' a vs := by
  rcases h with h | h
  · exact .inl (e.tup _ _ h)
  · exact .inr h
mutual
theorem Rp.kp {K : Fg} {M M' : Mem} {H H' : Hp} (e : Kp M H M' H') : ∀ (d : D) {v : V}, Rp K M H v d → Rp K M' H' v d
  | .non, _, h => by cases h; exact .non
  | .bl b, _, h => by cases h; exact .bl b
  | .int i, _, h => by cases h; exact .int i
  | .str x, _, h => by cases h; exact .str x
  | .ty n, _, h => by cases h; exact .ty n
  | .ref a, _, h => by cases h; exact .ref a
  | .tup ds, _, h => by
    cases h with
    | tup hs hl => exact .tup (e.sqT hs) (RpL.kp e ds hl)
  | .lst ds, _, h => by
    cases h with
    | lst hs hn hl => exact .lst (e.lst _ _ hs hn).1 (e.lst _ _ hs hn).2 (RpL.kp e ds hl)
theorem RpL.kp {K : Fg} {M M' : Mem} {H H' : Hp} (e : Kp M H M' H') : ∀ (ds : List D) {vs : List V}, RpL K M H vs ds → RpL K M' H' vs ds
  | [], _, h => by cases h; exact .nil
  | d :: ds, _, h => by
    cases h with
    | cons h1 h2 => exact .cons (Rp.kp e d h1) (RpL.kp e ds h2)
end
theorem Rp.ev {K : Fg} {M M' F : Mem} {H H' : Hp} (e : Ev M H M' H') (d : D) {v : V} (r : Rp K (mj M F) H v d) : Rp K (mj M' F) H' v d := Rp.kp e.kpF d r
theorem RpL.ev {K : Fg} {M M' F : Mem} {H H' : Hp} (e : Ev M H M' H') (d : List D) {v : List V} (r : RpL K (mj M F) H v d) : RpL K (mj M' F) H' v d := RpL.kp e.kpF d r
theorem RpL.length {K : Fg} {M : Mem} {H : Hp} : ∀ {vs : List V} {ds : List D}, RpL K M H vs ds → vs.length = ds.length
  | [], [], _ => rfl
  | _ :: _, _ :: _, .cons _ h2 => by rw [List.length_cons, List.length_cons, RpL.length h2]
theorem RpL.get {K : Fg} {M : Mem} {H : Hp} : ∀ {vs : List V} {ds : List D} {i : Nat} {d : D}, RpL K M H vs ds → ds[i]? = some d → ∃ v, vs[i]? = some v ∧ Rp K M H v d
  | [], [], i, d, .nil, e => by simp at e
  | v :: _, _ :: _, 0, d, .cons h1 _, e => by
    simp only [List.getElem?_cons_zero, Option.some.injEq] at e
    subst e
    exact ⟨v, rfl, h1⟩
  | _ :: _, _ :: _, i + 1, d, .cons _ h2, e => by
    simp only [List.getElem?_cons_succ] at e ⊢
    exact RpL.get h2 e
theorem RpL.getV {K : Fg} {M : Mem} {H : Hp} : ∀ {vs : List V} {ds : List D} {i : Nat} {v : V}, RpL K M H vs ds → vs[i]? = some v → ∃ d, ds[i]? = some d ∧ Rp K M H v d
  | [], [], i, d, .nil, e => by simp at e
  | _ :: _, d :: _, 0, v, .cons h1 _, e => by
    simp only [List.getElem?_cons_zero, Option.some.injEq] at e
    subst e
    exact ⟨d, rfl, h1⟩
  | _ :: _, _ :: _, i + 1, v, .cons _ h2, e => by
    simp only [List.getElem?_cons_succ] at e ⊢
    exact RpL.getV h2 e
theorem RpL.append {K : Fg} {M : Mem} {H : Hp} : ∀ {vs ws : List V} {ds es : List D}, RpL K M H vs ds → RpL K M H ws es → RpL K M H (vs ++ ws) (ds ++ es)
  | [], _, [], _, .nil, h => h
  | _ :: _, _, _ :: _, _, .cons h1 h2, h => .cons h1 (RpL.append h2 h)
theorem RpL.take {K : Fg} {M : Mem} {H : Hp} : ∀ {vs : List V} {ds : List D} (n : Nat), RpL K M H vs ds → RpL K M H (vs.take n) (ds.take n)
  | _, _, 0, _ => .nil
  | _, _, _ + 1, .nil => .nil
  | _, _, n + 1, .cons h1 h2 => .cons h1 (RpL.take n h2)
theorem RpL.drop {K : Fg} {M : Mem} {H : Hp} : ∀ {vs : List V} {ds : List D} (n : Nat), RpL K M H vs ds → RpL K M H (vs.drop n) (ds.drop n)
  | _, _, 0, h => h
  | _, _, _ + 1, .nil => .nil
  | _, _, n + 1, .cons _ h2 => RpL.drop n h2
theorem RpL.set {K : Fg} {M : Mem} {H : Hp} {v : V} {d : D} (r : Rp K M H v d) : ∀ {vs : List V} {ds : List D} (n : Nat), RpL K M H vs ds → RpL K M H (vs.set n v) (ds.set n d)
  | _, _, _, .nil => .nil
  | _, _, 0, .cons _ h2 => .cons r h2
  | _, _, n + 1, .cons h1 h2 => .cons h1 (RpL.set r n h2)
theorem RpL.reverse {K : Fg} {M : Mem} {H : Hp} : ∀ {vs : List V} {ds : List D}, RpL K M H vs ds → RpL K M H vs.reverse ds.reverse
  | _, _, .nil => .nil
  | _, _, .cons h1 h2 => by
    rw [List.reverse_cons, List.reverse_cons]
    exact RpL.append (RpL.reverse h2) (.cons h1 .nil)
theorem KvR.kp {K : Fg} {M M' : Mem} {H H' : Hp} {κ : Type} (e : Kp M H M' H') {l : List (κ × V)} {m : List (κ × D)} (r : KvR K M H l m) : KvR K M' H' l m :=
  Paired.mapP r fun p q z => ⟨z.1, Rp.kp e q.2 z.2⟩
/-- an entry whose own object stands as it stood -/
theorem MoOk.kp {K : Fg} {M M' : Mem} {H H' : Hp} {a : Addr} {o : MO} (e : Kp M H M' H') (t : ∀ b x, H b = some x → (∃ ps, x = .tbl ps) ∨ (∃ φ, x = .ext φ) → H' b = some x) (k : H' a = H a) (h : MoOk K M H a o) : MoOk K M' H' a o := by
  cases o with
  | lst ds => obtain ⟨vs, e1, r⟩ := h; exact ⟨vs, k.trans e1, RpL.kp e ds r⟩
  | dK kvs => obtain ⟨vs, e1, r⟩ := h; exact ⟨vs, k.trans e1, KvR.kp e r⟩
  | dT kvs => obtain ⟨vs, e1, r⟩ := h; exact ⟨vs, k.trans e1, KvR.kp e r⟩
  | ins C fs => obtain ⟨dx, vs, e1, r⟩ := h; exact ⟨dx, vs, k.trans e1, KvR.kp e r⟩
  | hid => obtain ⟨u, e1⟩ := h; exact ⟨u, k.trans e1⟩
  | tp ks => exact k.trans h
  | tabs T =>
    refine ⟨h.1, fun p hp => ?_⟩
    obtain ⟨ps, h1, h2, h3⟩ := h.2 p hp
    refine ⟨ps, t _ _ h1 (.inl ⟨_, rfl⟩), h2, fun pos cv hc => ?_⟩
    obtain ⟨c, e1, e2⟩ := h3 pos cv hc
    exact ⟨c, e1, t _ _ e2 (.inr ⟨_, rfl⟩)⟩
theorem MemOk.dom {K : Fg} {M : Mem} {H : Hp} (m : MemOk K M H) {a : Addr} {o : MO} (h : M a = some o) : ∃ u, H a = some u ∧ (Hot u ∨ ∃ ks, o = .tp ks) ∧ ∀ φ, u ≠ .ext φ := by
  have z := m a o h
  cases o with
  | lst ds => obtain ⟨vs, e1, r⟩ := z; exact ⟨_, e1, .inl (.inl trivial), fun _ => nofun⟩
  | dK kvs => obtain ⟨vs, e1, r⟩ := z; exact ⟨_, e1, .inl (.inl trivial), fun _ => nofun⟩
  | dT kvs => obtain ⟨vs, e1, r⟩ := z; exact ⟨_, e1, .inl (.inl trivial), fun _ => nofun⟩
  | ins C fs => obtain ⟨dx, vs, e1, r⟩ := z; exact ⟨_, e1, .inl (.inl trivial), fun _ => nofun⟩
  | hid => obtain ⟨vs, e1⟩ := z; exact ⟨_, e1, .inl (.inl trivial), fun _ => nofun⟩
  | tp ks => exact ⟨_, z, .inr ⟨_, rfl⟩, fun _ => nofun⟩
  | tabs T =>
    obtain ⟨⟨q, hq⟩, t⟩ := z
    obtain ⟨ps, e1, _⟩ := t _ hq
    exact ⟨_, e1, .inl (.inr ⟨_, rfl⟩), fun _ => nofun⟩
theorem MemOk.domH {K : Fg} {M : Mem} {H : Hp} (m : MemOk K M H) {a : Addr} {o : MO} (h : M a = some o) (nk : ∀ ks, o ≠ .tp ks := by exact fun _ => nofun) : ∃ u, H a = some u ∧ Hot u ∧ ∀ φ, u ≠ .ext φ := by
  obtain ⟨u, e, h1, h2⟩ := m.dom h
  exact ⟨u, e, h1.elim id fun ⟨ks, z⟩ => absurd z (nk ks), h2⟩
theorem MemOk.fresh {K : Fg} {M : Mem} {H : Hp} (m : MemOk K M H) {p : Addr} (h : H p = none) : M p = none := by
  cases q : M p with
  | none => rfl
  | some o =>
    obtain ⟨u, e, _⟩ := m.dom q
    rw [h] at e; cases e
/-- a new object that is not hot -/
theorem Ev.new {M : Mem} {H : Hp} {p : Addr} {o : HO} (h : H p = none) : Ev M H M (upd H p o) where
  keep := fun a u e _ => by rw [upd_ne (ne_of_none e h)]; exact e
  mono := fun _ _ _ _ n => n
  dom := fun a u e n => ⟨u, by rw [upd_ne (ne_of_none e h)]; exact e, n⟩
theorem MemOk.new {K : Fg} {M : Mem} {H : Hp} {p : Addr} {o : HO} (m : MemOk K M H) (h : H p = none) : MemOk K M (upd H p o) := fun a u e => by
  obtain ⟨x, ex, _⟩ := m.dom e
  exact MoOk.kp (Ev.new h).kp (fun b x hb _ => by rw [upd_ne (ne_of_none hb h)]; exact hb) (upd_ne (ne_of_none ex h)) (m a u e)
/-- a new hot object -/
theorem Ev.newHot {M : Mem} {H : Hp} {p : Addr} {o : HO} {u : MO} (h : H p = none) : Ev M H (mput M p (some u)) (upd H p o) where
  keep := fun a x e _ => by rw [upd_ne (ne_of_none e h)]; exact e
  mono := fun a x e _ n => by rw [mput_ne (ne_of_none e h)]; exact n
  dom := fun a x e n => ⟨x, by rw [upd_ne (ne_of_none e h)]; exact e, n⟩
theorem MemOk.newHot {K : Fg} {M : Mem} {H : Hp} {p : Addr} {o : HO} {u : MO} (m : MemOk K M H) (h : H p = none) (z : MoOk K (mput M p (some u)) (upd H p o) p u) : MemOk K (mput M p (some u)) (upd H p o) := fun a x e => by
  by_cases ea : a = p
  · subst ea
    rw [mput_same] at e; cases e
    exact z
  · rw [mput_ne ea] at e
    exact MoOk.kp (Ev.newHot h).kp (fun b x hb _ => by rw [upd_ne (ne_of_none hb h)]; exact hb) (upd_ne ea) (m a x e)
/-- a hot object written -/
theorem Ev.write {M : Mem} {H : Hp} {a : Addr} {o : HO} {u u' : MO} (h : M a = some u) (ho : ∃ x, H a = some x ∧ Hot x ∧ ∀ φ, x ≠ .ext φ) (no : NT o := by exact fun _ => nofun) : Ev M H (mput M a (some u')) (upd H a o) where
  keep := fun b x e q => by
    have hb : b ≠ a := fun z => by
      subst z
      obtain ⟨y, ey, my⟩ := ho
      rw [e] at ey; cases ey
      rcases q with q | q
      · rw [h] at q; cases q.1
      · exact q my.1
    rw [upd_ne hb]; exact e
  mono := fun b x e _ n => by
    have hb : b ≠ a := fun z => by subst z; rw [h] at n; cases n
    rw [mput_ne hb]; exact n
  dom := fun b x e n => by
    by_cases hb : b = a
    · subst hb; exact ⟨o, upd_same, no⟩
    · exact ⟨x, by rw [upd_ne hb]; exact e, n⟩
theorem MemOk.write {K : Fg} {M : Mem} {H : Hp} {a : Addr} {o : HO} {u u' : MO} (m : MemOk K M H) (h : M a = some u) (nt : ∀ ps, H a ≠ some (.tbl ps)) (z : MoOk K (mput M a (some u')) (upd H a o) a u') (no : NT o := by exact fun _ => nofun) (nk : ∀ ks, u ≠ .tp ks := by exact fun _ => nofun) : MemOk K (mput M a (some u')) (upd H a o) := fun b x e => by
  by_cases ea : b = a
  · subst ea
    rw [mput_same] at e; cases e
    exact z
  · rw [mput_ne ea] at e
    refine MoOk.kp (Ev.write h (m.domH h nk) no).kp (fun c y hc q => ?_) (upd_ne ea) (m b x e)
    have hca : c ≠ a := fun z => by
      subst z
      rcases q with ⟨ps, q⟩ | ⟨φ, q⟩
      · exact nt ps (q ▸ hc)
      · obtain ⟨w, ew, _, nw⟩ := m.dom h
        rw [hc] at ew
        cases ew
        exact nw φ q
    rw [upd_ne hca]; exact hc
end DL

set_option Elab.async false
set_option linter.all false
set_option maxRecDepth 100000
set_option maxHeartbeats 4000000
namespace DL
open PySem PySem.Spec PyProof.Rows L2
/-! ### fewer hot things -/
mutual
theorem Rp.less {K : Fg} {M M' : Mem} {H : Hp} (e : ∀ a, M a = none → M' a = none) : ∀ (d : D) {v : V}, Rp K M H v d → Rp K M' H v d
  | .non, _, h => by cases h; exact .non
  | .bl b, _, h => by cases h; exact .bl b
  | .int i, _, h => by cases h; exact .int i
  | .str x, _, h => by cases h; exact .str x
  | .ty n, _, h => by cases h; exact .ty n
  | .ref a, _, h => by cases h; exact .ref a
  | .tup ds, _, h => by
    cases h with
    | tup hs hl => exact .tup hs (RpL.less e ds hl)
  | .lst ds, _, h => by
    cases h with
    | lst hs hn hl => exact .lst hs (e _ hn) (RpL.less e ds hl)
theorem RpL.less {K : Fg} {M M' : Mem} {H : Hp} (e : ∀ a, M a = none → M' a = none) : ∀ (ds : List D) {vs : List V}, RpL K M H vs ds → RpL K M' H vs ds
  | [], _, h => by cases h; exact .nil
  | d :: ds, _, h => by
    cases h with
    | cons h1 h2 => exact .cons (Rp.less e d h1) (RpL.less e ds h2)
end
theorem KvR.less {K : Fg} {M M' : Mem} {H : Hp} {κ : Type} (e : ∀ a, M a = none → M' a = none) {l : List (κ × V)} {m : List (κ × D)} (r : KvR K M H l m) : KvR K M' H l m :=
  Paired.mapP r fun p q z => ⟨z.1, Rp.less e q.2 z.2⟩
theorem MoOk.less {K : Fg} {M M' : Mem} {H : Hp} {a : Addr} (e : ∀ a, M a = none → M' a = none) : ∀ {o : MO}, MoOk K M H a o → MoOk K M' H a o
  | .lst ds, ⟨vs, e1, r⟩ => ⟨vs, e1, RpL.less e ds r⟩
  | .dK kvs, ⟨vs, e1, r⟩ => ⟨vs, e1, KvR.less e r⟩
  | .dT kvs, ⟨vs, e1, r⟩ => ⟨vs, e1, KvR.less e r⟩
  | .ins C fs, ⟨dx, vs, e1, r⟩ => ⟨dx, vs, e1, KvR.less e r⟩
  | .hid, h => h
  | .tp _, h => h
  | .tabs _, h => h
theorem MemOk.less {K : Fg} {M M' : Mem} {H : Hp} (m : MemOk K M H) (e : ∀ a o, M' a = some o → M a = some o) : MemOk K M' H := fun a o h =>
  MoOk.less (fun b n => by
    cases q : M' b with
    | none => rfl
    | some u => rw [e b u q] at n; cases n) (m a o (e a o h))
theorem Ev.less {M M' M2 : Mem} {H H' : Hp} (v : Ev M H M' H') (e : ∀ a, M' a = none → M2 a = none) : Ev M H M2 H' :=
  ⟨v.keep, fun a o h t n => e a (v.mono a o h t n), v.dom⟩
/-! ### contexts and lifts -/
abbrev DSt := List (Option D)
abbrev DTE := DSt → Mem → (D → Mem → Prop) → Prop
abbrev DTT := DSt → Mem → (Bool → Mem → Prop) → Prop
abbrev DTA := DSt → Mem → (List D → Mem → Prop) → Prop
structure DEnds where
  nx : DSt → Mem → Prop
  rt : D → Mem → Prop
  bk : DSt → Mem → Prop := fun _ _ => False
  ct : DSt → Mem → Prop := fun _ _ => False
abbrev DTS := DEnds → DSt → Mem → Prop
/-- what is wanted of an error: its class, its own fields -/
abbrev DX := Value → Option (List (Str × D)) → Mem → Prop
/-- a def's entry -/
structure DC where
  M0 : Mem
  H0 : Hp
  F0 : Mem
  PX : DX
def DX0 : DX := fun _ _ _ => False
abbrev DC.mute (c : DC) : DC := { c with PX := DX0 }
def SlR (K : Fg) (A : Mem) (H : Hp) (ds : DSt) (σ : L2.St) : Prop := ds.length = σ.length ∧ ∀ (i : Nat) (d : D), ds[i]? = some (some d) → ∃ v, σ[i]? = some (some v) ∧ Rp K A H v d
structure At (K : Fg) (c : DC) (ds : DSt) (M F : Mem) (σ : L2.St) (H : Hp) : Prop where
  sl : SlR K (mj M F) H ds σ
  mo : MemOk K (mj M F) H
  ev : Ev c.M0 c.H0 M H
  dj : Dj M F
  ge : ∀ a o, c.F0 a = some o → F a = some o
theorem SlR.kp {K : Fg} {A A' : Mem} {H H' : Hp} {ds : DSt} {σ : L2.St} (s : SlR K A H ds σ) (e : Kp A H A' H') : SlR K A' H' ds σ :=
  ⟨s.1, fun i d h => by
    obtain ⟨v, e1, r⟩ := s.2 i d h
    exact ⟨v, e1, Rp.kp e d r⟩⟩
theorem SlR.set {K : Fg} {A : Mem} {H : Hp} {ds : DSt} {σ : L2.St} {v : V} {d : D} (s : SlR K A H ds σ) (i : Nat) (r : Rp K A H v d) : SlR K A H (ds.set i (some d)) (σ.set i (some v)) := by
  refine ⟨by rw [List.length_set, List.length_set, s.1], fun j e h => ?_⟩
  rw [List.getElem?_set] at h
  split at h
  · rename_i hij
    subst hij
    split at h
    · rename_i hl
      cases h
      refine ⟨v, ?_, r⟩
      rw [List.getElem?_set_self (by rw [← s.1]; exact hl)]
    · cases h
  · rename_i hij
    rw [List.getElem?_set_ne hij]
    exact s.2 j e h
theorem At.go {K : Fg} {c : DC} {ds : DSt} {M M' F : Mem} {σ : L2.St} {H H' : Hp} (a : At K c ds M F σ H) (d : Dj M' F) (e : Ev M H M' H') (m : MemOk K (mj M' F) H') : At K c ds M' F σ H' :=
  ⟨a.sl.kp e.kpF, m, a.ev.trans e, d, a.ge⟩
/-- what is wanted behind: data and store, seen from below -/
def Fin (K : Fg) (M F : Mem) (H : Hp) (P : D → Mem → Prop) (Q : VK) : Prop :=
  ∀ (d : D) (M' : Mem) (v : V) (H' : Hp), P d M' → Dj M' F → Ev M H M' H' → MemOk K (mj M' F) H' → Rp K (mj M' F) H' v d → Q v H'
def FinT (K : Fg) (M F : Mem) (H : Hp) (P : Bool → Mem → Prop) (Q : Bool → Hp → Prop) : Prop :=
  ∀ (b : Bool) (M' : Mem) (H' : Hp), P b M' → Dj M' F → Ev M H M' H' → MemOk K (mj M' F) H' → Q b H'
def FinL (K : Fg) (M F : Mem) (H : Hp) (P : List D → Mem → Prop) (Q : List V → Hp → Prop) : Prop :=
  ∀ (ds : List D) (M' : Mem) (vs : List V) (H' : Hp), P ds M' → Dj M' F → Ev M H M' H' → MemOk K (mj M' F) H' → RpL K (mj M' F) H' vs ds → Q vs H'
def XdR (K : Fg) (A : Mem) (H : Hp) : Option Addr → Option (List (Str × D)) → Prop
  | none, none => True
  | some a, some l => ∃ vs, H a = some (.xd vs) ∧ KvR K A H vs l
  | _, _ => False
theorem XdR.less {K : Fg} {M M' : Mem} {H : Hp} (e : ∀ a, M a = none → M' a = none) : ∀ {d : Option Addr} {fs : Option (List (Str × D))}, XdR K M H d fs → XdR K M' H d fs
  | none, none, _ => trivial
  | some _, some _, ⟨vs, e1, r⟩ => ⟨vs, e1, KvR.less e r⟩
def FinX (K : Fg) (M F : Mem) (H : Hp) (PX : DX) (E : XK) : Prop :=
  ∀ (cls : Value) (fs : Option (List (Str × D))) (M' : Mem) (d : Option Addr) (H' : Hp), PX cls fs M' → Dj M' F → Ev M H M' H' → MemOk K (mj M' F) H' → XdR K (mj M' F) H' d fs → E cls d H'
theorem Fin.ev {K : Fg} {M F M1 : Mem} {H H1 : Hp} {P : D → Mem → Prop} {Q : VK} (f : Fin K M F H P Q) (e : Ev M H M1 H1) : Fin K M1 F H1 P Q :=
  fun d M' v H' p dj ev mo rp => f d M' v H' p dj (e.trans ev) mo rp
theorem FinT.ev {K : Fg} {M F M1 : Mem} {H H1 : Hp} {P : Bool → Mem → Prop} {Q : Bool → Hp → Prop} (f : FinT K M F H P Q) (e : Ev M H M1 H1) : FinT K M1 F H1 P Q :=
  fun d M' H' p dj ev mo => f d M' H' p dj (e.trans ev) mo
theorem FinL.ev {K : Fg} {M F M1 : Mem} {H H1 : Hp} {P : List D → Mem → Prop} {Q : List V → Hp → Prop} (f : FinL K M F H P Q) (e : Ev M H M1 H1) : FinL K M1 F H1 P Q :=
  fun d M' v H' p dj ev mo rp => f d M' v H' p dj (e.trans ev) mo rp
def Lf (K : Fg) (c : DC) (t : DTE) : TE := fun σ H Q => ∃ ds M F P, At K c ds M F σ H ∧ t ds M P ∧ Fin K M F H P Q
def Lt (K : Fg) (c : DC) (t : DTT) : TT := fun σ H Q => ∃ ds M F P, At K c ds M F σ H ∧ t ds M P ∧ FinT K M F H P Q
def La (K : Fg) (c : DC) (t : DTA) : TA := fun σ H Q => ∃ ds M F P, At K c ds M F σ H ∧ t ds M P ∧ FinL K M F H P Q
structure EndsOk (K : Fg) (M F : Mem) (H : Hp) (DD : DEnds) (W : Ends) : Prop where
  nx : ∀ (ds : DSt) (M' : Mem) (σ : L2.St) (H' : Hp), DD.nx ds M' → Dj M' F → Ev M H M' H' → MemOk K (mj M' F) H' → SlR K (mj M' F) H' ds σ → W.nx σ H'
  rt : Fin K M F H DD.rt W.rt
  bk : ∀ (ds : DSt) (M' : Mem) (σ : L2.St) (H' : Hp), DD.bk ds M' → Dj M' F → Ev M H M' H' → MemOk K (mj M' F) H' → SlR K (mj M' F) H' ds σ → W.bk σ H'
  ct : ∀ (ds : DSt) (M' : Mem) (σ : L2.St) (H' : Hp), DD.ct ds M' → Dj M' F → Ev M H M' H' → MemOk K (mj M' F) H' → SlR K (mj M' F) H' ds σ → W.ct σ H'
theorem EndsOk.ev {K : Fg} {M F M1 : Mem} {H H1 : Hp} {DD : DEnds} {W : Ends} (f : EndsOk K M F H DD W) (e : Ev M H M1 H1) : EndsOk K M1 F H1 DD W :=
  ⟨fun ds M' σ H' p dj ev mo sl => f.nx ds M' σ H' p dj (e.trans ev) mo sl, f.rt.ev e, fun ds M' σ H' p dj ev mo sl => f.bk ds M' σ H' p dj (e.trans ev) mo sl, fun ds M' σ H' p dj ev mo sl => f.ct ds M' σ H' p dj (e.trans ev) mo sl⟩
def Ls (K : Fg) (c : DC) (t : DTS) : TS := fun W σ H => ∃ ds M F DD, At K c ds M F σ H ∧ t DD ds M ∧ EndsOk K M F H DD W
def DE (X : Cx) (c : DC) (e : Expr) (t : DTE) : Prop := PE X e (Lf X.K c t)
def DT (X : Cx) (c : DC) (e : Expr) (t : DTT) : Prop := PT X e (Lt X.K c t)
def DW (X : Cx) (c : DC) (e : Expr) (t : DTT) : Prop := PW X e (Lt X.K c t)
def DA (X : Cx) (c : DC) (es : List Expr) (t : DTA) : Prop := PA X es (La X.K c t)
def DS (X : Cx) (c : DC) (s : Stmt) (t : DTS) : Prop := PS X s (Ls X.K c t)
def DSs (X : Cx) (c : DC) (s : List Stmt) (t : DTS) : Prop := PSs X s (Ls X.K c t)
theorem _root_.L2.PE.imp {X : Cx} {e : Expr} {t u : TE} (h : PE X e t) (i : ∀ σ H Q, u σ H Q → t σ H Q) : PE X e u := ⟨fun pins s σ H Q I q => h.run pins s σ H Q I (i _ _ _ q)⟩
theorem _root_.L2.PT.imp {X : Cx} {e : Expr} {t u : TT} (h : PT X e t) (i : ∀ σ H Q, u σ H Q → t σ H Q) : PT X e u := ⟨fun pins s σ H Q I q => h.run pins s σ H Q I (i _ _ _ q)⟩
theorem _root_.L2.PW.imp {X : Cx} {e : Expr} {t u : TT} (h : PW X e t) (i : ∀ σ H Q, u σ H Q → t σ H Q) : PW X e u := ⟨fun wh pins s σ H Q I q => h.run wh pins s σ H Q I (i _ _ _ q)⟩
theorem _root_.L2.PA.imp {X : Cx} {e : List Expr} {t u : TA} (h : PA X e t) (i : ∀ σ H Q, u σ H Q → t σ H Q) : PA X e u := ⟨fun pos pins s σ H Q I q => h.run pos pins s σ H Q I (i _ _ _ q)⟩
theorem _root_.L2.PS.imp {X : Cx} {e : Stmt} {t u : TS} (h : PS X e t) (i : ∀ D σ H, u D σ H → t D σ H) : PS X e u := ⟨fun pins s σ H D I q => h.run pins s σ H D I (i _ _ _ q)⟩
theorem _root_.L2.PSs.imp {X : Cx} {e : List Stmt} {t u : TS} (h : PSs X e t) (i : ∀ D σ H, u D σ H → t D σ H) : PSs X e u := ⟨fun pins s σ H D I q => h.run pins s σ H D I (i _ _ _ q)⟩
/-! ### readings of expressions -/
def dVar (i : Nat) : DTE := fun ds M P => match ds[i]? with | some (some d) => P d M | _ => False
def dC (d : D) : DTE := fun _ M P => P d M
abbrev DO1 := D → Mem → (D → Mem → Prop) → Prop
abbrev DO2 := D → D → Mem → (D → Mem → Prop) → Prop
abbrev DOL := List D → Mem → (D → Mem → Prop) → Prop
def dUn (g : DO1) (ta : DTE) : DTE := fun ds M P => ta ds M fun x M1 => g x M1 P
def dBin (g : DO2) (ta tb : DTE) : DTE := fun ds M P => ta ds M fun x M1 => tb ds M1 fun y M2 => g x y M2 P
def dNil : DTA := fun _ M P => P [] M
def dCons (ta : DTE) (tr : DTA) : DTA := fun ds M P => ta ds M fun x M1 => tr ds M1 fun xs M2 => P (x :: xs) M2
def dApp (g : DOL) (t : DTA) : DTE := fun ds M P => t ds M fun xs M1 => g xs M1 P
/-- a rule by values -/
def Op1 (K : Fg) (r : V → Hp → VK → Prop) (g : DO1) : Prop := ∀ (M F : Mem) (x : D) (v : V) (H : Hp) (P : D → Mem → Prop) (Q : VK), g x M P → Dj M F → MemOk K (mj M F) H → Rp K (mj M F) H v x → Fin K M F H P Q → r v H Q
def Op2 (K : Fg) (r : R2) (g : DO2) : Prop := ∀ (M F : Mem) (x y : D) (v w : V) (H : Hp) (P : D → Mem → Prop) (Q : VK), g x y M P → Dj M F → MemOk K (mj M F) H → Rp K (mj M F) H v x → Rp K (mj M F) H w y → Fin K M F H P Q → r v w H Q
def OpL (K : Fg) (r : List V → Hp → VK → Prop) (g : DOL) : Prop := ∀ (M F : Mem) (xs : List D) (vs : List V) (H : Hp) (P : D → Mem → Prop) (Q : VK), g xs M P → Dj M F → MemOk K (mj M F) H → RpL K (mj M F) H vs xs → Fin K M F H P Q → r vs H Q
section
variable {X : Cx} {c : DC} {a b : Expr} {pos : Pos} {ta tb tc : DTE}
theorem d_var {e : Expr} (i : Nat) (h : PE X e (tVar i)) : DE X c e (dVar i) := h.imp fun σ H Q ⟨ds, M, F, P, at', ht, fin⟩ => by
  unfold dVar at ht
  split at ht
  · rename_i d e1
    obtain ⟨v, e2, r⟩ := at'.sl.2 i d e1
    exact ⟨v, e2, fin d M v H ht at'.dj .refl at'.mo r⟩
  · exact ht.elim
theorem d_const {e : Expr} {v : V} {d : D} (h : PE X e (tC v)) (r : ∀ A H, Rp X.K A H v d) : DE X c e (dC d) := h.imp fun σ H Q ⟨ds, M, F, P, at', ht, fin⟩ =>
  fin d M v H ht at'.dj .refl at'.mo (r _ _)
theorem d_int {i : Int} {j : Nat} : DE X c (.Constant (.int i) j pos) (dC (.int i)) := d_const pe_int fun _ _ => .int i
theorem d_bl {i : Bool} {j : Nat} : DE X c (.Constant (.bool i) j pos) (dC (.bl i)) := d_const pe_bl fun _ _ => .bl i
theorem d_non {j : Nat} : DE X c (.Constant .none j pos) (dC .non) := d_const pe_non fun _ _ => .non
theorem d_str {i : Str} {j : Nat} : DE X c (.Constant (.str i) j pos) (dC (.str i)) := d_const pe_str fun _ _ => .str i
theorem lf_un {K : Fg} {r : V → Hp → VK → Prop} {g : DO1} (h : Op1 K r g) {σ : L2.St} {H : Hp} {Q : VK} : Lf K c (dUn g ta) σ H Q → tUn r (Lf K c ta) σ H Q := fun ⟨ds, M, F, P, at', ht, fin⟩ =>
  ⟨ds, M, F, fun x M1 => g x M1 P, at', ht, fun x M1 v H1 p dj ev mo rp => h M1 F x v H1 P Q p dj mo rp (fin.ev ev)⟩
theorem lf_bin {K : Fg} {r : R2} {g : DO2} (h : Op2 K r g) {σ : L2.St} {H : Hp} {Q : VK} : Lf K c (dBin g ta tb) σ H Q → tOp r (Lf K c ta) (Lf K c tb) σ H Q := fun ⟨ds, M, F, P, at', ht, fin⟩ =>
  ⟨ds, M, F, fun x M1 => tb ds M1 fun y M2 => g x y M2 P, at', ht, fun x M1 v H1 p dj ev mo rp =>
    ⟨ds, M1, F, fun y M2 => g x y M2 P, at'.go dj ev mo, p, fun y M2 w H2 p2 dj2 ev2 mo2 rp2 =>
      h M2 F x y v w H2 P Q p2 dj2 mo2 (Rp.ev ev2 x rp) rp2 (fin.ev (ev.trans ev2))⟩⟩
theorem lf_app {K : Fg} {r : List V → Hp → VK → Prop} {g : DOL} (h : OpL K r g) {t : DTA} {σ : L2.St} {H : Hp} {Q : VK} : Lf K c (dApp g t) σ H Q → tCB r (La K c t) σ H Q := fun ⟨ds, M, F, P, at', ht, fin⟩ =>
  ⟨ds, M, F, fun x M1 => g x M1 P, at', ht, fun x M1 v H1 p dj ev mo rp => h M1 F x v H1 P Q p dj mo rp (fin.ev ev)⟩
theorem d_op {op : Operator} {r : R2} {g : DO2} (ho : OpR X (binaryOp op) r) (hg : Op2 X.K r g) (ha : DE X c a ta) (hb : DE X c b tb) : DE X c (.BinOp a op b pos) (dBin g ta tb) := (pe_op ho ha hb).imp fun _ _ _ => lf_bin hg
theorem d_un {op : UnaryOp} {r : V → Hp → VK → Prop} {g : DO1} (ho : UnR X (unaryOp op) r) (hg : Op1 X.K r g) (ha : DE X c a ta) : DE X c (.UnaryOp op a pos) (dUn g ta) := (pe_un ho ha).imp fun _ _ _ => lf_un hg
theorem d_cmp {op : CmpOp} {r : R2} {g : DO2} (ho : OpR X (compareOp op) r) (hg : Op2 X.K r g) (ha : DE X c a ta) (hb : DE X c b tb) (hm : behindInMarks op b = false) : DE X c (.Compare a [op] [b] pos) (dBin g ta tb) := (pe_cmpR ho ha hb hm).imp fun _ _ _ => lf_bin hg
theorem d_ix {r : R2} {g : DO2} (ho : IxR X r) (hg : Op2 X.K r g) (ha : DE X c a ta) (hb : DE X c b tb) (hs : PlainIx b) : DE X c (.Subscript a b pos) (dBin g ta tb) := (pe_ix ho ha hb hs).imp fun _ _ _ => lf_bin hg
/-! arguments -/
theorem d_anil : DA X c [] dNil := pa_nil.imp fun σ H Q ⟨ds, M, F, P, at', ht, fin⟩ => fin [] M [] H ht at'.dj .refl at'.mo .nil
theorem d_acons {es : List Expr} {t : DTA} (ha : DE X c a ta) (hr : DA X c es t) (hs : starEach (a :: es) X.env = (false, eval a X.env) :: starEach es X.env := by rfl) : DA X c (a :: es) (dCons ta t) :=
  (pa_cons ha hr hs).imp fun σ H Q ⟨ds, M, F, P, at', ht, fin⟩ =>
    ⟨ds, M, F, fun x M1 => t ds M1 fun xs M2 => P (x :: xs) M2, at', ht, fun x M1 v H1 p dj ev mo rp =>
      ⟨ds, M1, F, fun xs M2 => P (x :: xs) M2, at'.go dj ev mo, p, fun xs M2 vs H2 p2 dj2 ev2 mo2 rp2 => fin (x :: xs) M2 (v :: vs) H2 p2 dj2 (ev.trans ev2) mo2 (.cons (Rp.ev ev2 x rp) rp2)⟩⟩
/-! tests -/
def dB (t : DTE) : DTT := fun ds M P => t ds M fun d M1 => match d with | .bl k => P k M1 | _ => False
theorem lt_b {K : Fg} {σ : L2.St} {H : Hp} {Q : Bool → Hp → Prop} : Lt K c (dB ta) σ H Q → (Lf K c ta) σ H (fun x H' => ∃ k, x = .bl k ∧ Q k H') := fun ⟨ds, M, F, P, at', ht, fin⟩ =>
  ⟨ds, M, F, _, at', ht, fun x M1 v H1 p dj ev mo rp => by
    cases x with
    | bl k => cases rp; exact ⟨k, rfl, fin k M1 H1 p dj ev mo⟩
    | _ => exact p.elim⟩
theorem d_tval {e : Expr} (h : DE X c e ta) (he : ∀ whole, isTrue e X.env whole = (do let v ← whole; standAt e.pos; holding [v] (truthy v)) := by intro _; rfl) : DT X c e (dB ta) := (pt_val h he).imp fun _ _ _ => lt_b
theorem d_tcmp {op : CmpOp} {r : R2} {g : DO2} (ho : OpR X (compareOp op) r) (hg : Op2 X.K r g) (ha : DE X c a ta) (hb : DE X c b tb) (hm : behindInMarks op b = false) : DT X c (.Compare a [op] [b] pos) (dB (dBin g ta tb)) :=
  (pt_cmpR ho ha hb hm).imp fun σ H Q h => lf_bin hg (lt_b h : Lf X.K c (dBin g ta tb) σ H _)
def dAnd (t u : DTT) : DTT := fun ds M P => t ds M fun k M1 => (k = true → u ds M1 P) ∧ (k = false → P false M1)
def dOr (t u : DTT) : DTT := fun ds M P => t ds M fun k M1 => (k = true → P true M1) ∧ (k = false → u ds M1 P)
def dNot (t : DTT) : DTT := fun ds M P => t ds M fun k M1 => P (!k) M1
theorem d_and1 {t : DTT} (ha : DT X c a t) : DW X c (.BoolOp .And [a] pos) t := pw_and1 ha
theorem d_or1 {t : DTT} (ha : DT X c a t) : DW X c (.BoolOp .Or [a] pos) t := pw_or1 ha
theorem d_and {t u : DTT} {rest : List Expr} (ha : DT X c a t) (hb : DW X c (.BoolOp .And (b :: rest) pos) u) : DW X c (.BoolOp .And (a :: b :: rest) pos) (dAnd t u) := (pw_and ha hb).imp fun σ H Q ⟨ds, M, F, P, at', ht, fin⟩ =>
  ⟨ds, M, F, _, at', ht, fun k M1 H1 p dj ev mo => by
    cases k with
    | true => exact ⟨ds, M1, F, P, at'.go dj ev mo, p.1 rfl, fin.ev ev⟩
    | false => exact fin false M1 H1 (p.2 rfl) dj ev mo⟩
theorem d_or {t u : DTT} {rest : List Expr} (ha : DT X c a t) (hb : DW X c (.BoolOp .Or (b :: rest) pos) u) : DW X c (.BoolOp .Or (a :: b :: rest) pos) (dOr t u) := (pw_or ha hb).imp fun σ H Q ⟨ds, M, F, P, at', ht, fin⟩ =>
  ⟨ds, M, F, _, at', ht, fun k M1 H1 p dj ev mo => by
    cases k with
    | false => exact ⟨ds, M1, F, P, at'.go dj ev mo, p.2 rfl, fin.ev ev⟩
    | true => exact fin true M1 H1 (p.1 rfl) dj ev mo⟩
theorem d_wt {e : Expr} {t : DTT} (h : DW X c e t) : DT X c e t := h.pt
theorem d_not {t : DTT} (ha : DT X c a t) : DT X c (.UnaryOp .Not a pos) (dNot t) := (pt_not ha).imp fun σ H Q ⟨ds, M, F, P, at', ht, fin⟩ =>
  ⟨ds, M, F, _, at', ht, fun k M1 H1 p dj ev mo => fin (!k) M1 H1 p dj ev mo⟩
/-! and, or, not as values -/
def dAndV (ta tb : DTE) : DTE := fun ds M P => ta ds M fun x M1 => match x with | .bl k => (k = true → tb ds M1 P) ∧ (k = false → P (.bl false) M1) | _ => False
def dOrV (ta tb : DTE) : DTE := fun ds M P => ta ds M fun x M1 => match x with | .bl k => (k = true → P (.bl true) M1) ∧ (k = false → tb ds M1 P) | _ => False
def dNotV (ta : DTE) : DTE := fun ds M P => ta ds M fun x M1 => match x with | .bl k => P (.bl (!k)) M1 | _ => False
theorem d_one {op : BoolOp} (h : DE X c a ta) : DE X c (.BoolOp op [a] pos) ta := pe_one h
theorem d_andV {rest : List Expr} (ha : DE X c a ta) (hb : DE X c (.BoolOp .And (b :: rest) pos) tb) : DE X c (.BoolOp .And (a :: b :: rest) pos) (dAndV ta tb) := (pe_and ha hb).imp fun σ H Q ⟨ds, M, F, P, at', ht, fin⟩ =>
  ⟨ds, M, F, _, at', ht, fun x M1 v H1 p dj ev mo rp => by
    cases x with
    | bl k =>
      cases rp
      refine ⟨k, rfl, ?_⟩
      cases k with
      | true => exact ⟨ds, M1, F, P, at'.go dj ev mo, p.1 rfl, fin.ev ev⟩
      | false => exact fin (.bl false) M1 (.bl false) H1 (p.2 rfl) dj ev mo (.bl false)
    | _ => exact p.elim⟩
theorem d_orV {rest : List Expr} (ha : DE X c a ta) (hb : DE X c (.BoolOp .Or (b :: rest) pos) tb) : DE X c (.BoolOp .Or (a :: b :: rest) pos) (dOrV ta tb) := (pe_or ha hb).imp fun σ H Q ⟨ds, M, F, P, at', ht, fin⟩ =>
  ⟨ds, M, F, _, at', ht, fun x M1 v H1 p dj ev mo rp => by
    cases x with
    | bl k =>
      cases rp
      refine ⟨k, rfl, ?_⟩
      cases k with
      | false => exact ⟨ds, M1, F, P, at'.go dj ev mo, p.2 rfl, fin.ev ev⟩
      | true => exact fin (.bl true) M1 (.bl true) H1 (p.1 rfl) dj ev mo (.bl true)
    | _ => exact p.elim⟩
theorem d_notV (ha : DE X c a ta) : DE X c (.UnaryOp .Not a pos) (dNotV ta) := (pe_not ha).imp fun σ H Q ⟨ds, M, F, P, at', ht, fin⟩ =>
  ⟨ds, M, F, _, at', ht, fun x M1 v H1 p dj ev mo rp => by
    cases x with
    | bl k => cases rp; exact ⟨k, rfl, fin (.bl (!k)) M1 _ H1 p dj ev mo (.bl _)⟩
    | _ => exact p.elim⟩
def dIfE (t : DTT) (ta tb : DTE) : DTE := fun ds M P => t ds M fun k M1 => (k = true → ta ds M1 P) ∧ (k = false → tb ds M1 P)
theorem d_ifE {e : Expr} {t : DTT} (hc : DT X c e t) (ha : DE X c a ta) (hb : DE X c b tb) : DE X c (.IfExp e a b pos) (dIfE t ta tb) := (pe_ifExp hc ha hb).imp fun σ H Q ⟨ds, M, F, P, at', ht, fin⟩ =>
  ⟨ds, M, F, _, at', ht, fun k M1 H1 p dj ev mo => by
    cases k with
    | true => exact ⟨ds, M1, F, P, at'.go dj ev mo, p.1 rfl, fin.ev ev⟩
    | false => exact ⟨ds, M1, F, P, at'.go dj ev mo, p.2 rfl, fin.ev ev⟩⟩
/-- a < b < e -/
def dChain (g g' : DO2) (ta tb tc : DTE) : DTE := fun ds M P => ta ds M fun x M1 => tb ds M1 fun y M2 => g x y M2 fun z M3 => match z with
  | .bl k => (k = true → tc ds M3 fun u M4 => g' y u M4 P) ∧ (k = false → P (.bl false) M3)
  | _ => False
/-! displays -/
def dTup (t : DTA) : DTE := fun ds M P => t ds M fun xs M1 => xs.length ≤ sizeLine ∧ P (.tup xs) M1
def dLst (t : DTA) : DTE := fun ds M P => t ds M fun xs M1 => xs.length ≤ sizeLine ∧ P (.lst xs) M1
def dLstH (t : DTA) : DTE := fun ds M P => t ds M fun xs M1 => xs.length ≤ sizeLine ∧ ∀ p, M1 p = none → P (.ref p) (mput M1 p (some (.lst xs)))
/-- a tuple is made -/
theorem fin_tup {K : Fg} {M F : Mem} {H : Hp} {P : D → Mem → Prop} {Q : VK} {xs : List D} {vs : List V} (fin : Fin K M F H P Q) (dj : Dj M F) (mo : MemOk K (mj M F) H) (r : RpL K (mj M F) H vs xs) (h : P (.tup xs) M) (p : Addr) (n : H p = none) :
    Q (.ref p) (upd H p (.tup vs)) := fin (.tup xs) M (.ref p) _ h dj (Ev.new n) (mo.new n) (.tup (.of upd_same) (RpL.kp (Ev.new n).kp xs r))
/-- a list is made, and stands still -/
theorem fin_lst {K : Fg} {M F : Mem} {H : Hp} {P : D → Mem → Prop} {Q : VK} {xs : List D} {vs : List V} (fin : Fin K M F H P Q) (dj : Dj M F) (mo : MemOk K (mj M F) H) (r : RpL K (mj M F) H vs xs) (h : P (.lst xs) M) (p : Addr) (n : H p = none) :
    Q (.ref p) (upd H p (.lst vs)) := fin (.lst xs) M (.ref p) _ h dj (Ev.new n) (mo.new n) (.lst upd_same (mo.fresh n) (RpL.kp (Ev.new n).kp xs r))
/-- a hot list is made -/
theorem fin_lstH {K : Fg} {M F : Mem} {H : Hp} {P : D → Mem → Prop} {Q : VK} {xs : List D} {vs : List V} (fin : Fin K M F H P Q) (dj : Dj M F) (mo : MemOk K (mj M F) H) (r : RpL K (mj M F) H vs xs) (h : ∀ p, M p = none → P (.ref p) (mput M p (some (.lst xs)))) (p : Addr) (n : H p = none) :
    Q (.ref p) (upd H p (.lst vs)) := by
  obtain ⟨n1, n2⟩ := mj_none (mo.fresh n)
  refine fin (.ref p) _ (.ref p) _ (h p n1) (dj_put dj n2) (Ev.newHot n) ?_ (.ref p)
  rw [mj_put]
  exact mo.newHot n ⟨vs, upd_same, RpL.kp (Ev.newHot n).kp xs r⟩
theorem d_tup {es : List Expr} {t : DTA} {k : Nat} (h : DA X c es t) : DE X c (.Tuple es k pos) (dTup t) := (pe_tup h).imp fun σ H Q ⟨ds, M, F, P, at', ht, fin⟩ =>
  ⟨ds, M, F, _, at', ht, fun xs M1 vs H1 p dj ev mo rp => ⟨by rw [rp.length]; exact p.1, fin_tup (fin.ev ev) dj mo rp p.2⟩⟩
theorem d_lst {es : List Expr} {t : DTA} (h : DA X c es t) : DE X c (.List es pos) (dLst t) := (pe_lst h).imp fun σ H Q ⟨ds, M, F, P, at', ht, fin⟩ =>
  ⟨ds, M, F, _, at', ht, fun xs M1 vs H1 p dj ev mo rp => ⟨by rw [rp.length]; exact p.1, fin_lst (fin.ev ev) dj mo rp p.2⟩⟩
theorem d_lstH {es : List Expr} {t : DTA} (h : DA X c es t) : DE X c (.List es pos) (dLstH t) := (pe_lst h).imp fun σ H Q ⟨ds, M, F, P, at', ht, fin⟩ =>
  ⟨ds, M, F, _, at', ht, fun xs M1 vs H1 p dj ev mo rp => ⟨by rw [rp.length]; exact p.1, fin_lstH (fin.ev ev) dj mo rp p.2⟩⟩
end
end DL

set_option Elab.async false
set_option linter.all false
set_option maxRecDepth 100000
set_option maxHeartbeats 4000000
namespace DL
open PySem PySem.Spec PyProof.Rows L2
/-! ### statements -/
def dSkip : DTS := fun W ds M => W.nx ds M
def dSeq (t u : DTS) : DTS := fun W ds M => t { W with nx := fun ds' M' => u W ds' M' } ds M
def dExpr (te : DTE) : DTS := fun W ds M => te ds M fun _ M1 => W.nx ds M1
def dRet (te : DTE) : DTS := fun W ds M => te ds M W.rt
def dRetN : DTS := fun W _ M => W.rt .non M
def dSet (i : Nat) (te : DTE) : DTS := fun W ds M => te ds M fun d M1 => W.nx (ds.set i (some d)) M1
def dIf (t : DTT) (a b : DTS) : DTS := fun W ds M => t ds M fun k M1 => (k = true → a W ds M1) ∧ (k = false → b W ds M1)
def dBreak : DTS := fun W ds M => W.bk ds M
def dCont : DTS := fun W ds M => W.ct ds M
section
variable {X : Cx} {c : DC} {st : Stmt} {rest : List Stmt} {t u : DTS} {e : Expr} {te : DTE} {pos : Pos}
theorem EndsOk.here {K : Fg} {M F : Mem} {H : Hp} {DD : DEnds} {W : Ends} {ds : DSt} {σ : L2.St} (f : EndsOk K M F H DD W) (at' : At K c ds M F σ H) (h : DD.nx ds M) : W.nx σ H := f.nx ds M σ H h at'.dj .refl at'.mo at'.sl
theorem d_nil : DSs X c [] dSkip := pss_nil.imp fun W σ H ⟨ds, M, F, DD, at', ht, f⟩ => f.here at' ht
theorem d_seq (h1 : DS X c st t) (h2 : DSs X c rest u) : DSs X c (st :: rest) (dSeq t u) := (pss_cons h1 h2).imp fun W σ H ⟨ds, M, F, DD, at', ht, f⟩ =>
  ⟨ds, M, F, _, at', ht, ⟨fun ds' M' σ' H' p dj ev mo sl => ⟨ds', M', F, DD, ⟨sl, mo, at'.ev.trans ev, dj, at'.ge⟩, p, f.ev ev⟩, f.rt, f.bk, f.ct⟩⟩
theorem d_last (h1 : DS X c st t) : DSs X c [st] t := pss_one h1
theorem d_pass : DS X c (.Pass pos) dSkip := ps_pass.imp fun W σ H ⟨ds, M, F, DD, at', ht, f⟩ => f.here at' ht
theorem d_break : DS X c (.Break pos) dBreak := ps_break.imp fun W σ H ⟨ds, M, F, DD, at', ht, f⟩ => f.bk ds M σ H ht at'.dj .refl at'.mo at'.sl
theorem d_cont : DS X c (.Continue pos) dCont := ps_continue.imp fun W σ H ⟨ds, M, F, DD, at', ht, f⟩ => f.ct ds M σ H ht at'.dj .refl at'.mo at'.sl
theorem d_expr (he : DE X c e te) (hs : swapsWith e none pos.line X.env = pure false := by rfl) : DS X c (.Expr e pos) (dExpr te) := (ps_expr he hs).imp fun W σ H ⟨ds, M, F, DD, at', ht, f⟩ =>
  ⟨ds, M, F, _, at', ht, fun d M' v H' p dj ev mo rp => f.nx ds M' σ H' p dj ev mo (at'.sl.kp ev.kpF)⟩
theorem d_ret (he : DE X c e te) : DS X c (.Return (some e) pos) (dRet te) := (ps_ret he).imp fun W σ H ⟨ds, M, F, DD, at', ht, f⟩ => ⟨ds, M, F, _, at', ht, f.rt⟩
theorem d_retN : DS X c (.Return none pos) dRetN := ps_retN.imp fun W σ H ⟨ds, M, F, DD, at', ht, f⟩ => f.rt .non M .non H ht at'.dj .refl at'.mo .non
theorem d_if {a b : List Stmt} {tc : DTT} (hc : DT X c e tc) (ha : DSs X c a t) (hb : DSs X c b u) : DS X c (.If e a b pos) (dIf tc t u) := (ps_if hc ha hb).imp fun W σ H ⟨ds, M, F, DD, at', ht, f⟩ =>
  ⟨ds, M, F, _, at', ht, fun k M1 H1 p dj ev mo => by
    cases k with
    | true => exact ⟨ds, M1, F, DD, at'.go dj ev mo, p.1 rfl, f.ev ev⟩
    | false => exact ⟨ds, M1, F, DD, at'.go dj ev mo, p.2 rfl, f.ev ev⟩⟩
theorem d_set {i : Nat} {x : Str} {pos' : Pos} (hN : X.N.Nodup) (hi : X.N[i]? = some x) (hx : Loc X.env.scope x) (he : DE X c e te) (hs : swapsWith e (some (.Name x pos')) pos.line X.env = pure false := by rfl) (hf : X.fn x = true ∨ X.env.scope.names.lookup x = some .local := by first | exact .inl rfl | exact .inr rfl | assumption) :
    DS X c (.Assign [.Name x pos'] e pos) (dSet i te) := (ps_set hN hi hx he hs hf).imp fun W σ H ⟨ds, M, F, DD, at', ht, f⟩ =>
  ⟨ds, M, F, _, at', ht, fun d M' v H' p dj ev mo rp => f.nx _ M' _ H' p dj ev mo ((at'.sl.kp ev.kpF).set i rp)⟩
end
/-! ### targets -/
abbrev DTG := D → DSt → Mem → (DSt → Mem → Prop) → Prop
abbrev DTGs := List D → DSt → Mem → (DSt → Mem → Prop) → Prop
/-- slots outside of vs are as they were -/
def Out (vs : List Nat) (σ σ' : L2.St) : Prop := σ'.length = σ.length ∧ ∀ j, j ∉ vs → σ'[j]? = σ[j]?
theorem Out.refl {vs : List Nat} {σ : L2.St} : Out vs σ σ := ⟨rfl, fun _ _ => rfl⟩
theorem Out.trans {vs : List Nat} {σ σ' σ2 : L2.St} (a : Out vs σ σ') (b : Out vs σ' σ2) : Out vs σ σ2 := ⟨b.1.trans a.1, fun j h => (b.2 j h).trans (a.2 j h)⟩
theorem Out.set {vs : List Nat} {σ : L2.St} {i : Nat} {v : Option V} (h : i ∈ vs) : Out vs σ (σ.set i v) := ⟨List.length_set, fun j hj => List.getElem?_set_ne (fun (e : i = j) => hj (by rw [← e]; exact h))⟩
def FinG (K : Fg) (vs : List Nat) (M F : Mem) (σ : L2.St) (H : Hp) (P : DSt → Mem → Prop) (Q : L2.St → Hp → Prop) : Prop :=
  ∀ (ds : DSt) (M' : Mem) (σ' : L2.St) (H' : Hp), P ds M' → Dj M' F → Ev M H M' H' → MemOk K (mj M' F) H' → SlR K (mj M' F) H' ds σ' → Out vs σ σ' → Q σ' H'
def Lg (K : Fg) (c : DC) (vs : List Nat) (g : DTG) : TG := fun v σ H Q => ∃ d ds M F P, At K c ds M F σ H ∧ Rp K (mj M F) H v d ∧ g d ds M P ∧ FinG K vs M F σ H P Q
def Lgs (K : Fg) (c : DC) (vs : List Nat) (g : DTGs) : TGs := fun v σ H Q => ∃ d ds M F P, At K c ds M F σ H ∧ RpL K (mj M F) H v d ∧ g d ds M P ∧ FinG K vs M F σ H P Q
def DG (X : Cx) (c : DC) (vs : List Nat) (tg : Expr) (g : DTG) : Prop := PG X tg (Lg X.K c vs g)
def DGs (X : Cx) (c : DC) (vs : List Nat) (tg : List Expr) (g : DTGs) : Prop := PGs X tg (Lgs X.K c vs g)
theorem _root_.L2.PG.imp {X : Cx} {e : Expr} {t u : TG} (h : PG X e t) (i : ∀ v σ H Q, u v σ H Q → t v σ H Q) : PG X e u := ⟨fun pins s σ H v w Q I r q => h.run pins s σ H v w Q I r (i _ _ _ _ q)⟩
theorem _root_.L2.PGs.imp {X : Cx} {e : List Expr} {t u : TGs} (h : PGs X e t) (i : ∀ v σ H Q, u v σ H Q → t v σ H Q) : PGs X e u := ⟨fun pins s σ H v w Q I r q => h.run pins s σ H v w Q I r (i _ _ _ _ q)⟩
def dgN (i : Nat) : DTG := fun d ds M P => P (ds.set i (some d)) M
def dgT (n : Nat) (t : DTGs) : DTG := fun d ds M P => match d with | .tup xs => xs.length = n ∧ t xs ds M P | _ => False
def dgNil : DTGs := fun xs ds M P => match xs with | [] => P ds M | _ => False
def dgCons (t : DTG) (u : DTGs) : DTGs := fun xs ds M P => match xs with | x :: r => t x ds M fun ds1 M1 => u r ds1 M1 P | [] => False
section
variable {X : Cx} {c : DC} {vs : List Nat} {pos : Pos}
theorem d_gn {i : Nat} {x : Str} (hN : X.N.Nodup) (hi : X.N[i]? = some x) (hx : Loc X.env.scope x) (hv : i ∈ vs) (hf : X.fn x = true ∨ X.env.scope.names.lookup x = some .local := by first | exact .inl rfl | exact .inr rfl | assumption) : DG X c vs (.Name x pos) (dgN i) :=
  (pg_name hN hi hx hf).imp fun v σ H Q ⟨d, ds, M, F, P, at', rp, ht, fin⟩ => fin _ M _ H ht at'.dj .refl at'.mo (at'.sl.set i rp) (.set hv)
theorem d_gnil : DGs X c vs [] dgNil := pgs_nil.imp fun v σ H Q ⟨d, ds, M, F, P, at', rp, ht, fin⟩ => by
  cases d with
  | nil =>
    cases rp
    exact ⟨rfl, fin ds M σ H ht at'.dj .refl at'.mo at'.sl .refl⟩
  | cons x r => exact ht.elim
theorem d_gcons {e : Expr} {es : List Expr} {t : DTG} {u : DTGs} (h1 : DG X c vs e t) (h2 : DGs X c vs es u) (hs : (assignEach (e :: es) X.env).map (·.2) = assign e X.env :: (assignEach es X.env).map (·.2) := by rfl) : DGs X c vs (e :: es) (dgCons t u) :=
  (pgs_cons h1 h2 hs).imp fun v σ H Q ⟨d, ds, M, F, P, at', rp, ht, fin⟩ => by
    cases d with
    | nil => exact ht.elim
    | cons x r =>
      cases rp with
      | cons r1 r2 =>
        refine ⟨_, _, rfl, x, ds, M, F, _, at', r1, ht, fun ds' M' σ' H' p dj ev mo sl out => ?_⟩
        exact ⟨r, ds', M', F, P, ⟨sl, mo, at'.ev.trans ev, dj, at'.ge⟩, RpL.ev ev r r2, p, fun ds2 M2 σ2 H2 p2 dj2 ev2 mo2 sl2 out2 => fin ds2 M2 σ2 H2 p2 dj2 (ev.trans ev2) mo2 sl2 (out.trans out2)⟩
theorem d_gt {es : List Expr} {k n : Nat} {t : DTGs} (hc : X.calm = true) (h : DGs X c vs es t) (hn : (assignEach es X.env).length = n := by rfl) (hst : (assignEach es X.env).findIdx? (·.1) = none := by rfl) : DG X c vs (.Tuple es k pos) (dgT n t) :=
  (pg_tup hc h hn hst).imp fun v σ H Q ⟨d, ds, M, F, P, at', rp, ht, fin⟩ => by
    cases d with
    | tup xs =>
      cases rp with
      | tup hs hl => exact ⟨_, _, rfl, hs, hl.length.trans ht.1, xs, ds, M, F, P, at', hl, ht.2, fin⟩
    | _ => exact ht.elim
/-- target = value -/
def dAsg (te : DTE) (g : DTG) : DTS := fun W ds M => te ds M fun d M1 => g d ds M1 W.nx
theorem d_asg {tg e : Expr} {te : DTE} {g : DTG} (he : DE X c e te) (hg : DG X c vs tg g) (hs : swapsWithSole [tg] e pos.line X.env = pure false := by rfl) (hw : swappedStores [tg] e X.env = pure none := by rfl)
    (h1 : (assignEach [tg] X.env).map (·.2) = [assign tg X.env] := by rfl) : DS X c (.Assign [tg] e pos) (dAsg te g) := (ps_asg he hg hs hw h1).imp fun W σ H ⟨ds, M, F, DD, at', ht, f⟩ =>
  ⟨ds, M, F, _, at', ht, fun d M1 v H1 p dj ev mo rp => ⟨d, ds, M1, F, DD.nx, at'.go dj ev mo, rp, p, fun ds2 M2 σ2 H2 p2 dj2 ev2 mo2 sl2 _ => f.nx ds2 M2 σ2 H2 p2 dj2 (ev.trans ev2) mo2 sl2⟩⟩
/-- a, b = x, y: plain locals -/
def dPar (i j : Nat) (ta : DTA) : DTS := fun W ds M => ta ds M fun xs M1 => match xs with | [a, b] => W.nx ((ds.set i (some a)).set j (some b)) M1 | _ => False
theorem d_par {i j : Nat} {x y : Str} {a b : Expr} {ta : DTA} {px py pt : Pos} {kt k2 : Nat} {pt2 : Pos} (hc : X.calm = true) (hN : X.N.Nodup) (hi : X.N[i]? = some x) (hj : X.N[j]? = some y) (hij : i ≠ j)
    (hx : X.env.scope.names.lookup x = some .local) (hy : X.env.scope.names.lookup y = some .local) (ha : DA X c [a, b] ta)
    (hw : swappedStores [.Tuple [.Name x px, .Name y py] kt pt] (.Tuple [a, b] k2 pt2) X.env = pure (some [x, y]))
    (hs : swapsWithSole [.Tuple [.Name x px, .Name y py] kt pt] (.Tuple [a, b] k2 pt2) pos.line X.env = pure false := by rfl) :
    DS X c (.Assign [.Tuple [.Name x px, .Name y py] kt pt] (.Tuple [a, b] k2 pt2) pos) (dPar i j ta) := (ps_par hc hN hi hj hij hx hy ha hw hs).imp fun W σ H ⟨ds, M, F, DD, at', ht, f⟩ =>
  ⟨ds, M, F, _, at', ht, fun xs M1 vs H1 p dj ev mo rp => by
    match xs, vs, rp, p with
    | [a, b], _, .cons r1 (.cons r2 .nil), p => exact ⟨_, _, rfl, f.nx _ M1 _ H1 p dj ev mo (((at'.sl.kp ev.kpF).set i r1).set j r2)⟩⟩
end
/-! ### what is walked -/
abbrev DTI := DSt → Mem → (List D → Mem → Prop) → Prop
/-- J gives the items xs, while the data stand -/
def DWalk (K : Fg) (J : It) (xs : List D) (A : Mem) (H : Hp) : Prop := ∀ (A1 : Mem) (H1 : Hp), Kp A H A1 H1 → MemOk K A1 H1 → (∀ i, i < xs.length → J.go i H1) ∧ J.stop xs.length H1 ∧
  ∀ (i : Nat) (x : V) (H2 : Hp) (d : D), xs[i]? = some d → J.yld i H1 x H2 → Ev A1 H1 A1 H2 ∧ MemOk K A1 H2 ∧ Rp K A1 H2 x d ∧ ∀ b o, H1 b = some o → H2 b = some o
def Li (K : Fg) (c : DC) (t : DTI) : TI := fun σ H R => ∃ ds M F P, At K c ds M F σ H ∧ t ds M P ∧ ∀ (xs : List D) (M' : Mem) (H' : Hp) (J : It), P xs M' → Dj M' F → Ev M H M' H' → MemOk K (mj M' F) H' → DWalk K J xs (mj M' F) H' → R J H'
def DI (X : Cx) (c : DC) (tg e : Expr) (t : DTI) : Prop := PI X tg e (Li X.K c t)
theorem _root_.L2.PI.imp {X : Cx} {tg e : Expr} {t u : TI} (h : PI X tg e t) (i : ∀ σ H Q, u σ H Q → t σ H Q) : PI X tg e u := ⟨fun pins s σ H R I q => h.run pins s σ H R I (i _ _ _ q)⟩
/-- behind a yield: from any store beside -/
theorem ev_of_same {M : Mem} {H H2 : Hp} (h : ∀ b o, H b = some o → H2 b = some o) : Ev M H M H2 := ⟨fun a o e _ => h a o e, fun _ _ _ _ n => n, fun a o e n => ⟨o, h a o e, n⟩⟩
/-! ### for -/
def forL (g : DTG) (tb : DTS) (W : DEnds) : List D → DSt → Mem → Prop
  | [], ds, M => W.nx ds M
  | x :: r, ds, M => g x ds M fun ds1 M1 => tb { nx := fun ds2 M2 => forL g tb W r ds2 M2, rt := W.rt, bk := W.nx, ct := fun ds2 M2 => forL g tb W r ds2 M2 } ds1 M1
def dFor (ti : DTI) (g : DTG) (tb : DTS) : DTS := fun W ds M => ti ds M fun xs M1 => forL g tb W xs ds M1
section
variable {X : Cx} {c : DC} {vs : List Nat} {pos : Pos}
theorem d_for {tg iter : Expr} {body : List Stmt} {ti : DTI} {g : DTG} {tb : DTS} (hp : PassesOwn (model X.prog X.w) X.A X.env X.xe) (hc : X.calm = true) (hi : DI X c tg iter ti) (hg : DG X c vs tg g) (hb : DSs X c body tb)
    (hs : ∀ x, foldedSetIterable iter X.env x = pure x := by intro _; rfl) : DS X c (.For tg iter body [] pos) (dFor ti g tb) := (ps_for hp hc hi hg hb hs).imp fun W σ H ⟨ds, M, F, DD, at', ht, f⟩ => by
  refine ⟨ds, M, F, _, at', ht, fun xs M1 H1 J p dj ev mo wk => ?_⟩
  refine ⟨fun i m σ2 H2 => m = xs.length - i ∧ i ≤ xs.length ∧ ∃ ds2 M2, At X.K c ds2 M2 F σ2 H2 ∧ Ev M1 H1 M2 H2 ∧ forL g tb DD (xs.drop i) ds2 M2, ⟨xs.length, by simp, Nat.zero_le _, ds, M1, at'.go dj ev mo, .refl, p⟩, ?_⟩
  rintro i m σ2 H2 ⟨rfl, hle, ds2, M2, at2, ev2, q⟩
  obtain ⟨w1, w2, w3⟩ := wk (mj M2 F) H2 ev2.kpF at2.mo
  by_cases hlt : i < xs.length
  · rw [List.drop_eq_getElem_cons hlt] at q
    have hx : xs[i]? = some xs[i] := List.getElem?_eq_getElem hlt
    refine .inr ⟨w1 i hlt, fun σ3 H3 => ∃ ds3 M3, At X.K c ds3 M3 F σ3 H3 ∧ Ev M1 H1 M3 H3 ∧ forL g tb DD (xs.drop (i + 1)) ds3 M3, fun σ3 H3 ⟨ds3, M3, h1, h2, h3⟩ => ⟨xs.length - (i + 1), by omega, rfl, hlt, ds3, M3, h1, h2, h3⟩, fun x H3 y => ?_⟩
    obtain ⟨_, mo3, rx, same⟩ := w3 i x H3 _ hx y
    have e3 : Ev M2 H2 M2 H3 := ev_of_same same
    refine ⟨xs[i], ds2, M2, F, _, at2.go at2.dj e3 mo3, rx, q, fun ds4 M4 σ4 H4 p4 dj4 ev4 mo4 sl4 _ => ?_⟩
    have e4 := e3.trans ev4
    have at4 : At X.K c ds4 M4 F σ4 H4 := ⟨sl4, mo4, at2.ev.trans e4, dj4, at2.ge⟩
    have e14 := ev2.trans e4
    have eE := ev.trans e14
    exact ⟨ds4, M4, F, _, at4, p4, ⟨fun ds5 M5 σ5 H5 p5 dj5 ev5 mo5 sl5 => ⟨ds5, M5, ⟨sl5, mo5, at4.ev.trans ev5, dj5, at4.ge⟩, e14.trans ev5, p5⟩, f.rt.ev eE,
      fun ds5 M5 σ5 H5 p5 dj5 ev5 mo5 sl5 => f.nx ds5 M5 σ5 H5 p5 dj5 (eE.trans ev5) mo5 sl5, fun ds5 M5 σ5 H5 p5 dj5 ev5 mo5 sl5 => ⟨ds5, M5, ⟨sl5, mo5, at4.ev.trans ev5, dj5, at4.ge⟩, e14.trans ev5, p5⟩⟩⟩
  · have e : i = xs.length := by omega
    subst e
    rw [List.drop_length] at q
    exact .inl ⟨w2, f.nx ds2 M2 σ2 H2 q at2.dj (ev.trans ev2) at2.mo at2.sl⟩
/-! ### while -/
def whileN (t : DTT) (tb : DTS) (W : DEnds) : Nat → DSt → Mem → Prop
  | 0, _, _ => False
  | n + 1, ds, M => t ds M fun k M1 => (k = true → tb { nx := fun ds2 M2 => whileN t tb W n ds2 M2, rt := W.rt, bk := W.nx, ct := fun ds2 M2 => whileN t tb W n ds2 M2 } ds M1) ∧ (k = false → W.nx ds M1)
def dWhile (t : DTT) (tb : DTS) : DTS := fun W ds M => ∃ n, whileN t tb W n ds M
theorem d_while {e : Expr} {body : List Stmt} {t : DTT} {tb : DTS} (hp : PassesOwn (model X.prog X.w) X.A X.env X.xe) (hc : DT X c e t) (hb : DSs X c body tb) : DS X c (.While e body [] pos) (dWhile t tb) := (ps_while hp hc hb).imp fun W σ H ⟨ds, M, F, DD, at', ⟨n, ht⟩, f⟩ => by
  refine ⟨fun m σ2 H2 => ∃ ds2 M2, At X.K c ds2 M2 F σ2 H2 ∧ Ev M H M2 H2 ∧ whileN t tb DD m ds2 M2, ⟨n, ds, M, at', .refl, ht⟩, ?_⟩
  rintro m σ2 H2 ⟨ds2, M2, at2, ev2, q⟩
  cases m with
  | zero => exact q.elim
  | succ m =>
    refine ⟨ds2, M2, F, _, at2, q, fun k M3 H3 p dj ev mo => ?_⟩
    have at3 := at2.go dj ev mo
    have e3 := ev2.trans ev
    cases k with
    | true =>
      refine ⟨fun σ3 H3 => ∃ ds3 M3, At X.K c ds3 M3 F σ3 H3 ∧ Ev M H M3 H3 ∧ whileN t tb DD m ds3 M3, fun σ3 H3 h => ⟨m, Nat.lt_succ_self _, h⟩, ?_⟩
      exact ⟨ds2, M3, F, _, at3, p.1 rfl, ⟨fun ds5 M5 σ5 H5 p5 dj5 ev5 mo5 sl5 => ⟨ds5, M5, ⟨sl5, mo5, at3.ev.trans ev5, dj5, at3.ge⟩, e3.trans ev5, p5⟩, f.rt.ev e3,
        fun ds5 M5 σ5 H5 p5 dj5 ev5 mo5 sl5 => f.nx ds5 M5 σ5 H5 p5 dj5 (e3.trans ev5) mo5 sl5, fun ds5 M5 σ5 H5 p5 dj5 ev5 mo5 sl5 => ⟨ds5, M5, ⟨sl5, mo5, at3.ev.trans ev5, dj5, at3.ge⟩, e3.trans ev5, p5⟩⟩⟩
    | false => exact f.nx ds2 M3 σ2 H3 (p.2 rfl) dj e3 mo at3.sl
end
end DL

set_option Elab.async false
set_option linter.all false
set_option maxRecDepth 100000
set_option maxHeartbeats 4000000
namespace DL
open PySem PySem.Spec PyProof.Rows L2
/-! ### comprehensions -/
def dwipe (ds : DSt) : List Nat → DSt
  | [] => ds
  | v :: vs => (dwipe ds vs).set v none
theorem dwipe_length (ds : DSt) : ∀ vs : List Nat, (dwipe ds vs).length = ds.length
  | [] => rfl
  | v :: vs => by rw [dwipe, List.length_set, dwipe_length ds vs]
theorem dwipe_some {ds : DSt} {i : Nat} {d : D} : ∀ {vs : List Nat}, (dwipe ds vs)[i]? = some (some d) → ds[i]? = some (some d) ∧ i ∉ vs
  | [], h => ⟨h, by simp⟩
  | v :: vs, h => by
    rw [dwipe, List.getElem?_set] at h
    split at h
    · split at h <;> cases h
    · rename_i hv
      obtain ⟨h1, h2⟩ := dwipe_some h
      exact ⟨h1, by simp only [List.mem_cons, not_or]; exact ⟨fun e => hv e.symm, h2⟩⟩
theorem wipe_get {σ : L2.St} {i : Nat} : ∀ {vs : List Nat}, i ∉ vs → (wipe σ vs)[i]? = σ[i]?
  | [], _ => rfl
  | v :: vs, h => by
    simp only [List.mem_cons, not_or] at h
    rw [wipe, List.getElem?_set_ne (Ne.symm h.1), wipe_get h.2]
theorem wipe_in {σ : L2.St} {i : Nat} : ∀ {vs : List Nat}, i ∈ vs → i < σ.length → (wipe σ vs)[i]? = some none
  | v :: vs, h, hl => by
    rw [wipe, List.getElem?_set]
    by_cases e : v = i
    · rw [if_pos e, if_pos (by rw [wipe_length]; omega)]
    · rw [if_neg e]
      rcases List.mem_cons.mp h with z | z
      · exact absurd z.symm e
      · exact wipe_in z hl
theorem wipe_out {σ σ' : L2.St} {vs : List Nat} (o : Out vs σ σ') : wipe σ' vs = wipe σ vs := by
  apply List.ext_getElem?
  intro i
  by_cases h : i ∈ vs
  · by_cases hl : i < σ.length
    · rw [wipe_in h hl, wipe_in h (by rw [o.1]; exact hl)]
    · rw [List.getElem?_eq_none (by rw [wipe_length, o.1]; omega), List.getElem?_eq_none (by rw [wipe_length]; omega)]
  · rw [wipe_get h, wipe_get h, o.2 i h]
theorem wipe_wipe {σ : L2.St} {vs : List Nat} : wipe (wipe σ vs) vs = wipe σ vs := by
  apply wipe_out
  refine ⟨wipe_length σ vs, fun j h => wipe_get h⟩
theorem SlR.wipe {K : Fg} {A : Mem} {H : Hp} {ds : DSt} {σ : L2.St} (s : SlR K A H ds σ) (vs : List Nat) : SlR K A H (dwipe ds vs) (L2.wipe σ vs) := by
  refine ⟨by rw [dwipe_length, wipe_length, s.1], fun i d h => ?_⟩
  obtain ⟨h1, h2⟩ := dwipe_some h
  obtain ⟨v, e, r⟩ := s.2 i d h1
  exact ⟨v, by rw [wipe_get h2]; exact e, r⟩
def compL (vs : List Nat) (g : DTG) (tt : DTT) (te : DTE) (ds : DSt) (Q : List D → Mem → Prop) : List D → List D → Mem → Prop
  | [], acc, M => Q acc M
  | x :: r, acc, M => g x (dwipe ds vs) M fun ds2 M2 => tt ds2 M2 fun b M3 => (b = true → te ds2 M3 fun y M4 => compL vs g tt te ds Q r (acc ++ [y]) M4) ∧ (b = false → compL vs g tt te ds Q r acc M3)
def dYes : DTT := fun _ M P => P true M
def dComp (vs : List Nat) (ti : DTI) (g : DTG) (tt : DTT) (te : DTE) : DTE := fun ds M P => ti ds M fun xs M1 => xs.length ≤ sizeLine ∧ compL vs g tt te ds (fun ys M2 => P (.lst ys) M2) xs [] M1
/-- the list that is made stays hot for a user -/
def dCompH (vs : List Nat) (ti : DTI) (g : DTG) (tt : DTT) (te : DTE) : DTE := fun ds M P => ti ds M fun xs M1 => xs.length ≤ sizeLine ∧ compL vs g tt te ds (fun ys M2 => ∀ p, M2 p = none → P (.ref p) (mput M2 p (some (.lst ys)))) xs [] M1
def DTs (X : Cx) (c : DC) (ifs : List Expr) (t : DTT) : Prop := PTs X ifs (Lt X.K c t)
theorem _root_.L2.PTs.imp {X : Cx} {e : List Expr} {t u : TT} (h : PTs X e t) (i : ∀ σ H Q, u σ H Q → t σ H Q) : PTs X e u := ⟨fun pins s σ H Q I q => h.run pins s σ H Q I (i _ _ _ q)⟩
theorem d_tsnil {X : Cx} {c : DC} : DTs X c [] dYes := pts_nil.imp fun σ H Q ⟨ds, M, F, P, at', ht, fin⟩ => fin true M H ht at'.dj .refl at'.mo
theorem d_tsone {X : Cx} {c : DC} {e : Expr} {t : DTT} (h : DT X c e t) : DTs X c [e] t := pts_one h
theorem djH {M F : Mem} {p : Addr} (d : Dj M F) (h : M p = none) : Dj M (mput F p (some .hid)) := by
  refine ⟨fun a => ?_, fun a T => ?_⟩
  · by_cases e : a = p
    · subst e; exact .inl h
    · rw [mput_ne e]; exact d.at_ a
  · by_cases e : a = p
    · subst e; rw [mput_same]; exact nofun
    · rw [mput_ne e]; exact d.nt a T
theorem mjH {M F : Mem} {p : Addr} (h : M p = none) : mj M (mput F p (some .hid)) = mput (mj M F) p (some .hid) := by
  funext a
  by_cases e : a = p
  · subst e; rw [mput_same, mj_r h, mput_same]
  · rw [mput_ne e]; unfold mj; rw [mput_ne e]
theorem djU {M F : Mem} {p : Addr} (d : Dj M (mput F p (some .hid))) (n : F p = none) : Dj M F := by
  refine ⟨fun a => ?_, fun a T h => ?_⟩
  · by_cases e : a = p
    · subst e; exact .inr n
    · have z := d.at_ a; rw [mput_ne e] at z; exact z
  · have e : a ≠ p := fun e => by subst e; rw [n] at h; cases h
    exact d.nt a T (by rw [mput_ne e]; exact h)
theorem djM {M F : Mem} {p : Addr} (d : Dj M (mput F p (some .hid))) : M p = none := by
  rcases d.at_ p with z | z
  · exact z
  · rw [mput_same] at z; cases z
section
variable {X : Cx} {c : DC} {pos : Pos} {vs : List Nat} {ti : DTI} {g : DTG} {tt : DTT} {te : DTE}
/-- the machine's reading of a comprehension, of ours -/
theorem lc_read {K : Fg} {σ : L2.St} {H : Hp} {Q : VK} {ds : DSt} {M F : Mem} {Qd : List D → Mem → Prop} (at' : At K c ds M F σ H)
    (ht : ti ds M fun xs M1 => xs.length ≤ sizeLine ∧ compL vs g tt te ds Qd xs [] M1)
    (fin : ∀ (L : Addr) (ys : List D) (M' : Mem) (ws : List V) (H' : Hp), Qd ys M' → Dj M' F → Ev M H M' H' → MemOk K (mput (mj M' F) L (some .hid)) H' → M' L = none → F L = none → H' L = some (.lst ws) → (∀ o, H L = some o → NT o → False) → RpL K (mput (mj M' F) L (some .hid)) H' ws ys → Q (.ref L) H') :
    tLc (Li K c ti) (Lg K c.mute vs g) (Lt K c.mute tt) (Lf K c.mute te) vs σ H Q := by
  refine ⟨ds, M, F, _, at', ht, fun xs M1 H1 J ⟨hz, q⟩ dj1 ev1 mo1 wk D hD => ?_⟩
  obtain ⟨nM, nF⟩ := mj_none (mo1.fresh hD)
  have hD0 : ∀ o, H D = some o → NT o → False := fun o e n => by
    obtain ⟨o', e', _⟩ := ev1.dom D o e n
    rw [hD] at e'; cases e'
  -- the frame with the list hidden
  obtain ⟨F', hF'⟩ : ∃ F', F' = mput F D (some .hid) := ⟨_, rfl⟩
  have geF : ∀ a o, c.F0 a = some o → F' a = some o := fun a o e => by
    have z := at'.ge a o e
    rw [hF', mput_ne (fun q => by subst q; rw [nF] at z; cases z)]
    exact z
  -- what holds between the turns
  refine ⟨fun i m H5 => m = xs.length - i ∧ i ≤ xs.length ∧ ∃ M5 acc ys, Dj M5 F' ∧ Ev M1 H1 M5 H5 ∧ MemOk K (mj M5 F') H5 ∧ H5 D = some (.lst acc) ∧ RpL K (mj M5 F') H5 acc ys ∧ ys.length ≤ i ∧ compL vs g tt te ds Qd (xs.drop i) ys M5, ⟨xs.length, by simp, Nat.zero_le _, M1, [], [], ?_, ?_, ?_, upd_same, .nil, Nat.le_refl _, q⟩, ?_⟩
  · rw [hF']; exact djH dj1 nM
  · exact Ev.new hD
  · rw [hF', mjH nM]
    exact mo1.newHot hD ⟨_, upd_same⟩
  rintro i m H5 ⟨rfl, hle, M5, acc, ys, dj5, ev5, mo5, hD5, ra, hly, q5⟩
  have nM5 : M5 D = none := by rw [hF'] at dj5; exact djM dj5
  have kp15 : Kp (mj M1 F) H1 (mj M5 F') H5 := by
    rw [hF', mjH nM5]
    have z : Kp (mj M1 F) H1 (mj M5 F) H5 := ev5.kpF
    refine ⟨z.tup, fun a vs h n => ?_⟩
    have z2 := z.lst a vs h n
    refine ⟨z2.1, ?_⟩
    rw [mput_ne (fun e => by
      subst e
      rw [hD] at h; cases h)]
    exact z2.2
  obtain ⟨w1, w2, w3⟩ := wk (mj M5 F') H5 kp15 mo5
  by_cases hlt : i < xs.length
  · rw [List.drop_eq_getElem_cons hlt] at q5
    have hx : xs[i]? = some xs[i] := List.getElem?_eq_getElem hlt
    refine .inr ⟨w1 i hlt, fun H6 => ∃ M5 acc ys, Dj M5 F' ∧ Ev M1 H1 M5 H6 ∧ MemOk K (mj M5 F') H6 ∧ H6 D = some (.lst acc) ∧ RpL K (mj M5 F') H6 acc ys ∧ ys.length ≤ i + 1 ∧ compL vs g tt te ds Qd (xs.drop (i + 1)) ys M5, fun H6 h => ⟨xs.length - (i + 1), by omega, rfl, hlt, h⟩, fun x H6 y => ?_⟩
    obtain ⟨_, mo6, rx, same⟩ := w3 i x H6 _ hx y
    have e56 : Ev M5 H5 M5 H6 := ev_of_same same
    have sl5 : SlR K (mj M5 F') H6 (dwipe ds vs) (L2.wipe σ vs) := ((at'.sl.kp ev1.kpF).kp kp15 |>.kp e56.kpF).wipe vs
    have at6 : At K c.mute (dwipe ds vs) M5 F' (L2.wipe σ vs) H6 := ⟨sl5, mo6, at'.ev.trans (ev1.trans (ev5.trans e56)), dj5, geF⟩
    have hD6 : H6 D = some (.lst acc) := same D _ hD5
    have noD : ∀ {M7 : Mem} {H7 : Hp}, Ev M5 H6 M7 H7 → H7 D = some (.lst acc) := fun e => e.keep D _ hD6 (.inl ⟨nM5, fun _ => nofun⟩)
    refine ⟨xs[i], dwipe ds vs, M5, F', _, at6, rx, q5, fun ds7 M7 σ7 H7 p7 dj7 ev7 mo7 sl7 out7 => ?_⟩
    refine ⟨(wipe_out out7).trans wipe_wipe, ?_⟩
    have at7 : At K c.mute ds7 M7 F' σ7 H7 := ⟨sl7, mo7, at6.ev.trans ev7, dj7, geF⟩
    refine ⟨ds7, M7, F', _, at7, p7, fun b M8 H8 p8 dj8 ev8 mo8 => ?_⟩
    have e68 := ev7.trans ev8
    have e18 := ev5.trans (e56.trans e68)
    have ra8 : RpL K (mj M8 F') H8 acc ys := RpL.ev e68 ys (RpL.ev e56 ys ra)
    cases b with
    | false =>
      dsimp only
      rw [if_neg Bool.false_ne_true]
      exact ⟨M8, acc, ys, dj8, e18, mo8, noD e68, ra8, by omega, p8.2 rfl⟩
    | true =>
      dsimp only
      rw [if_pos rfl]
      refine ⟨ds7, M8, F', _, at7.go dj8 ev8 mo8, p8.1 rfl, fun y M9 v H9 p9 dj9 ev9 mo9 r9 => ?_⟩
      have e69 := e68.trans ev9
      have hD9 := noD e69
      have lenA : acc.length = ys.length := ra.length
      have nM9 : M9 D = none := by rw [hF'] at dj9; exact djM dj9
      have hot : (mj M9 F') D = some .hid := by rw [mj_r nM9, hF', mput_same]
      refine ⟨acc, hD9, by omega, M9, acc ++ [v], ys ++ [y], dj9, ?_, ?_, upd_same, ?_, by rw [List.length_append]; show ys.length + 1 ≤ i + 1; omega, p9⟩
      · have e19 := e18.trans ev9
        refine ⟨fun a o h hn => ?_, e19.mono, fun a o h nt => ?_⟩
        · rw [upd_ne (ne_of_none h hD)]; exact e19.keep a o h hn
        · rw [upd_ne (ne_of_none h hD)]; exact e19.dom a o h nt
      · have z : MemOk K (mput (mj M9 F') D (some .hid)) (upd H9 D (.lst (acc ++ [v]))) := mo9.write hot (fun ps z => by rw [hD9] at z; cases z) ⟨_, upd_same⟩
        rw [mput_self hot] at z
        exact z
      · have kpw : Kp (mj M9 F') H9 (mj M9 F') (upd H9 D (.lst (acc ++ [v]))) := by
          have z := (Ev.write (o := HO.lst (acc ++ [v])) (u' := MO.hid) hot ⟨_, hD9, .inl trivial, fun _ => nofun⟩).kp
          rw [mput_self hot] at z
          exact z
        exact (RpL.kp kpw ys (RpL.ev ev9 ys ra8)).append (.cons (Rp.kp kpw y r9) .nil)
  · have e : i = xs.length := by omega
    subst e
    rw [List.drop_length] at q5
    refine .inl ⟨w2, ?_⟩
    have m2 : MemOk K (mput (mj M5 F) D (some .hid)) H5 := by rw [← mjH nM5, ← hF']; exact mo5
    have r2 : RpL K (mput (mj M5 F) D (some .hid)) H5 acc ys := by rw [← mjH nM5, ← hF']; exact ra
    exact fin D ys M5 acc H5 q5 (by rw [hF'] at dj5; exact djU dj5 nF) (ev1.trans ev5) m2 nM5 nF hD5 hD0 r2
theorem lc_cold {K : Fg} {σ : L2.St} {H : Hp} {Q : VK} : Lf K c (dComp vs ti g tt te) σ H Q → tLc (Li K c ti) (Lg K c.mute vs g) (Lt K c.mute tt) (Lf K c.mute te) vs σ H Q := fun ⟨ds, M, F, P, at', ht, fin⟩ =>
  lc_read at' ht fun D ys M' ws H' p dj ev mo nM nF hD hD0 r => by
    have cold : (mj M' F) D = none := by rw [mj_r nM]; exact nF
    have ls : ∀ a, mput (mj M' F) D (some .hid) a = none → (mj M' F) a = none := fun a h => by
      by_cases e : a = D
      · subst e; exact cold
      · rw [mput_ne e] at h; exact h
    exact fin (.lst ys) M' (.ref D) H' p dj ev (mo.less fun a o h => by rw [mput_ne (fun e => by subst e; rw [cold] at h; cases h)]; exact h) (.lst hD cold (RpL.less ls ys r))
theorem lc_hot {K : Fg} {σ : L2.St} {H : Hp} {Q : VK} : Lf K c (dCompH vs ti g tt te) σ H Q → tLc (Li K c ti) (Lg K c.mute vs g) (Lt K c.mute tt) (Lf K c.mute te) vs σ H Q := fun ⟨ds, M, F, P, at', ht, fin⟩ =>
  lc_read at' ht fun D ys M' ws H' p dj ev mo nM nF hD hD0 r => by
    have cold : (mj M' F) D = none := by rw [mj_r nM]; exact nF
    have e1 : ∀ a, mput (mj M' F) D (some .hid) a = none → mput (mj M' F) D (some (.lst ys)) a = none := fun a h => by
      by_cases e : a = D
      · subst e; rw [mput_same] at h; cases h
      · rw [mput_ne e] at h ⊢; exact h
    refine fin (.ref D) _ (.ref D) H' (p D nM) (dj_put dj nF) ⟨ev.keep, fun a o h t n => ?_, ev.dom⟩ ?_ (.ref D)
    · rw [mput_ne (fun e => hD0 o (by rw [← e]; exact h) t)]; exact ev.mono a o h t n
    · rw [mj_put]
      intro a o h
      by_cases e : a = D
      · subst e
        rw [mput_same] at h; cases h
        exact ⟨ws, hD, RpL.less e1 ys r⟩
      · rw [mput_ne e] at h
        exact MoOk.less e1 (mo a o (by rw [mput_ne e]; exact h))
variable {tg iter elt : Expr} {ifs : List Expr} {scope : Scope} {own : List (Str × Nat)}
theorem d_lc (hc : X.calm = true) (hN : X.N.Nodup) (hi : DI X c tg iter ti) (ok : BlkOk X.N X.env.scope scope own)
    (hg : ∀ (s : Shared) (H : Hp) (C : Addr) (cl : List (Str × Addr)) (fp : List Addr), DG (X.blk s H scope (compEnvC scope cl C X.env) fp) c.mute (own.map (·.2)) tg g) (ht : ∀ (s : Shared) (H : Hp) (C : Addr) (cl : List (Str × Addr)) (fp : List Addr), DTs (X.blk s H scope (compEnvC scope cl C X.env) fp) c.mute ifs tt)
    (he : ∀ (s : Shared) (H : Hp) (C : Addr) (cl : List (Str × Addr)) (fp : List Addr), DE (X.blk s H scope (compEnvC scope cl C X.env) fp) c.mute elt te) (hs : ∀ x, foldedSetIterable iter X.env x = pure x := by intro _; rfl) :
    DE X c (.ListComp elt [⟨tg, iter, ifs, 0⟩] scope pos) (dComp (own.map (·.2)) ti g tt te) := (pe_lc (g := Lg X.K c.mute (own.map fun (x : Str × Nat) => x.2) g) (tt := Lt X.K c.mute tt) (te := Lf X.K c.mute te) hc hN hi ok hg ht he hs).imp fun _ _ _ => lc_cold
theorem d_lcH (hc : X.calm = true) (hN : X.N.Nodup) (hi : DI X c tg iter ti) (ok : BlkOk X.N X.env.scope scope own)
    (hg : ∀ (s : Shared) (H : Hp) (C : Addr) (cl : List (Str × Addr)) (fp : List Addr), DG (X.blk s H scope (compEnvC scope cl C X.env) fp) c.mute (own.map (·.2)) tg g) (ht : ∀ (s : Shared) (H : Hp) (C : Addr) (cl : List (Str × Addr)) (fp : List Addr), DTs (X.blk s H scope (compEnvC scope cl C X.env) fp) c.mute ifs tt)
    (he : ∀ (s : Shared) (H : Hp) (C : Addr) (cl : List (Str × Addr)) (fp : List Addr), DE (X.blk s H scope (compEnvC scope cl C X.env) fp) c.mute elt te) (hs : ∀ x, foldedSetIterable iter X.env x = pure x := by intro _; rfl) :
    DE X c (.ListComp elt [⟨tg, iter, ifs, 0⟩] scope pos) (dCompH (own.map (·.2)) ti g tt te) := (pe_lc (g := Lg X.K c.mute (own.map fun (x : Str × Nat) => x.2) g) (tt := Lt X.K c.mute tt) (te := Lf X.K c.mute te) hc hN hi ok hg ht he hs).imp fun _ _ _ => lc_hot
/-- name = [..], the name a plain local -/
theorem d_setLc {i : Nat} {y : Str} {py : Pos} {spos : Pos} (hc : X.calm = true) (hN : X.N.Nodup) (hy : X.N[i]? = some y) (hyl : X.env.scope.names.lookup y = some .local)
    (hsw : swapsWith (.ListComp elt [⟨tg, iter, ifs, 0⟩] scope pos) (some (.Name y py)) spos.line X.env = pure true) (hi : DI X c tg iter ti) (ok : BlkOk X.N X.env.scope scope own)
    (hg : ∀ (s : Shared) (H : Hp) (C : Addr) (cl : List (Str × Addr)) (fp : List Addr), DG (X.blk s H scope (compEnvC scope cl C X.env) fp) c.mute (own.map (·.2)) tg g) (ht : ∀ (s : Shared) (H : Hp) (C : Addr) (cl : List (Str × Addr)) (fp : List Addr), DTs (X.blk s H scope (compEnvC scope cl C X.env) fp) c.mute ifs tt)
    (he : ∀ (s : Shared) (H : Hp) (C : Addr) (cl : List (Str × Addr)) (fp : List Addr), DE (X.blk s H scope (compEnvC scope cl C X.env) fp) c.mute elt te) (hs : ∀ x, foldedSetIterable iter X.env x = pure x := by intro _; rfl) :
    DS X c (.Assign [.Name y py] (.ListComp elt [⟨tg, iter, ifs, 0⟩] scope pos) spos) (dSet i (dComp (own.map (·.2)) ti g tt te)) := (ps_setLc (g := Lg X.K c.mute (own.map fun (x : Str × Nat) => x.2) g) (tt := Lt X.K c.mute tt) (te := Lf X.K c.mute te) hc hN hy hyl hsw hi ok hg ht he hs).imp fun W σ H ⟨ds, M, F, DD, at', ht, f⟩ =>
  lc_cold (Q := fun v H' => W.nx (σ.set i (some v)) H') ⟨ds, M, F, fun d M1 => DD.nx (ds.set i (some d)) M1, at', ht, fun d M' v H' p dj ev mo rp => f.nx _ M' _ H' p dj ev mo ((at'.sl.kp ev.kpF).set i rp)⟩
end
end DL

set_option Elab.async false
set_option linter.all false
set_option maxRecDepth 100000
set_option maxHeartbeats 4000000
namespace DL
open PySem PySem.Spec PyProof.Rows L2
/-! ### what a def promises, over data -/
abbrev DSp := List D → Mem → (D → Mem → Prop) → DX → Prop
def lsp (K : Fg) (sp : DSp) : Sp := fun vs H Q E => ∃ ds M F P PX, RpL K (mj M F) H vs ds ∧ MemOk K (mj M F) H ∧ Dj M F ∧ sp ds M P PX ∧ Fin K M F H P Q ∧ FinX K M F H PX E
def xed (K : Fg) (c : DC) : XK := fun cls d H' => ∃ fs M F, c.PX cls fs M ∧ (∀ a o, c.F0 a = some o → F a = some o) ∧ Dj M F ∧ Ev c.M0 c.H0 M H' ∧ MemOk K (mj M F) H' ∧ XdR K (mj M F) H' d fs
abbrev WD (K : Fg) (c : DC) : WX := fun cls d _ H => xed K c cls d H
theorem takes_mute {X : Cx} {K : Fg} {c : DC} : L2N.Takes X (WD K c.mute) := fun _ _ x => by
  obtain ⟨_, _, _, _, _, _, _, _, _, _, _, _, _, _, _, _, fs, M, F, z, _⟩ := x
  exact z.elim
/-- a def that stands in the text, with its promise -/
structure Cal (P : Program) (w : World) (K : Fg) (mg : Str → Option Value) (base : Heap) (k : Nat) (x : Str) (ps : List Str) (sp : DSp) : Prop where
  ex : ∃ f fd, FnOk P w K mg base (L2N.CX P w) k f fd ps (lsp K sp) ∧ mg x = some (.ref f) ∧ PySem.W.keepIn K (.ref f) = true ∧ Binds K fd ps []
def dCall (sp : DSp) (PX : DX) (t : DTA) : DTE := fun ds M P => t ds M fun xs M1 => sp xs M1 P PX
theorem finx_here {K : Fg} {c : DC} {ds : DSt} {M F : Mem} {σ : L2.St} {H : Hp} (a : At K c ds M F σ H) : FinX K M F H c.PX (xed K c) := fun cls fs M' d H' p dj ev mo xr => ⟨fs, M', F, p, a.ge, dj, a.ev.trans ev, mo, xr⟩
section
variable {X : Cx} {c : DC} {k j : Nat} {x : Str} {ps : List Str} {sp : DSp} {p pos : Pos} {e : Expr} {es : List Expr} {t : DTA}
theorem d_call (h : Cal X.prog X.w X.K X.mg X.base k x ps sp) (hr : Room j X.A) (hk : k ≤ j) (hg : Gl X x) (tk : L2N.Takes X (WD X.K c)) (ha : DA X c (e :: es) t)
    (hdb : (x == ("__debug__" : Str)) = false := by decide) (he : starEach (e :: es) X.env = (false, eval e X.env) :: starEach es X.env := by rfl) (hpl : (backTo pos (starEach es X.env)).any (·.1) = false := by rfl) :
    DE X c (.Call (.Name x p) (e :: es) [] pos) (dCall sp c.PX t) := by
  obtain ⟨f, fd, F, hm, kp, b⟩ := h.ex
  refine (pe_call F (hr.mono hk) hg hm kp b .nil (L2N.passes_call (E := xed X.K c) tk fun _ _ _ _ h => h) ha hdb he hpl).imp fun σ H Q ⟨ds, M, F, P, at', ht, fin⟩ => ?_
  exact ⟨ds, M, F, _, at', ht, fun xs M1 vs H1 q dj ev mo rp => ⟨xs, M1, F, P, c.PX, by rw [List.append_nil]; exact rp, mo, dj, q, fin.ev ev, finx_here (at'.go dj ev mo)⟩⟩
theorem d_call0 (h : Cal X.prog X.w X.K X.mg X.base k x ps sp) (hr : Room j X.A) (hk : k ≤ j) (hg : Gl X x) (tk : L2N.Takes X (WD X.K c)) (hdb : (x == ("__debug__" : Str)) = false := by decide) : DE X c (.Call (.Name x p) [] [] pos) (dCall sp c.PX dNil) := by
  obtain ⟨f, fd, F, hm, kp, b⟩ := h.ex
  refine (pe_call0 F (hr.mono hk) hg hm kp b .nil (L2N.passes_call (E := xed X.K c) tk fun _ _ _ _ h => h) hdb).imp fun σ H Q ⟨ds, M, F, P, at', ht, fin⟩ => ?_
  exact ⟨[], M, F, P, c.PX, .nil, at'.mo, at'.dj, ht, fin, finx_here at'⟩
end
/-! ### the end of a def: hot things may be let go, or stand still from now on -/
inductive Fz (P : D → Mem → Prop) : D → Mem → Prop
  | here {d : D} {M : Mem} : P d M → Fz P d M
  | drop {d : D} {M : Mem} (a : Addr) : Fz P d (mput M a none) → Fz P d M
  | frz {a : Addr} {xs : List D} {M : Mem} : M a = some (.lst xs) → Fz P (.lst xs) (mput M a none) → Fz P (.ref a) M
theorem mput_less {M F : Mem} {a : Addr} : ∀ b, mj M F b = none → mj (mput M a none) F b = none := fun b h => by
  obtain ⟨h1, h2⟩ := mj_none h
  rw [mj_r]
  · exact h2
  · by_cases e : b = a
    · subst e; rw [mput_same]
    · rw [mput_ne e]; exact h1
theorem mput_sub {M F : Mem} {a : Addr} (d : Dj M F) (hF : M a = none ∨ F a = none) : ∀ b o, mj (mput M a none) F b = some o → mj M F b = some o := fun b o h => by
  by_cases e : b = a
  · subst e
    rw [mj_r mput_same] at h
    rcases hF with z | z
    · rw [mj_r z]; exact h
    · rw [z] at h; cases h
  · unfold mj at h ⊢
    rw [mput_ne e] at h
    exact h
theorem dj_drop {M F : Mem} {a : Addr} (d : Dj M F) : Dj (mput M a none) F := ⟨fun b => by
  by_cases e : b = a
  · subst e; exact .inl mput_same
  · rw [mput_ne e]; exact d.at_ b, d.nt⟩
theorem ev_drop {M M' : Mem} {H H' : Hp} {a : Addr} (e : Ev M H M' H') : Ev M H (mput M' a none) H' := e.less fun b n => by
  by_cases z : b = a
  · subst z; rw [mput_same]
  · rw [mput_ne z]; exact n
theorem fz_fin {K : Fg} {M F : Mem} {H : Hp} {P : D → Mem → Prop} {Q : VK} (fin : Fin K M F H P Q) : Fin K M F H (Fz P) Q := by
  intro d M' v H' h
  induction h generalizing v with
  | here q => exact fun dj ev mo rp => fin _ _ v H' q dj ev mo rp
  | drop a _ ih => exact fun dj ev mo rp => ih v (dj_drop dj) (ev_drop ev) (mo.less (mput_sub dj (dj.at_ a))) (Rp.less mput_less _ rp)
  | @frz a xs M1 ha _ ih =>
    intro dj ev mo rp
    cases rp
    have fa := dj_here dj ha
    obtain ⟨vs, e1, r⟩ := mo a _ (mj_l ha)
    exact ih (.ref a) (dj_drop dj) (ev_drop ev) (mo.less (mput_sub dj (dj.at_ a))) (.lst e1 (by rw [mj_r mput_same]; exact fa) (RpL.less mput_less xs r))
def dstart (N : List Str) (ds : List D) : DSt := ds.map some ++ List.replicate (N.length - ds.length) none
theorem slr_start {K : Fg} {A : Mem} {H : Hp} {N : List Str} {vs : List V} {ds : List D} (r : RpL K A H vs ds) : SlR K A H (dstart N ds) (L2.start N vs) := by
  unfold dstart L2.start
  rw [r.length]
  refine ⟨by simp [r.length], fun i d h => ?_⟩
  by_cases hi : i < ds.length
  · rw [List.getElem?_append_left (by rw [List.length_map]; exact hi), List.getElem?_map] at h
    cases e : ds[i]? with
    | none => rw [e] at h; cases h
    | some d' =>
      rw [e] at h
      cases h
      obtain ⟨v, e2, rv⟩ := r.get e
      refine ⟨v, ?_, rv⟩
      rw [List.getElem?_append_left (by rw [List.length_map, r.length]; exact hi), List.getElem?_map, e2] <;> rfl
  · rw [List.getElem?_append_right (by rw [List.length_map]; omega), List.getElem?_replicate] at h
    split at h <;> cases h
/-- what a def's body is walked in -/
structure FCtx (X : Cx) (c : DC) (k : Nat) : Prop where
  tk : L2N.Takes X (WD X.K c)
  hp : PassesOwn (model X.prog X.w) X.A X.env X.xe
  hr : Room k X.A
def dEnds (P : D → Mem → Prop) : DEnds := { nx := fun _ M => Fz P .non M, rt := fun d M => Fz P d M }
section
variable {P : Program} {w : World} {K : Fg} {mg : Str → Option Value} {base : Heap}
/-- THE RULE for a def -/
theorem dfn {x qual : Str} {st : Stmt} {f : Addr} {fd : FuncData} {N ps : List Str} {k : Nat} {sp : DSp} {t : DX → DTS} (Fn : FunD K x qual (defArgs st) (defBody st) (defScope st) [] [] f fd) (S : FnScope N ps (defScope st)) (len : ∀ ds M P PX, sp ds M P PX → ds.length = ps.length)
    (body : ∀ (cdv : Value) (A : Around) (outer : List Env) (s : Shared) (H : Hp) (E : XK) (c : DC), FCtx (cxOf (L2N.CX P w) P w K mg base N qual (defScope st) f cdv A outer s H E) c k → DSs (cxOf (L2N.CX P w) P w K mg base N qual (defScope st) f cdv A outer s H E) c (defBody st) (t c.PX))
    (hsp : ∀ ds M P PX, sp ds M P PX → t PX (dEnds P) (dstart N ds) M) : FnOk P w K mg base (L2N.CX P w) (k + 1) f fd ps (lsp K sp) := by
  refine Fn.ok S (fun vs H Q E ⟨ds, M, F, P, PX, r, _, _, q, _⟩ => r.length.trans (len _ _ _ _ q)) (fun cdv A outer s H vs Q E hr ⟨ds, M, F, P', PX, r, mo, dj, q, fin, finx⟩ => ?_)
  have tk : L2N.Takes (cxOf (L2N.CX P w) P w K mg base N qual (defScope st) f cdv A outer s H E) (WD K ⟨M, H, F, PX⟩) :=
    (L2N.takes_of rfl rfl rfl rfl).imp fun cls d σ H' ⟨fs, M', F', px, ge, dj', ev, mo', xr⟩ => by
      have lt : ∀ a, F' a = none → F a = none := fun a n => by
        cases e : F a with
        | none => rfl
        | some o => rw [show F' a = some o from ge a o e] at n; cases n
      have sub : ∀ a o, mj M' F a = some o → mj M' F' a = some o := fun a o h => by
        cases e : M' a with
        | none =>
          rw [mj_r e] at h ⊢
          exact ge a o h
        | some u =>
          rw [mj_l e] at h ⊢
          exact h
      have les : ∀ a, mj M' F' a = none → mj M' F a = none := fun a h => by
        obtain ⟨h1, h2⟩ := mj_none h
        rw [mj_r h1]; exact lt a h2
      exact finx cls fs M' d H' px ⟨fun a => (dj'.at_ a).elim .inl fun n => .inr (lt a n), fun a T z => dj'.nt a T (ge a _ z)⟩ ev (mo'.less sub) (xr.less les)
  refine ⟨_, body cdv A outer s H E ⟨M, H, F, PX⟩ ⟨tk, passes_of rfl, hr⟩, ?_⟩
  refine ⟨dstart N ds, M, F, dEnds P', ⟨slr_start r, mo, .refl, dj, fun _ _ h => h⟩, hsp ds M P' PX q, ?_⟩
  exact ⟨fun ds' M' σ' H' p dj ev mo sl => fz_fin fin .non M' .non H' p dj ev mo .non, fz_fin fin, fun ds' M' σ' H' p => p.elim, fun ds' M' σ' H' p => p.elim⟩
end
/-- where a def stands -/
structure DefAt (K : Fg) (mg : Str → Option Value) (x : Str) (ps : List Str) (st : Stmt) : Prop where
  ex : ∃ f fd, FunD K x x (defArgs st) (defBody st) (defScope st) [] [] f fd ∧ mg x = some (.ref f) ∧ Binds K fd ps []
section
variable {P : Program} {w : World} {K : Fg} {mg : Str → Option Value} {base : Heap}
theorem dcal {x : Str} {st : Stmt} {N ps : List Str} {k : Nat} {sp : DSp} {t : DX → DTS} (d : DefAt K mg x ps st) (S : FnScope N ps (defScope st)) (len : ∀ ds M P PX, sp ds M P PX → ds.length = ps.length)
    (body : ∀ (f : Addr) (cdv : Value) (A : Around) (outer : List Env) (s : Shared) (H : Hp) (E : XK) (c : DC), FCtx (cxOf (L2N.CX P w) P w K mg base N x (defScope st) f cdv A outer s H E) c k → DSs (cxOf (L2N.CX P w) P w K mg base N x (defScope st) f cdv A outer s H E) c (defBody st) (t c.PX))
    (hsp : ∀ ds M P PX, sp ds M P PX → t PX (dEnds P) (dstart N ds) M) : Cal P w K mg base (k + 1) x ps sp := by
  obtain ⟨f, fd, F, hm, b⟩ := d.ex
  exact ⟨⟨f, fd, dfn F S len (fun cdv => body f cdv) hsp, hm, F.kp, b⟩⟩
end
/-! ### raise -/
def dRaise (PX : DX) (cls : Value) : DTS := fun _ _ M => PX cls none M
theorem d_raise {X : Cx} {c : DC} {e : Expr} {C : Addr} {pos : Pos} (hc : X.calm = true) (tk : L2N.Takes X (WD X.K c)) (he : L2N.PMk X e (fun _ H Q => Q (.ref C) none H)) : DS X c (.Raise (some e) none pos) (dRaise c.PX (.ref C)) :=
  (L2N.ps_raise hc tk he).imp fun W σ H ⟨ds, M, F, DD, at', ht, f⟩ => ⟨none, M, F, ht, at'.ge, at'.dj, at'.ev, at'.mo, trivial⟩
section
variable {X : Cx} {C : Addr} {bmB : List Value} {B newId initId : String}
theorem pmkN {x m : Str} {j : Nat} {p p2 pos : Pos} (F : ExcBaseFacts B newId initId bmB) (q : PySem.W.excIn X.K C bmB newId = true) (gC : X.mg x = some (.ref C)) (kC : PySem.W.keepIn X.K (.ref C) = true) (r : Raises X (.ref C)) (hg : Gl X x)
    (hdb : (x == ("__debug__" : Str)) = false := by decide) : L2N.PMk X (.Call (.Name x p) [.Constant (.str m) j p2] [] pos) (fun _ H Q => Q (.ref C) none H) := by
  intro pins s σ H Q I h
  refine wpAny_Call_Name_kw (ld_glob I hg gC ?_ hdb)
  have ha : PA X [.Constant (.str m) j p2] (tCons (tC (.str m)) tNil) := pa_cons pe_str pa_nil
  refine PySem.W.callWith_K (h₀ := X.base) I.ok.mod.kin kC (thn (ha.run pos pins s σ H (fun vs H1 => vs = [V.str m] ∧ H = H1) I ⟨rfl, rfl⟩) fun us s1 hh => ?_)
  obtain ⟨vs, H1, I1, r1, ev, eH⟩ := hh
  subst ev
  rw [← eH] at I1
  refine ⟨I1.kIn, ?_⟩
  match us, r1 with
  | [u], .cons ru .nil =>
    show wpAny _ _ (call (.ref C) [u]) _ _ _
    obtain ⟨bm, N, nm, qn, bs, hdct, sn, sub, ab, col, dd, k0, k1, k2, k3, k5, mN, hC, hN, hni, T⟩ := exc_obj I1.kIn q
    refine wpAny_call_exc_subT F T hC hN hni (fun h' e hm => ?_) (by show 1 ≤ sizeLine; rw [sizeLine_eq]; omega)
    exact L2N.mk_of I1 hm r h (I1.hok.gone hm.new)
end
/-- an error class of the text, made with a text alone -/
structure ErrAt (K : Fg) (mg : Str → Option Value) (x : Str) (C : Addr) : Prop where
  gC : mg x = some (.ref C)
  xC : PySem.W.excIn K C [.type "ValueError", .type "Exception", .type "BaseException", .type "object"] "ValueError.__new__" = true
  kC : PySem.W.keepIn K (.ref C) = true
  bC : PySem.W.subIn K (.ref C) (.type "BaseException") = some true
  tC : PySem.W.typeIn K (.ref C) = some (.type "type")
theorem d_raiseE {X : Cx} {c : DC} {x m : Str} {C : Addr} {j : Nat} {p p2 pos pos2 : Pos} (hc : X.calm = true) (tk : L2N.Takes X (WD X.K c)) (T : ErrAt X.K X.mg x C) (hg : Gl X x) (hdb : (x == ("__debug__" : Str)) = false := by decide) :
    DS X c (.Raise (some (.Call (.Name x p) [.Constant (.str m) j p2] [] pos)) none pos2) (dRaise c.PX (.ref C)) :=
  d_raise hc tk (pmkN PySem.F.excBase_ValueError T.xC T.gC T.kC (raises_own T.bC T.tC) hg hdb)
end DL

set_option Elab.async false
set_option linter.all false
set_option maxRecDepth 100000
set_option maxHeartbeats 4000000
namespace DL
open PySem PySem.Spec PyProof.Rows L2
theorem Fin.val {K : Fg} {M F : Mem} {H : Hp} {P : D → Mem → Prop} {Q : VK} {d : D} {v : V} (f : Fin K M F H P Q) (dj : Dj M F) (mo : MemOk K (mj M F) H) (p : P d M) (r : Rp K (mj M F) H v d) : Q v H := f d M v H p dj .refl mo r
/-! ### ints -/
def gI (f : Int → Int → D) : DO2 := fun x y M P => match x, y with | .int i, .int j => P (f i j) M | _, _ => False
def gIC (C : Int → Int → Prop) (f : Int → Int → D) : DO2 := fun x y M P => match x, y with | .int i, .int j => C i j ∧ P (f i j) M | _, _ => False
section
variable {K : Fg}
theorem op2_I {f : Int → Int → D} {g : Int → Int → V} (h : ∀ i j A H, Rp K A H (g i j) (f i j)) : Op2 K (rI0 g) (gI f) := fun M F x y v w H P Q q dj mo rx ry fin => by
  unfold gI at q
  split at q
  · cases rx; cases ry; exact ⟨_, _, rfl, rfl, fin.val dj mo q (h _ _ _ _)⟩
  · exact q.elim
theorem op2_IC {C : Int → Int → Prop} {f : Int → Int → D} {g : Int → Int → V} (h : ∀ i j A H, Rp K A H (g i j) (f i j)) : Op2 K (rI C g) (gIC C f) := fun M F x y v w H P Q q dj mo rx ry fin => by
  unfold gIC at q
  split at q
  · cases rx; cases ry; exact ⟨_, _, rfl, rfl, q.1, fin.val dj mo q.2 (h _ _ _ _)⟩
  · exact q.elim
end
section
variable {X : Cx} {c : DC} {a b e : Expr} {pos : Pos} {ta tb te : DTE}
def gMod : DO2 := gIC (fun _ j => 0 < j) fun i j => .int (i % j)
def gDiv : DO2 := gIC CDiv fun i j => .int (i / j)
def gSub : DO2 := gI fun i j => .int (i - j)
def gPow : DO2 := gIC CPow fun i j => .int (i ^ j.toNat)
theorem d_mod (ha : DE X c a ta) (hb : DE X c b tb) : DE X c (.BinOp a .Mod b pos) (dBin gMod ta tb) := d_op op_mod (op2_IC fun _ _ _ _ => .int _) ha hb
theorem d_div (ha : DE X c a ta) (hb : DE X c b tb) : DE X c (.BinOp a .FloorDiv b pos) (dBin gDiv ta tb) := d_op op_fdiv (op2_IC fun _ _ _ _ => .int _) ha hb
theorem d_sub (ha : DE X c a ta) (hb : DE X c b tb) : DE X c (.BinOp a .Sub b pos) (dBin gSub ta tb) := d_op op_sub (op2_I fun _ _ _ _ => .int _) ha hb
theorem d_pow (ha : DE X c a ta) (hb : DE X c b tb) : DE X c (.BinOp a .Pow b pos) (dBin gPow ta tb) := d_op op_pow (op2_IC fun _ _ _ _ => .int _) ha hb
def gNeg : DO1 := fun x M P => match x with | .int i => P (.int (-i)) M | _ => False
theorem d_neg (ha : DE X c a ta) : DE X c (.UnaryOp .USub a pos) (dUn gNeg ta) := d_un un_neg (fun M F x v H P Q q dj mo rx fin => by
  unfold gNeg at q
  split at q
  · cases rx; exact ⟨_, rfl, fin.val dj mo q (.int _)⟩
  · exact q.elim) ha
def gLt : DO2 := gI fun i j => .bl (decide (i < j))
def gLe : DO2 := gI fun i j => .bl (decide (i ≤ j))
def gGt : DO2 := gI fun i j => .bl (decide (j < i))
def gGe : DO2 := gI fun i j => .bl (decide (j ≤ i))
theorem og_lt {K : Fg} : Op2 K (rI0 fun i j => .bl (decide (i < j))) gLt := op2_I fun _ _ _ _ => .bl _
theorem og_le {K : Fg} : Op2 K (rI0 fun i j => .bl (decide (i ≤ j))) gLe := op2_I fun _ _ _ _ => .bl _
theorem og_gt {K : Fg} : Op2 K (rI0 fun i j => .bl (decide (j < i))) gGt := op2_I fun _ _ _ _ => .bl _
theorem og_ge {K : Fg} : Op2 K (rI0 fun i j => .bl (decide (j ≤ i))) gGe := op2_I fun _ _ _ _ => .bl _
/-- low <= x <= high -/
theorem d_chain {op op' : CmpOp} {r r' : R2} {g g' : DO2} {tc : DTE} (ho : OpR X (compareOp op) r) (ho' : OpR X (compareOp op') r') (hg : Op2 X.K r g) (hg' : Op2 X.K r' g') (ha : DE X c a ta) (hb : DE X c b tb) (he : DE X c e tc)
    (k : PE X a (Lf X.K c ta) → PE X b (Lf X.K c tb) → PE X e (Lf X.K c tc) → PE X (.Compare a [op, op'] [b, e] pos) (tChain r r' (Lf X.K c ta) (Lf X.K c tb) (Lf X.K c tc))) : DE X c (.Compare a [op, op'] [b, e] pos) (dChain g g' ta tb tc) :=
  (k ha hb he).imp fun σ H Q ⟨ds, M, F, P, at', ht, fin⟩ =>
    ⟨ds, M, F, _, at', ht, fun x M1 v H1 p dj ev mo rp => ⟨ds, M1, F, _, at'.go dj ev mo, p, fun y M2 w H2 p2 dj2 ev2 mo2 rp2 =>
      hg M2 F x y v w H2 _ _ p2 dj2 mo2 (Rp.ev ev2 x rp) rp2 fun z M3 u H3 p3 dj3 ev3 mo3 rp3 => by
        cases z with
        | bl k =>
          cases rp3
          refine ⟨k, rfl, ?_⟩
          have e3 := ev.trans (ev2.trans ev3)
          have at3 := at'.go dj3 e3 mo3
          cases k with
          | false => exact fin (.bl false) M3 (.bl false) H3 (p3.2 rfl) dj3 e3 mo3 (.bl false)
          | true => exact ⟨ds, M3, F, _, at3, p3.1 rfl, fun z2 M4 u2 H4 p4 dj4 ev4 mo4 rp4 => hg' M4 F y z2 w u2 H4 P _ p4 dj4 mo4 (Rp.ev ev4 y (Rp.ev ev3 y rp2)) rp4 (fin.ev (e3.trans ev4))⟩
        | _ => exact p3.elim⟩⟩
end
/-! ### data as the library has them -/
mutual
def py : D → PyData
  | .non => .none
  | .bl b => .bool b
  | .int i => .int i
  | .str x => .str x
  | .tup xs => .tuple (pyL xs)
  | .lst xs => .list (pyL xs)
  | .ref _ => .none
  | .ty _ => .none
def pyL : List D → List PyData
  | [] => []
  | d :: r => py d :: pyL r
end
theorem pyL_map : ∀ xs : List D, pyL xs = xs.map py
  | [] => rfl
  | d :: r => by rw [pyL, pyL_map r, List.map_cons]
/-- plain data, at most n deep -/
def dkn : Nat → D → Bool
  | _, .non => true
  | _, .bl _ => true
  | _, .int _ => true
  | _, .str x => PySem.PyData.strOk x
  | 0, .tup _ => false
  | 0, .lst _ => false
  | n + 1, .tup xs => xs.all (dkn n)
  | n + 1, .lst xs => xs.all (dkn n)
  | _, .ref _ => false
  | _, .ty _ => false
theorem dkn_fit : ∀ (n : Nat) (d : D), dkn n d = true → (py d).canLay0 = true ∧ (py d).depth ≤ n
  | _, .non, _ => ⟨by simp [py, PyData.canLay0], by simp [py, PyData.depth]⟩
  | _, .bl _, _ => ⟨by simp [py, PyData.canLay0], by simp [py, PyData.depth]⟩
  | _, .int _, _ => ⟨by simp [py, PyData.canLay0], by simp [py, PyData.depth]⟩
  | n, .str x, h => ⟨by
      cases n <;> (simp only [dkn] at h; simp [py, PyData.canLay0, h]), by simp [py, PyData.depth]⟩
  | 0, .tup _, h => by simp [dkn] at h
  | 0, .lst _, h => by simp [dkn] at h
  | n + 1, .tup xs, h => by
    have h' : ∀ x ∈ xs, dkn n x = true := by simpa [dkn] using h
    have z : PyData.canLayAll0 (pyL xs) = true ∧ PyData.depthAll (pyL xs) ≤ n := by
      clear h
      induction xs with
      | nil => exact ⟨by simp [pyL, PyData.canLayAll0], by simp [pyL, PyData.depthAll]⟩
      | cons x r ih =>
        obtain ⟨i1, i2⟩ := ih fun y hy => h' y (List.mem_cons_of_mem _ hy)
        obtain ⟨j1, j2⟩ := dkn_fit n x (h' x List.mem_cons_self)
        exact ⟨by simp [pyL, PyData.canLayAll0, i1, j1], by simp only [pyL, PyData.depthAll]; omega⟩
    exact ⟨by simp only [py, PyData.canLay0]; exact z.1, by simp only [py, PyData.depth]; omega⟩
  | n + 1, .lst xs, h => by
    have h' : ∀ x ∈ xs, dkn n x = true := by simpa [dkn] using h
    have z : PyData.canLayAll0 (pyL xs) = true ∧ PyData.depthAll (pyL xs) ≤ n := by
      clear h
      induction xs with
      | nil => exact ⟨by simp [pyL, PyData.canLayAll0], by simp [pyL, PyData.depthAll]⟩
      | cons x r ih =>
        obtain ⟨i1, i2⟩ := ih fun y hy => h' y (List.mem_cons_of_mem _ hy)
        obtain ⟨j1, j2⟩ := dkn_fit n x (h' x List.mem_cons_self)
        exact ⟨by simp [pyL, PyData.canLayAll0, i1, j1], by simp only [pyL, PyData.depthAll]; omega⟩
    exact ⟨by simp only [py, PyData.canLay0]; exact z.1, by simp only [py, PyData.depth]; omega⟩
  | n, .ref _, h => by cases n <;> simp [dkn] at h
  | n, .ty _, h => by cases n <;> simp [dkn] at h
theorem dkn_shaped {d : D} (h : dkn 64 d = true) : SeqAt.shaped (py d) = true := by
  obtain ⟨h1, h2⟩ := dkn_fit 64 d h
  unfold SeqAt.shaped
  rw [h1, decide_eq_true h2] <;> rfl
theorem dpAll_of {K : Fg} {A : Mem} {H : Hp} : ∀ {xs : List D} {vs : List V}, (∀ x ∈ xs, ∀ v, Rp K A H v x → Dp K H v (py x)) → RpL K A H vs xs → DpAll K H vs (pyL xs)
  | [], [], _, .nil => .nil
  | x :: r, _, h, .cons h1 h2 => .cons (h x List.mem_cons_self _ h1) (dpAll_of (fun y hy => h y (List.mem_cons_of_mem _ hy)) h2)
theorem dkn_dp {K : Fg} {A : Mem} {H : Hp} : ∀ (n : Nat) (d : D) {v : V}, dkn n d = true → Rp K A H v d → Dp K H v (py d)
  | _, .non, _, _, r => by cases r; exact .non
  | _, .bl _, _, _, r => by cases r; exact .bl _
  | _, .int _, _, _, r => by cases r; exact .int _
  | _, .str _, _, _, r => by cases r; exact .str _
  | 0, .tup _, _, h, _ => by simp [dkn] at h
  | 0, .lst _, _, h, _ => by simp [dkn] at h
  | n + 1, .tup xs, _, h, r => by
    have h' : ∀ x ∈ xs, dkn n x = true := by simpa [dkn] using h
    cases r with
    | tup hs hl => exact .tup hs (dpAll_of (fun x hx v rv => dkn_dp n x (h' x hx) rv) hl)
  | n + 1, .lst xs, _, h, r => by
    have h' : ∀ x ∈ xs, dkn n x = true := by simpa [dkn] using h
    cases r with
    | lst hs hn hl => exact .lst (.of hs) (dpAll_of (fun x hx v rv => dkn_dp n x (h' x hx) rv) hl)
  | n, .ref _, _, h, _ => by cases n <;> simp [dkn] at h
  | n, .ty _, _, h, _ => by cases n <;> simp [dkn] at h
/-- == of data -/
abbrev dq (x y : D) : Bool := PyData.eqv (py x) (py y)
def gEq : DO2 := fun x y M P => (dkn 64 x = true ∧ dkn 64 y = true) ∧ P (.bl (dq x y)) M
def gNe : DO2 := fun x y M P => (dkn 64 x = true ∧ dkn 64 y = true) ∧ P (.bl (!dq x y)) M
theorem og_eq {K : Fg} : Op2 K (rEqD K) gEq := fun M F x y v w H P Q ⟨⟨h1, h2⟩, q⟩ dj mo rx ry fin => ⟨_, _, dkn_dp 64 x h1 rx, dkn_dp 64 y h2 ry, dkn_shaped h1, dkn_shaped h2, fin.val dj mo q (.bl _)⟩
theorem og_ne {K : Fg} : Op2 K (rNeD K) gNe := fun M F x y v w H P Q ⟨⟨h1, h2⟩, q⟩ dj mo rx ry fin => ⟨_, _, dkn_dp 64 x h1 rx, dkn_dp 64 y h2 ry, dkn_shaped h1, dkn_shaped h2, fin.val dj mo q (.bl _)⟩
/-- x is None -/
def dIsN : D → Bool
  | .non => true
  | _ => false
theorem dIsN_of {K : Fg} {A : Mem} {H : Hp} {d : D} {v : V} (r : Rp K A H v d) : decide (v = .non) = dIsN d := by
  cases r <;> simp [dIsN]
def gIsN : DO2 := fun x y M P => match y with | .non => P (.bl (dIsN x)) M | _ => False
def gNotN : DO2 := fun x y M P => match y with | .non => P (.bl (!dIsN x)) M | _ => False
theorem og_isN {K : Fg} : Op2 K (fun x y H Q => y = .non ∧ Q (.bl (decide (x = .non))) H) gIsN := fun M F x y v w H P Q q dj mo rx ry fin => by
  unfold gIsN at q
  split at q
  · cases ry; refine ⟨rfl, ?_⟩; rw [dIsN_of rx]; exact fin.val dj mo q (.bl _)
  · exact q.elim
theorem og_notN {K : Fg} : Op2 K (fun x y H Q => y = .non ∧ Q (.bl (!decide (x = .non))) H) gNotN := fun M F x y v w H P Q q dj mo rx ry fin => by
  unfold gNotN at q
  split at q
  · cases ry; refine ⟨rfl, ?_⟩; rw [dIsN_of rx]; exact fin.val dj mo q (.bl _)
  · exact q.elim
/-! ### + -/
/-- two lists, wherever they may be read -/
def rCatS : R2 := fun x y H Q => ∃ l b xs zs, x = .ref l ∧ y = .ref b ∧ Rd H l (.lst xs) ∧ Rd H b (.lst zs) ∧ xs.length + zs.length ≤ sizeLine ∧ ∀ p, H p = none → Q (.ref p) (upd H p (.lst (xs ++ zs)))
theorem op_catS {X : Cx} : OpR X (binaryOp .Add) rCatS := fun pins s σ H x y v u Q I rx ry ⟨l, b, xs, zs, e1, e2, hl, hb, hz, q⟩ => by
  subst e1 e2
  cases rx
  cases ry
  obtain ⟨_, its, n, r, ho⟩ := hl.ok I.hok
  obtain ⟨_, its2, n2, r2, ho2⟩ := hb.ok I.hok
  have z : its.toArray.size + its2.toArray.size ≤ sizeLine := by rw [List.size_toArray, List.size_toArray, ← r.length, ← r2.length]; exact hz
  refine PySem.P.add_list ho ho2 ?_ z
  rw [show its.toArray ++ its2.toArray = (its ++ its2).toArray from by simp]
  exact ⟨.ref _, _, I.lnew (t' := s.toks) (r.append r2) (by rw [List.length_append]; exact hz), rfl, q _ I.fresh⟩
def gAdd : DO2 := fun x y M P => match x, y with
  | .int i, .int j => P (.int (i + j)) M
  | .str i, .str j => i.length + j.length ≤ sizeLine ∧ P (.str (i ++ j)) M
  | .lst xs, .lst ys => xs.length + ys.length ≤ sizeLine ∧ P (.lst (xs ++ ys)) M
  | .tup xs, .tup ys => xs.length + ys.length ≤ sizeLine ∧ P (.tup (xs ++ ys)) M
  | _, _ => False
def rAddS : R2 := fun x y H Q => ∃ i j, x = .str i ∧ y = .str j ∧ i.length + j.length ≤ sizeLine ∧ Q (.str (i ++ j)) H
def rAddA (K : Fg) : R2 := fun x y H Q => rI0 (fun i j => .int (i + j)) x y H Q ∨ rAddS x y H Q ∨ rCatS x y H Q ∨ rCatA K x y H Q
theorem op_addA {X : Cx} : OpR X (binaryOp .Add) (rAddA X.K) := op_add.or (OpR.or (r := rAddS) op_add_str (op_catS.or op_catA))
theorem og_add {K : Fg} : Op2 K (rAddA K) gAdd := fun M F x y v w H P Q q dj mo rx ry fin => by
  unfold gAdd at q
  split at q
  · cases rx; cases ry; exact .inl ⟨_, _, rfl, rfl, fin.val dj mo q (.int _)⟩
  · cases rx; cases ry; exact .inr (.inl ⟨_, _, rfl, rfl, q.1, fin.val dj mo q.2 (.str _)⟩)
  · cases rx with
    | lst hs hn hl =>
      cases ry with
      | lst hs2 hn2 hl2 => exact .inr (.inr (.inl ⟨_, _, _, _, rfl, rfl, .inl hs, .inl hs2, by rw [hl.length, hl2.length]; exact q.1, fin_lst fin dj mo (hl.append hl2) q.2⟩))
  · cases rx with
    | tup hs hl =>
      cases ry with
      | tup hs2 hl2 =>
        refine .inr (.inr (.inr ⟨_, _, _, _, rfl, rfl, hs, hs2, by rw [hl.length, hl2.length]; exact q.1, fun e => ?_, fun _ e => ?_, fun _ _ => fin_tup fin dj mo (hl.append hl2) q.2⟩))
        · subst e
          cases hl
          exact fin.val dj mo q.2 (.tup hs2 hl2)
        · subst e
          cases hl2
          refine fin.val dj mo q.2 (.tup hs ?_)
          rw [List.append_nil]; exact hl
  · exact q.elim
section
variable {X : Cx} {c : DC} {a b e : Expr} {pos : Pos} {ta tb te : DTE}
theorem d_add (ha : DE X c a ta) (hb : DE X c b tb) : DE X c (.BinOp a .Add b pos) (dBin gAdd ta tb) := d_op op_addA og_add ha hb
/-! ### places -/
theorem atI_rp {K : Fg} {A : Mem} {H : Hp} {vs : List V} {xs : List D} {i : Int} {d : D} (r : RpL K A H vs xs) (h : atI xs i = some d) : ∃ v, atI vs i = some v ∧ Rp K A H v d := by
  unfold atI at h ⊢
  rw [r.length]
  cases e : ixN xs.length i with
  | none => rw [e] at h; cases h
  | some j =>
    rw [e] at h
    exact r.get h
def gIx : DO2 := fun x y M P => match x, y with
  | .lst xs, .int i => (match atI xs i with | some d => P d M | none => False)
  | .tup xs, .int i => (match atI xs i with | some d => P d M | none => False)
  | .str z, .int i => z.length ≤ sizeLine ∧ (match atI z.cps.toList i with | some d => P (.str ⟨#[d]⟩) M | none => False)
  | .ref a, .int i => (match M a with | some (.lst xs) => (match atI xs i with | some d => P d M | none => False) | _ => False)
  | _, _ => False
theorem og_ix {K : Fg} : Op2 K (rIx K) gIx := fun M F x y v w H P Q q dj mo rx ry fin => by
  unfold gIx at q
  split at q
  · split at q
    · rename_i e
      cases rx with
      | lst hs hn hl =>
        cases ry
        obtain ⟨u, e2, ru⟩ := atI_rp hl e
        exact .inl ⟨_, _, _, _, rfl, rfl, .of hs, e2, fin.val dj mo q ru⟩
    · exact q.elim
  · split at q
    · rename_i e
      cases rx with
      | tup hs hl =>
        cases ry
        obtain ⟨u, e2, ru⟩ := atI_rp hl e
        exact .inr (.inl ⟨_, _, _, _, rfl, rfl, hs, e2, fin.val dj mo q ru⟩)
    · exact q.elim
  · obtain ⟨hz, q⟩ := q
    split at q
    · rename_i e
      cases rx
      cases ry
      exact .inr (.inr ⟨_, _, _, rfl, rfl, hz, e, fin.val dj mo q (.str _)⟩)
    · exact q.elim
  · split at q
    · rename_i hM
      split at q
      · rename_i e
        cases rx
        cases ry
        obtain ⟨vs, e1, r⟩ := mo _ _ (mj_l hM)
        obtain ⟨u, e2, ru⟩ := atI_rp r e
        exact .inl ⟨_, _, _, _, rfl, rfl, .of e1, e2, fin.val dj mo q ru⟩
      · exact q.elim
    · exact q.elim
  · exact q.elim
theorem d_index (ha : DE X c a ta) (hb : DE X c b tb) (hs : PlainIx b) : DE X c (.Subscript a b pos) (dBin gIx ta tb) := d_ix ix_seq og_ix ha hb hs
end
/-! ### built-in functions by name -/
section
variable {X : Cx} {c : DC} {x : Str} {p pos : Pos} {e : Expr} {es : List Expr} {t : DTA} {id T : String} {r : List V → Hp → VK → Prop} {g : DOL}
theorem d_fn (hc : CallR X (.builtin id) r) (hr : OpL X.K r g) (hg : Gl X x) (hm : X.mg x = none) (hv : bootBuiltins x = some (.builtin id)) (ha : DA X c (e :: es) t) (hn : x ≠ "__name__" := by decide) (hdb : (x == ("__debug__" : Str)) = false := by decide)
    (he : starEach (e :: es) X.env = (false, eval e X.env) :: starEach es X.env := by rfl) (hpl : (backTo pos (starEach es X.env)).any (·.1) = false := by rfl) : DE X c (.Call (.Name x p) (e :: es) [] pos) (dApp g t) :=
  (pe_callB hc hg hm hv ha hn hdb he hpl).imp fun _ _ _ => lf_app hr
theorem d_fty (hc : CallR X (.type T) r) (hr : OpL X.K r g) (hg : Gl X x) (hm : X.mg x = none) (hv : bootBuiltins x = some (.type T)) (ha : DA X c (e :: es) t) (hn : x ≠ "__name__" := by decide) (hdb : (x == ("__debug__" : Str)) = false := by decide)
    (he : starEach (e :: es) X.env = (false, eval e X.env) :: starEach es X.env := by rfl) (hpl : (backTo pos (starEach es X.env)).any (·.1) = false := by rfl) : DE X c (.Call (.Name x p) (e :: es) [] pos) (dApp g t) :=
  (pe_callTy hc hg hm hv ha hn hdb he hpl).imp fun _ _ _ => lf_app hr
end
def gLen : DOL := fun xs M P => match xs with
  | [.lst ys] => P (.int ys.length) M
  | [.tup ys] => P (.int ys.length) M
  | [.str z] => z.length ≤ sizeLine ∧ P (.int z.length) M
  | [.ref a] => (match M a with | some (.lst ys) => P (.int ys.length) M | _ => False)
  | _ => False
theorem ol_len {K : Fg} : OpL K (fun xs H Q => ∃ x n, xs = [x] ∧ LenV K x H n ∧ Q (.int n) H) gLen := fun M F xs vs H P Q q dj mo rs fin => by
  unfold gLen at q
  split at q
  · match vs, rs with
    | [_], .cons (.lst hs hn hl) .nil => exact ⟨_, _, rfl, .inl ⟨_, .of hs, hl.length.symm⟩, fin.val dj mo q (.int _)⟩
  · match vs, rs with
    | [_], .cons (.tup hs hl) .nil => exact ⟨_, _, rfl, .inr ⟨_, hs, hl.length.symm⟩, fin.val dj mo q (.int _)⟩
  · match vs, rs with
    | [_], .cons (.str z) .nil => exact ⟨_, _, rfl, ⟨q.1, rfl⟩, fin.val dj mo q.2 (.int _)⟩
  · split at q
    · rename_i hM
      match vs, rs with
      | [_], .cons (.ref a) .nil =>
        obtain ⟨ws, e1, r⟩ := mo _ _ (mj_l hM)
        exact ⟨_, _, rfl, .inl ⟨_, .of e1, r.length.symm⟩, fin.val dj mo q (.int _)⟩
    · exact q.elim
  · exact q.elim
/-- of what kind -/
def isiB (n : String) : D → Bool
  | .bl _ => n == "bool" || n == "int"
  | .int _ => n == "int"
  | .str _ => n == "str"
  | .tup _ => n == "tuple"
  | .lst _ => n == "list"
  | _ => false
def isiN (n : String) : Bool := ["int", "bool", "str", "tuple", "list"].contains n
def gIsi : DOL := fun xs M P => match xs with
  | [.ref _, _] => False
  | [.ty _, _] => False
  | [x, .ty n] => isiN n = true ∧ P (.bl (isiB n x)) M
  | _ => False
theorem isi_tab : ∀ n, isiN n = true → kitB "NoneType" n = some false ∧ kitB "bool" n = some (n == "bool" || n == "int") ∧ kitB "int" n = some (n == "int") ∧ kitB "str" n = some (n == "str") ∧ kitB "tuple" n = some (n == "tuple") ∧ kitB "list" n = some (n == "list") := fun n h => by
  have e : n = "int" ∨ n = "bool" ∨ n = "str" ∨ n = "tuple" ∨ n = "list" := by simpa [isiN] using h
  rcases e with rfl | rfl | rfl | rfl | rfl <;> exact ⟨by decide +kernel, by decide +kernel, by decide +kernel, by decide +kernel, by decide +kernel, by decide +kernel⟩
end DL

set_option Elab.async false
set_option linter.all false
set_option maxRecDepth 100000
set_option maxHeartbeats 4000000
namespace DL
open PySem PySem.Spec PyProof.Rows L2
/-! ### isinstance -/
theorem rp_ty {K : Fg} {A : Mem} {H : Hp} {x : D} {v : V} (r : Rp K A H v x) (n1 : ∀ a, x ≠ .ref a) (n2 : ∀ n, x ≠ .ty n) : ∃ t : String, TyX K H v (.type t) ∧ ∀ n, isiN n = true → kitB t n = some (isiB n x) := by
  cases r with
  | non => exact ⟨"NoneType", .base .non, fun n h => (isi_tab n h).1⟩
  | bl b => exact ⟨"bool", .base (.bl b), fun n h => (isi_tab n h).2.1⟩
  | int i => exact ⟨"int", .base (.int i), fun n h => (isi_tab n h).2.2.1⟩
  | str z => exact ⟨"str", .base (.str z), fun n h => (isi_tab n h).2.2.2.1⟩
  | ty n => exact absurd rfl (n2 n)
  | ref a => exact absurd rfl (n1 a)
  | tup hs hl =>
    refine ⟨"tuple", ?_, fun n h => (isi_tab n h).2.2.2.2.1⟩
    rcases hs with (h | ⟨o, h⟩) | ⟨o, its, n, e, c, _⟩
    · exact .base (.tup h)
    · exact .fTuple h
    · exact .kTuple e c
  | lst hs hn hl =>
    exact ⟨"list", .base (.lst hs), fun n h => (isi_tab n h).2.2.2.2.2⟩
theorem ol_isi {K : Fg} : OpL K (rIsi K) gIsi := fun M F xs vs H P Q q dj mo rs fin => by
  unfold gIsi at q
  split at q
  · exact q.elim
  · exact q.elim
  · rename_i x n n1 n2
    match vs, rs with
    | [_, _], .cons rx (.cons (.ty _) .nil) =>
      obtain ⟨t, h1, h2⟩ := rp_ty rx (fun a e => n1 a e) (fun m e => n2 m e)
      exact ⟨_, _, _, _, _, rfl, .ty n, h1, kit_ty (h2 n q.1), fin.val dj mo q.2 (.bl _)⟩
  · exact q.elim
/-! ### walks -/
/-- what a list, a tuple, a text gives -/
def iSeq (K : Fg) (te : TE) : TI := fun σ H R => te σ H fun x H1 => (∃ a xs, x = .ref a ∧ SqL K H1 a xs ∧ R (Itl K a) H1) ∨ (∃ a xs, x = .ref a ∧ SqT K H1 a xs ∧ R (Itt K a) H1) ∨ ∃ z, x = .str z ∧ R (Its z) H1
theorem pi_seq {X : Cx} {tg l : Expr} {tl : TE} (hl : PE X l tl) : PI X tg l (iSeq X.K tl) := ⟨fun pins s σ H R I h => by
  refine thn (hl.run pins s σ H _ I h) fun v s1 ⟨x, H1, I1, r1, q1⟩ => ?_
  have fp : ∀ b ∈ [s1.heap.objs.size], FpOk X pins H1 b := fun b hb => by
    rw [List.mem_singleton.mp hb]
    exact I1.fpOk (Nat.le_refl _) (I1.hok.fresh (Nat.le_refl _))
  rcases q1 with ⟨a, xs, rfl, hq, q⟩ | ⟨a, xs, rfl, hq, q⟩ | ⟨z, rfl, q⟩
  · cases r1
    obtain ⟨its, _, p, _⟩ := I1.list hq
    exact wpAny_pyIter_list p.isList ⟨_, _, _, _, H1, rfl, I1.kept (t' := s1.toks) fun b o e => Heap.get?_push_of_some _ e, turn_list a s1.heap.objs.size, ⟨_, Heap.get?_push_size _ rfl, rfl, rfl⟩, fp, q⟩
  · cases r1
    obtain ⟨its, _, p, _⟩ := I1.tuple hq
    exact wpAny_pyIter_tuple (show s1.heap.IsTuple a its.toArray from p) ⟨_, _, _, _, H1, rfl, I1.kept (t' := s1.toks) fun b o e => Heap.get?_push_of_some _ e, turn_tuple a s1.heap.objs.size, ⟨_, Heap.get?_push_size _ rfl, rfl, rfl⟩, fp, q⟩
  · obtain ⟨t, rfl⟩ := r1
    cases hw : z.cps.all (· < 128) with
    | false => exact wpAny_pyIter_wide hw (pi_one (tk := s1.toks) I1 _ (turn_str _ z t _ (.inr rfl)) ⟨_, Heap.get?_push_size _ rfl, rfl, rfl⟩ q)
    | true => exact wpAny_pyIter_ascii hw (pi_one (tk := s1.toks) I1 _ (turn_str _ z t _ (.inl rfl)) ⟨_, Heap.get?_push_size _ rfl, rfl, rfl⟩ q)⟩
/-- the signs of a text -/
def signs (z : Str) : List D := z.cps.toList.map fun c => D.str ⟨#[c]⟩
def seqD : D → Option (List D)
  | .lst xs => some xs
  | .tup xs => some xs
  | .str z => some (signs z)
  | _ => none
def dIter (te : DTE) : DTI := fun ds M P => te ds M fun d M1 => match seqD d with | some xs => P xs M1 | none => False
theorem walkL {K : Fg} {A : Mem} {H : Hp} {a : Addr} {vs : List V} {ds : List D} (hs : H a = some (.lst vs)) (hn : A a = none) (hl : RpL K A H vs ds) : DWalk K (Itl K a) ds A H := fun A1 H1 kp mo => by
  have q : SqL K H1 a vs := .of (kp.lst a vs hs hn).1
  have r := RpL.kp kp ds hl
  have w := walk_list (K := K) (a := a) (xs := vs)
  refine ⟨fun i hi => w.goes i H1 (by rw [hl.length]; exact hi) q, by rw [← hl.length]; exact w.stops H1 q, fun i x H2 d hd y => ?_⟩
  obtain ⟨v, e1, rv⟩ := r.get hd
  obtain ⟨e2, e3⟩ := y
  subst e2
  rw [e3 vs q] at e1
  cases e1
  exact ⟨.refl, mo, rv, fun _ _ h => h⟩
theorem walkT {K : Fg} {A : Mem} {H : Hp} {a : Addr} {vs : List V} {ds : List D} (hs : SqT K H a vs) (hl : RpL K A H vs ds) : DWalk K (Itt K a) ds A H := fun A1 H1 kp mo => by
  have q : SqT K H1 a vs := kp.sqT hs
  have r := RpL.kp kp ds hl
  have w := walk_tup (K := K) (a := a) (xs := vs)
  refine ⟨fun i hi => w.goes i H1 (by rw [hl.length]; exact hi) q, by rw [← hl.length]; exact w.stops H1 q, fun i x H2 d hd y => ?_⟩
  obtain ⟨v, e1, rv⟩ := r.get hd
  obtain ⟨e2, e3⟩ := y
  subst e2
  rw [e3 vs q] at e1
  cases e1
  exact ⟨.refl, mo, rv, fun _ _ h => h⟩
theorem walkS {K : Fg} {A : Mem} {H : Hp} {z : Str} : DWalk K (Its z) (signs z) A H := fun A1 H1 kp mo => by
  have len : (signs z).length = z.cps.size := by unfold signs; simp
  refine ⟨fun i hi => by rw [len] at hi; exact hi, by rw [len]; exact Nat.le_refl _, fun i x H2 d hd y => ?_⟩
  obtain ⟨e2, c, e3, e4⟩ := y
  subst e2 e4
  unfold signs at hd
  rw [List.getElem?_map, Array.getElem?_toList, e3] at hd
  cases hd
  exact ⟨.refl, mo, .str _, fun _ _ h => h⟩
section
variable {X : Cx} {c : DC} {tg e : Expr} {te : DTE} {pos p : Pos}
theorem d_iter (he : DE X c e te) : DI X c tg e (dIter te) := (pi_seq he).imp fun σ H R ⟨ds, M, F, P, at', ht, fin⟩ =>
  ⟨ds, M, F, _, at', ht, fun d M1 v H1 q dj ev mo rp => by
    cases rp with
    | lst hs hn hl => exact .inl ⟨_, _, rfl, .of hs, fin _ M1 H1 _ q dj ev mo (walkL hs hn hl)⟩
    | tup hs hl => exact .inr (.inl ⟨_, _, rfl, hs, fin _ M1 H1 _ q dj ev mo (walkT hs hl)⟩)
    | str z => exact .inr (.inr ⟨_, rfl, fin _ M1 H1 _ q dj ev mo walkS⟩)
    | non => exact q.elim
    | bl b => exact q.elim
    | int i => exact q.elim
    | ty n => exact q.elim
    | ref a => exact q.elim⟩
/-- lo, lo + 1, .. -/
def upto (lo : Int) (n : Nat) : List D := (List.range n).map fun i => D.int (lo + (i : Nat))
theorem walkR {K : Fg} {A : Mem} {H : Hp} {lo : Int} {n : Nat} : DWalk K (Itr lo n) (upto lo n) A H := fun A1 H1 kp mo => by
  have len : (upto lo n).length = n := by unfold upto; simp
  refine ⟨fun i hi => by rw [len] at hi; exact hi, by rw [len]; exact Nat.le_refl _, fun i x H2 d hd y => ?_⟩
  obtain ⟨e2, e3⟩ := y
  subst e2 e3
  unfold upto at hd
  rw [List.getElem?_map] at hd
  cases q : (List.range n)[i]? with
  | none => rw [q] at hd; cases hd
  | some j =>
    rw [q] at hd
    obtain ⟨h1, h2⟩ := List.getElem?_eq_some_iff.mp q
    rw [List.getElem_range] at h2
    subst h2
    cases hd
    exact ⟨.refl, mo, .int _, fun _ _ h => h⟩
def dRng1 (ta : DTA) : DTI := fun ds M P => ta ds M fun xs M1 => match xs with | [.int j] => (-(2 ^ 62) ≤ j ∧ j < 2 ^ 62) ∧ P (upto 0 j.toNat) M1 | _ => False
def dRng2 (ta : DTA) : DTI := fun ds M P => ta ds M fun xs M1 => match xs with | [.int i, .int j] => (-(2 ^ 62) ≤ i ∧ i < 2 ^ 62 ∧ -(2 ^ 62) ≤ j ∧ j < 2 ^ 62) ∧ P (upto i (j - i).toNat) M1 | _ => False
theorem d_rng1 {ta : DTA} (hg : Gl X "range") (hm : X.mg "range" = none) (ha : DA X c [e] ta) (hs : starEach [e] X.env = [(false, eval e X.env)] := by rfl) : DI X c tg (.Call (.Name "range" p) [e] [] pos) (dRng1 ta) :=
  (pi_range1 hg hm ha hs).imp fun σ H R ⟨ds, M, F, P, at', ht, fin⟩ => ⟨ds, M, F, _, at', ht, fun xs M1 vs H1 q dj ev mo rp => by
    split at q
    · match vs, rp with
      | [_], .cons (.int j) .nil => exact ⟨_, rfl, q.1.1, q.1.2, fin _ M1 H1 _ q.2 dj ev mo walkR⟩
    · exact q.elim⟩
theorem d_rng2 {e2 : Expr} {ta : DTA} (hg : Gl X "range") (hm : X.mg "range" = none) (ha : DA X c [e, e2] ta) (hs : starEach [e, e2] X.env = [(false, eval e X.env), (false, eval e2 X.env)] := by rfl) (hs2 : starEach [e2] X.env = [(false, eval e2 X.env)] := by rfl) : DI X c tg (.Call (.Name "range" p) [e, e2] [] pos) (dRng2 ta) :=
  (pi_range2 hg hm ha hs hs2).imp fun σ H R ⟨ds, M, F, P, at', ht, fin⟩ => ⟨ds, M, F, _, at', ht, fun xs M1 vs H1 q dj ev mo rp => by
    split at q
    · match vs, rp with
      | [_, _], .cons (.int i) (.cons (.int j) .nil) => exact ⟨_, _, rfl, q.1, fin _ M1 H1 _ q.2 dj ev mo walkR⟩
    · exact q.elim⟩
/-! zip -/
def zipD (xs ys : List D) : List D := List.zipWith (fun x y => D.tup [x, y]) xs ys
def dZip (ta : DTA) : DTI := fun ds M P => ta ds M fun zs M1 => match zs with
  | [.tup xs, .tup ys] => P (zipD xs ys) M1
  | [.lst xs, .lst ys] => P (zipD xs ys) M1
  | _ => False
theorem zip_yield {K : Fg} {A : Mem} {H : Hp} {vs ws : List V} {xs ys : List D} {i : Nat} {d : D} {T : Addr} {x y : V} (hx : RpL K A H vs xs) (hy : RpL K A H ws ys) (mo : MemOk K A H) (n : H T = none) (h1 : vs[i]? = some x) (h2 : ws[i]? = some y) (hd : (zipD xs ys)[i]? = some d) :
    Ev A H A (upd H T (.tup [x, y])) ∧ MemOk K A (upd H T (.tup [x, y])) ∧ Rp K A (upd H T (.tup [x, y])) (.ref T) d ∧ ∀ b o, H b = some o → upd H T (.tup [x, y]) b = some o := by
  unfold zipD at hd
  rw [List.getElem?_zipWith] at hd
  obtain ⟨dx, e1, r1⟩ := hx.getV h1
  obtain ⟨dy, e2, r2⟩ := hy.getV h2
  rw [e1, e2] at hd
  cases hd
  exact ⟨Ev.new n, mo.new n, .tup (.of upd_same) (RpL.kp (Ev.new n).kp [dx, dy] (.cons r1 (.cons r2 .nil))), (fun b o h => by rw [upd_ne (ne_of_none h n)]; exact h)⟩
theorem zipD_len {xs ys : List D} {vs ws : List V} {K : Fg} {A : Mem} {H : Hp} (hx : RpL K A H vs xs) (hy : RpL K A H ws ys) : (zipD xs ys).length = min vs.length ws.length := by
  unfold zipD
  rw [List.length_zipWith, hx.length, hy.length]
theorem d_zip {e2 : Expr} {ta : DTA} {elts : List Expr} {kk : Nat} {tpos : Pos} (hg : Gl X "zip") (hm : X.mg "zip" = none) (ha : DA X c [e, e2] ta) (hs : starEach [e, e2] X.env = (false, eval e X.env) :: starEach [e2] X.env := by rfl) (hpl : (backTo pos (starEach [e2] X.env)).any (·.1) = false := by rfl) :
    DI X c (.Tuple elts kk tpos) (.Call (.Name "zip" p) [e, e2] [] pos) (dZip ta) := (RZ.pi_zipA hg hm ha hs hpl).imp fun σ H R ⟨ds, M, F, P, at', ht, fin⟩ => ⟨ds, M, F, _, at', ht, fun zs M1 vs H1 q dj ev mo rp => by
    split at q
    · match vs, rp with
      | [_, _], .cons (.tup hs hl) (.cons (.tup hs2 hl2) .nil) =>
        refine ⟨_, _, _, _, rfl, .inr ⟨hs, hs2, fin _ M1 H1 _ q dj ev mo fun A1 H2 kp mo2 => ?_⟩⟩
        have q1 := kp.sqT hs
        have q2 := kp.sqT hs2
        refine ⟨fun i hi => ?_, ⟨_, _, q1, q2, ?_⟩, fun i x H3 d hd y => ?_⟩
        · rw [zipD_len hl hl2] at hi
          exact ⟨_, _, _, _, q1, q2, List.getElem?_eq_getElem (by omega), List.getElem?_eq_getElem (by omega)⟩
        · rw [zipD_len hl hl2]; omega
        · obtain ⟨T, x', y', rfl, nT, rfl, f1, f2⟩ := y
          exact zip_yield (RpL.kp kp _ hl) (RpL.kp kp _ hl2) mo2 nT (f1 _ q1) (f2 _ q2) hd
    · match vs, rp with
      | [_, _], .cons (.lst hs hn hl) (.cons (.lst hs2 hn2 hl2) .nil) =>
        refine ⟨_, _, _, _, rfl, .inl ⟨.of hs, .of hs2, fin _ M1 H1 _ q dj ev mo fun A1 H2 kp mo2 => ?_⟩⟩
        have q1 : SqL X.K H2 _ _ := .of (kp.lst _ _ hs hn).1
        have q2 : SqL X.K H2 _ _ := .of (kp.lst _ _ hs2 hn2).1
        refine ⟨fun i hi => ?_, ⟨_, _, q1, q2, ?_⟩, fun i x H3 d hd y => ?_⟩
        · rw [zipD_len hl hl2] at hi
          exact ⟨_, _, _, _, q1, q2, List.getElem?_eq_getElem (by omega), List.getElem?_eq_getElem (by omega)⟩
        · rw [zipD_len hl hl2]; omega
        · obtain ⟨T, x', y', rfl, nT, rfl, f1, f2⟩ := y
          exact zip_yield (RpL.kp kp _ hl) (RpL.kp kp _ hl2) mo2 nT (f1 _ q1) (f2 _ q2) hd
    · exact q.elim⟩
end
/-! ### texts -/
def strsOf : List D → Option (List Str)
  | [] => some []
  | .str z :: r => (match strsOf r with | some l => some (z :: l) | none => none)
  | _ => none
theorem strsOf_map : ∀ l : List Str, strsOf (l.map D.str) = some l
  | [] => rfl
  | z :: r => by rw [List.map_cons, strsOf, strsOf_map r]
theorem strsOf_rp {K : Fg} {A : Mem} {H : Hp} : ∀ {xs : List D} {l : List Str} {vs : List V}, strsOf xs = some l → RpL K A H vs xs → vs = l.map V.str
  | [], _, _, h, .nil => by cases h; rfl
  | .str z :: r, l, _, h, .cons h1 h2 => by
    rw [strsOf] at h
    cases e : strsOf r with
    | none => rw [e] at h; cases h
    | some l' =>
      rw [e] at h
      cases h
      cases h1
      rw [strsOf_rp e h2, List.map_cons]
  | .non :: _, _, _, h, _ => by simp [strsOf] at h
  | .bl _ :: _, _, _, h, _ => by simp [strsOf] at h
  | .int _ :: _, _, _, h, _ => by simp [strsOf] at h
  | .tup _ :: _, _, _, h, _ => by simp [strsOf] at h
  | .lst _ :: _, _, _, h, _ => by simp [strsOf] at h
  | .ref _ :: _, _, _, h, _ => by simp [strsOf] at h
  | .ty _ :: _, _, _, h, _ => by simp [strsOf] at h
def joinD (a : Str) (xs : List D) (P : Str → Prop) : Prop := match strsOf xs with | some l => (l.map (·.length)).sum + l.length * a.length ≤ 16777216 ∧ P (Txt.join a l) | none => False
def dJoin (ta tb : DTE) : DTE := fun ds M P => ta ds M fun x M1 => match x with
  | .str a => tb ds M1 fun y M2 => (match y with
    | .lst xs => joinD a xs fun z => P (.str z) M2
    | .tup xs => joinD a xs fun z => P (.str z) M2
    | .ref q => (match M2 q with | some (.lst xs) => joinD a xs fun z => P (.str z) M2 | _ => False)
    | _ => False)
  | _ => False
section
variable {X : Cx} {c : DC} {a b e : Expr} {ta tb te : DTE} {pos apos : Pos}
theorem d_join (ha : DE X c a ta) (hb : DE X c b tb) (hs : starEach [b] X.env = [(false, eval b X.env)] := by rfl) (hbase : attributeBase a "join" X.env (eval a X.env) = eval a X.env := by rfl) (hline : (apos.endLine == pos.line) = true := by rfl) :
    DE X c (.Call (.Attribute a "join" apos) [b] [] pos) (dJoin ta tb) := (pe_join ha hb hs hbase hline).imp fun σ H Q ⟨ds, M, F, P, at', ht, fin⟩ => ⟨ds, M, F, _, at', ht, fun x M1 v H1 q dj ev mo rp => by
    cases x with
    | str z =>
      cases rp
      refine ⟨⟨_, rfl⟩, ds, M1, F, _, at'.go dj ev mo, q, fun y M2 w H2 q2 dj2 ev2 mo2 rp2 => ?_⟩
      have go : ∀ {xs : List D} {vs : List V} {p : Addr}, RpL X.K (mj M2 F) H2 vs xs → (SqL X.K H2 p vs ∨ SqT X.K H2 p vs) → (joinD z xs fun s => P (.str s) M2) → ∃ a p', ∃ ys : List Str, V.str z = .str a ∧ [V.ref p] = [V.ref p'] ∧ (SqL X.K H2 p' (ys.map V.str) ∨ SqT X.K H2 p' (ys.map V.str)) ∧ (ys.map (·.length)).sum + ys.length * a.length ≤ 16777216 ∧ Q (.str (Txt.join a ys)) H2 := fun {xs vs p} hl hs hj => by
        unfold joinD at hj
        split at hj
        · rename_i l hl2
          have e := strsOf_rp hl2 hl
          subst e
          exact ⟨z, p, l, rfl, rfl, hs, hj.1, (fin.ev (ev.trans ev2)).val dj2 mo2 hj.2 (.str _)⟩
        · exact hj.elim
      cases rp2 with
      | lst hs hn hl => exact go hl (.inl (.of hs)) q2
      | tup hs hl => exact go hl (.inr hs) q2
      | ref p =>
        dsimp only at q2
        split at q2
        · rename_i hM
          obtain ⟨vs, e1, r⟩ := mo2 _ _ (mj_l hM)
          exact go r (.inl (.of e1)) q2
        · exact q2.elim
      | non => exact q2.elim
      | bl _ => exact q2.elim
      | int _ => exact q2.elim
      | str _ => exact q2.elim
      | ty _ => exact q2.elim
    | _ => exact q.elim⟩
end
/-! ### in -/
def strIn (x y : Str) : Bool := !(Builtin.Str.occurrences y x 0 y.length 1).isEmpty
def flatD : D → Bool
  | .non => true
  | .bl _ => true
  | .int _ => true
  | .str _ => true
  | _ => false
def vOf : D → V
  | .bl b => .bl b
  | .int i => .int i
  | .str z => .str z
  | _ => .non
theorem flat_rp {K : Fg} {A : Mem} {H : Hp} {v : V} {d : D} (f : flatD d = true) (r : Rp K A H v d) : v = vOf d ∧ flatV v = true := by
  cases r <;> first | exact ⟨rfl, rfl⟩ | (simp [flatD] at f)
theorem flat_rpL {K : Fg} {A : Mem} {H : Hp} : ∀ {vs : List V} {ds : List D}, ds.all flatD = true → RpL K A H vs ds → vs = ds.map vOf ∧ vs.all flatV = true
  | _, _, _, .nil => ⟨rfl, rfl⟩
  | _, _, f, .cons r rs => by
    obtain ⟨f1, f2⟩ := Bool.and_eq_true_iff.mp (show (flatD _ && List.all _ flatD) = true from f)
    obtain ⟨e1, g1⟩ := flat_rp f1 r
    obtain ⟨e2, g2⟩ := flat_rpL f2 rs
    refine ⟨by rw [e1, e2]; rfl, ?_⟩
    show (flatV _ && List.all _ flatV) = true
    rw [g1, g2]; rfl
theorem eqV_dq : ∀ {x y : D}, flatD x = true → flatD y = true → eqV (vOf y) (vOf x) = dq y x := by
  intro x y fx fy
  cases x <;> cases y <;> simp_all [flatD, vOf, eqV, dq, py, PyData.eqv]
theorem inV_dq {x : D} (fx : flatD x = true) : ∀ {ys : List D}, ys.all flatD = true → inV (vOf x) (ys.map vOf) = ys.any fun u => dq u x
  | [], _ => rfl
  | y :: r, f => by
    obtain ⟨f1, f2⟩ := Bool.and_eq_true_iff.mp (show (flatD _ && List.all _ flatD) = true from f)
    have := inV_dq fx f2
    unfold inV at this ⊢
    rw [List.map_cons, List.any_cons, List.any_cons, eqV_dq fx f1, this]
def gIn (neg : Bool) : DO2 := fun x y M P => match y with
  | .str z => (match x with | .str u => P (.bl (if neg then !strIn u z else strIn u z)) M | _ => False)
  | .lst ys => (dkn 64 x = true ∧ dkn 64 (.lst ys) = true) ∧ P (.bl (if neg then !(ys.any fun u => dq u x) else ys.any fun u => dq u x)) M
  | .tup ys => (flatD x = true ∧ ys.all flatD = true) ∧ P (.bl (if neg then !(ys.any fun u => dq u x) else ys.any fun u => dq u x)) M
  | _ => False
def rInS (neg : Bool) : R2 := fun x y H Q => ∃ i j, x = .str i ∧ y = .str j ∧ Q (.bl (if neg then !(!(Builtin.Str.occurrences j i 0 j.length 1).isEmpty) else !(Builtin.Str.occurrences j i 0 j.length 1).isEmpty)) H
theorem any_py (x : D) : ∀ ys : List D, ((pyL ys).any fun z => PyData.eqv z (py x)) = ys.any fun u => dq u x
  | [] => rfl
  | y :: r => by rw [pyL, List.any_cons, List.any_cons, any_py x r]
theorem og_in {K : Fg} : Op2 K (fun x y H Q => rInS false x y H Q ∨ rInD K x y H Q ∨ rIn K false x y H Q) (gIn false) := fun M F x y v w H P Q q dj mo rx ry fin => by
  unfold gIn at q
  split at q
  · split at q
    · cases rx; cases ry; exact .inl ⟨_, _, rfl, rfl, fin.val dj mo q (.bl _)⟩
    · exact q.elim
  · rename_i ys
    have h2 := dkn_dp 64 (.lst ys) q.1.2 ry
    refine .inr (.inl ⟨_, pyL ys, dkn_dp 64 x q.1.1 rx, ?_, dkn_shaped q.1.1, ?_, ?_⟩)
    · rw [py] at h2; exact h2
    · have z := dkn_shaped q.1.2; rw [py] at z; exact z
    · rw [any_py]; exact fin.val dj mo q.2 (.bl _)
  · rename_i ys
    obtain ⟨e1, g1⟩ := flat_rp q.1.1 rx
    cases ry with
    | tup hs hl =>
      obtain ⟨e2, g2⟩ := flat_rpL q.1.2 hl
      refine .inr (.inr ⟨_, _, rfl, .inr hs, g1, g2, ?_⟩)
      rw [e1, e2, inV_dq q.1.1 q.1.2]
      exact fin.val dj mo q.2 (.bl _)
  · exact q.elim
theorem og_notin {K : Fg} : Op2 K (fun x y H Q => rInS true x y H Q ∨ rNotInD K x y H Q ∨ rIn K true x y H Q) (gIn true) := fun M F x y v w H P Q q dj mo rx ry fin => by
  unfold gIn at q
  split at q
  · split at q
    · cases rx; cases ry; exact .inl ⟨_, _, rfl, rfl, fin.val dj mo q (.bl _)⟩
    · exact q.elim
  · rename_i ys
    have h2 := dkn_dp 64 (.lst ys) q.1.2 ry
    refine .inr (.inl ⟨_, pyL ys, dkn_dp 64 x q.1.1 rx, ?_, dkn_shaped q.1.1, ?_, ?_⟩)
    · rw [py] at h2; exact h2
    · have z := dkn_shaped q.1.2; rw [py] at z; exact z
    · rw [any_py]; exact fin.val dj mo q.2 (.bl _)
  · rename_i ys
    obtain ⟨e1, g1⟩ := flat_rp q.1.1 rx
    cases ry with
    | tup hs hl =>
      obtain ⟨e2, g2⟩ := flat_rpL q.1.2 hl
      refine .inr (.inr ⟨_, _, rfl, .inr hs, g1, g2, ?_⟩)
      rw [e1, e2, inV_dq q.1.1 q.1.2]
      exact fin.val dj mo q.2 (.bl _)
  · exact q.elim
theorem op_inA {X : Cx} (hu : X.A.units + 65 < cLine) : OpR X (compareOp .In) (fun x y H Q => rInS false x y H Q ∨ rInD X.K x y H Q ∨ rIn X.K false x y H Q) := OpR.or (r := rInS false) op_in_str ((op_inD hu).or op_in_seq)
theorem op_notinA {X : Cx} (hu : X.A.units + 65 < cLine) : OpR X (compareOp .NotIn) (fun x y H Q => rInS true x y H Q ∨ rNotInD X.K x y H Q ∨ rIn X.K true x y H Q) := OpR.or (r := rInS true) op_notin_str ((op_notInD hu).or op_notIn_seq)
/-! ### any, all -/
def blsOf : List D → Option (List Bool)
  | [] => some []
  | .bl z :: r => (match blsOf r with | some l => some (z :: l) | none => none)
  | _ => none
theorem blsOf_map : ∀ l : List Bool, blsOf (l.map D.bl) = some l
  | [] => rfl
  | z :: r => by rw [List.map_cons, blsOf, blsOf_map r]
theorem blsOf_rp {K : Fg} {A : Mem} {H : Hp} : ∀ {xs : List D} {l : List Bool} {vs : List V}, blsOf xs = some l → RpL K A H vs xs → vs = l.map V.bl
  | [], _, _, h, .nil => by cases h; rfl
  | .bl z :: r, l, _, h, .cons h1 h2 => by
    rw [blsOf] at h
    cases e : blsOf r with
    | none => rw [e] at h; cases h
    | some l' =>
      rw [e] at h
      cases h
      cases h1
      rw [blsOf_rp e h2, List.map_cons]
  | .non :: _, _, _, h, _ => by simp [blsOf] at h
  | .str _ :: _, _, _, h, _ => by simp [blsOf] at h
  | .int _ :: _, _, _, h, _ => by simp [blsOf] at h
  | .tup _ :: _, _, _, h, _ => by simp [blsOf] at h
  | .lst _ :: _, _, _, h, _ => by simp [blsOf] at h
  | .ref _ :: _, _, _, h, _ => by simp [blsOf] at h
  | .ty _ :: _, _, _, h, _ => by simp [blsOf] at h
def gAll : DOL := fun xs M P => match xs with | [.lst ys] => (match blsOf ys with | some l => P (.bl (l.all id)) M | none => False) | _ => False
def gAny : DOL := fun xs M P => match xs with | [.lst ys] => (match blsOf ys with | some l => P (.bl (l.any id)) M | none => False) | _ => False
theorem ol_all {K : Fg} : OpL K (rAll K) gAll := fun M F xs vs H P Q q dj mo rs fin => by
  unfold gAll at q
  split at q
  · split at q
    · rename_i e
      match vs, rs with
      | [_], .cons (.lst hs hn hl) .nil =>
        have z := blsOf_rp e hl
        subst z
        exact ⟨_, _, rfl, .of hs, fin.val dj mo q (.bl _)⟩
    · exact q.elim
  · exact q.elim
theorem ol_any {K : Fg} : OpL K (rAny K) gAny := fun M F xs vs H P Q q dj mo rs fin => by
  unfold gAny at q
  split at q
  · split at q
    · rename_i e
      match vs, rs with
      | [_], .cons (.lst hs hn hl) .nil =>
        have z := blsOf_rp e hl
        subst z
        exact ⟨_, _, rfl, .of hs, fin.val dj mo q (.bl _)⟩
    · exact q.elim
  · exact q.elim
/-! ### int(), tuple(), list() -/
def gInt1 : DOL := fun xs M P => match xs with | [.int i] => P (.int i) M | [.bl k] => P (.int (if k then 1 else 0)) M | _ => False
theorem ol_int1 {K : Fg} : OpL K (fun xs H Q => (∃ i, xs = [.int i] ∧ Q (.int i) H) ∨ ∃ k, xs = [.bl k] ∧ Q (.int (if k then 1 else 0)) H) gInt1 := fun M F xs vs H P Q q dj mo rs fin => by
  unfold gInt1 at q
  split at q
  · match vs, rs with
    | [_], .cons (.int i) .nil => exact .inl ⟨i, rfl, fin.val dj mo q (.int _)⟩
  · match vs, rs with
    | [_], .cons (.bl i) .nil => exact .inr ⟨i, rfl, fin.val dj mo q (.int _)⟩
  · exact q.elim
def gTuple : DOL := fun xs M P => match xs with
  | [.lst ys] => P (.tup ys) M
  | [.tup ys] => P (.tup ys) M
  | [.ref a] => (match M a with | some (.lst ys) => P (.tup ys) M | _ => False)
  | _ => False
theorem ol_tuple {K : Fg} : OpL K (fun xs H Q => ∃ p ys, xs = [.ref p] ∧ ((SqL K H p ys ∧ ∀ l, H l = none → Q (.ref l) (upd H l (.tup ys))) ∨ (SqT K H p ys ∧ Q (.ref p) H))) gTuple := fun M F xs vs H P Q q dj mo rs fin => by
  unfold gTuple at q
  split at q
  · match vs, rs with
    | [_], .cons (.lst hs hn hl) .nil => exact ⟨_, _, rfl, .inl ⟨.of hs, fin_tup fin dj mo hl q⟩⟩
  · match vs, rs with
    | [_], .cons (.tup hs hl) .nil => exact ⟨_, _, rfl, .inr ⟨hs, fin.val dj mo q (.tup hs hl)⟩⟩
  · split at q
    · rename_i hM
      match vs, rs with
      | [_], .cons (.ref a) .nil =>
        obtain ⟨ws, e1, r⟩ := mo _ _ (mj_l hM)
        exact ⟨_, _, rfl, .inl ⟨.of e1, fin_tup fin dj mo r q⟩⟩
    · exact q.elim
  · exact q.elim
end DL

set_option Elab.async false
set_option linter.all false
set_option maxRecDepth 100000
set_option maxHeartbeats 4000000
namespace DL
open PySem PySem.Spec PyProof.Rows L2
/-- the built-in names that the text uses stand for themselves -/
structure Blt (mg : Str → Option Value) : Prop where
  b_int : mg "int" = none
  b_bool : mg "bool" = none
  b_str : mg "str" = none
  b_tuple : mg "tuple" = none
  b_list : mg "list" = none
  b_set : mg "set" = none
  b_len : mg "len" = none
  b_isinstance : mg "isinstance" = none
  b_any : mg "any" = none
  b_all : mg "all" = none
  b_sorted : mg "sorted" = none
  b_max : mg "max" = none
  b_min : mg "min" = none
  b_range : mg "range" = none
  b_zip : mg "zip" = none
  b_enumerate : mg "enumerate" = none
/-- a constant of a module -/
structure GCon (K : Fg) (mg : Str → Option Value) (x : Str) (d : D) : Prop where
  ex : ∃ v u, mg x = some u ∧ RelV v u ∧ ∀ A H, Rp K A H v d
theorem d_glob {X : Cx} {c : DC} {x : Str} {pos : Pos} {d : D} (hg : Gl X x) (g : GCon X.K X.mg x d) (hd : (x == ("__debug__" : Str)) = false := by decide) : DE X c (.Name x pos) (dC d) := by
  obtain ⟨v, u, h1, h2, h3⟩ := g.ex
  exact d_const (pe_glob hg h1 h2 hd) h3
theorem d_tyname {X : Cx} {c : DC} {x : Str} {pos : Pos} (n : String) (hg : Gl X x) (hm : X.mg x = none) (hv : bootBuiltins x = some (.type n)) (hn : x ≠ "__name__") (hd : (x == ("__debug__" : Str)) = false := by decide) : DE X c (.Name x pos) (dC (.ty n)) :=
  d_const (pe_bltn hg hm hv (show RelV (.ty n) (.type n) from rfl) hn hd) fun _ _ => .ty n
theorem hu65 {A : Around} {k : Nat} (hr : Room k A) : A.units + 65 < cLine := by have := hr.un; omega
section
variable {X : Cx} {c : DC} {a b e : Expr} {pos : Pos} {ta tb te : DTE}
theorem d_tchain {op op' : CmpOp} {r r' : R2} {g g' : DO2} {tc : DTE} (ho : OpR X (compareOp op) r) (ho' : OpR X (compareOp op') r') (hg : Op2 X.K r g) (hg' : Op2 X.K r' g') (ha : DE X c a ta) (hb : DE X c b tb) (he : DE X c e tc)
    (k : PE X a (Lf X.K c ta) → PE X b (Lf X.K c tb) → PE X e (Lf X.K c tc) → PT X (.Compare a [op, op'] [b, e] pos) (tTest (tChain r r' (Lf X.K c ta) (Lf X.K c tb) (Lf X.K c tc)))) : DT X c (.Compare a [op, op'] [b, e] pos) (dB (dChain g g' ta tb tc)) :=
  (k ha hb he).imp fun σ H Q h => by
    have h2 : Lf X.K c (dChain g g' ta tb tc) σ H (fun x H' => ∃ k, x = .bl k ∧ Q k H') := lt_b h
    obtain ⟨ds, M, F, P, at', ht, fin⟩ := h2
    exact ⟨ds, M, F, _, at', ht, fun x M1 v H1 p dj ev mo rp => ⟨ds, M1, F, _, at'.go dj ev mo, p, fun y M2 w H2 p2 dj2 ev2 mo2 rp2 =>
      hg M2 F x y v w H2 _ _ p2 dj2 mo2 (Rp.ev ev2 x rp) rp2 fun z M3 u H3 p3 dj3 ev3 mo3 rp3 => by
        cases z with
        | bl k =>
          cases rp3
          refine ⟨k, rfl, ?_⟩
          have e3 := ev.trans (ev2.trans ev3)
          have at3 := at'.go dj3 e3 mo3
          cases k with
          | false => exact fin (.bl false) M3 (.bl false) H3 (p3.2 rfl) dj3 e3 mo3 (.bl false)
          | true => exact ⟨ds, M3, F, _, at3, p3.1 rfl, fun z2 M4 u2 H4 p4 dj4 ev4 mo4 rp4 => hg' M4 F y z2 w u2 H4 P _ p4 dj4 mo4 (Rp.ev ev4 y (Rp.ev ev3 y rp2)) rp4 (fin.ev (e3.trans ev4))⟩
        | _ => exact p3.elim⟩⟩
end
end DL

set_option Elab.async false
set_option linter.all false
set_option maxRecDepth 100000
set_option maxHeartbeats 4000000
namespace DL
open PySem PySem.Spec PyProof.Rows L2
/-! ### sets of texts: made of an iterable, sorted, counted -/
def txtOf (e : Int × Value) : Str := match e.2 with | .str x _ => x | _ => Str.empty
def GoodS (w : World) (e : Int × Value) : Prop := ∃ x tk, e.2 = Value.str x tk ∧ e.1 = hashStr w x
/-- the set at a has the members l -/
structure SX (w : World) (h : Heap) (a : Addr) (l : List Str) (es : Array (Int × Value)) (ep : Nat) (t : SetTable) (o : Obj) : Prop where
  at0 : h.get? a = some o
  ex : o.ExactSet
  dt : o.data = .set es ep t
  good : ∀ e ∈ es.toList, GoodS w e
  mem : (es.toList.map txtOf).Perm l
  nd : l.Nodup
  few : es.size < scanBound
  fits : t.fits es.size = true
  ris : Ris t.place.toList
  led : w.params.followText "set-order" = true ∨ t.led = true
def SetS (w : World) (h : Heap) (a : Addr) (l : List Str) : Prop := ∃ es ep t o, SX w h a l es ep t o
section
variable {P : Program} {w : World} {h h' : Heap} {a : Addr} {l : List Str}
theorem SetS.keep (R : SetS w h a l) (k : ∀ o, h.get? a = some o → h'.get? a = some o) : SetS w h' a l :=
  let ⟨es, ep, t, o, r⟩ := R
  ⟨es, ep, t, o, { r with at0 := k o r.at0 }⟩
theorem goodS_elems {l : List (Int × Value)} (g : ∀ e ∈ l, GoodS w e) : ElemsOf (strKind P w) l := fun e he => by
  obtain ⟨x, tk, h1, h2⟩ := g e he
  refine ⟨⟨x, ?_, h2⟩, ?_⟩
  · rw [h1]; exact strKind_is P w x tk
  · rw [h1]; rfl
theorem goodS_is {e : Int × Value} (g : GoodS w e) (k : Str) : (strKind P w).is k e.2 = true ↔ txtOf e = k := by
  obtain ⟨x, tk, h1, _⟩ := g
  unfold txtOf
  rw [h1]
  show (Value.isStrOf k (.str x tk) = true) ↔ x = k
  simp [Value.isStrOf]
theorem goodS_mem {l : List (Int × Value)} (g : ∀ e ∈ l, GoodS w e) (k : Str) : k ∈ l.map txtOf ↔ ∃ e ∈ l, (strKind P w).is k e.2 = true := by
  rw [List.mem_map]
  exact ⟨fun ⟨e, he, q⟩ => ⟨e, he, (goodS_is (g e he) k).2 q⟩, fun ⟨e, he, q⟩ => ⟨e, he, (goodS_is (g e he) k).1 q⟩⟩
end
section
variable {P : Program} {w : World} {A : Around} {E : Value → Shared → Prop} {s : Shared} {a : Addr} {l : List Str}
theorem addS_tail {g : Bool → Sem Unit} (hg : ∀ (b : Bool) (s1 : Shared) (Q' : Unit → Shared → Prop), Q' () s1 → wpAny (model P w) A (g b) Q' E s1)
    {o : Obj} {es : Array (Int × Value)} {ep : Nat} {t : SetTable} (ho : s.heap.get? a = some o) (hex : o.ExactSet) (hd : o.data = .set es ep t)
    {ez : Array (Int × Value)} {tz : SetTable} {lz : List Str} (gz : ∀ e ∈ ez.toList, GoodS w e) (mz : (ez.toList.map txtOf).Perm lz) (nz : lz.Nodup)
    (bz : ez.size < scanBound) (fz : tz.fits ez.size = true) (rz : Ris tz.place.toList) (dz : w.params.followText "set-order" = true ∨ tz.led = true) {dm : Bool} {R : Option Bool → Shared → Prop}
    (hR : ∀ hp, Heap.SameBut a s.heap hp → SetS w hp a lz → R (some true) { s with heap := hp }) :
    wpAny (model P w) A (do
        storeSet a ez tz
        if (!dm && tz.tooFull) = true then do
            g (relayAll tz ez (SetTable.grown ez.size)).2.2
            storeSet a (relayAll tz ez (SetTable.grown ez.size)).1 (relayAll tz ez (SetTable.grown ez.size)).2.1
            pure (some true)
          else pure (some true)) R E s := by
  refine wpAny_bind (wpAny_storeSet_of ho hd ?_ (fits_of_scanBound bz))
  have ho1 := store_at (es' := ez) (t' := tz) ho hd
  have sb1 := Heap.SameBut.update s.heap a (Obj.putSet ez tz)
  split
  · have c1 := relayAll_perm tz ez (SetTable.grown ez.size)
    have c2 := relayAll_fits tz ez (SetTable.grown ez.size)
    have c3 := relayAll_ris tz ez (SetTable.grown ez.size)
    have c4 := relayAll_led tz ez (SetTable.grown ez.size)
    generalize relayAll tz ez (SetTable.grown ez.size) = Z at c1 c2 c3 c4 ⊢
    obtain ⟨ey, ty, gv⟩ := Z
    dsimp only at c1 c2 c3 c4 ⊢
    have hsz : ey.size = ez.size := by rw [← Array.length_toList, c1.length_eq, Array.length_toList]
    have by2 : ey.size < scanBound := hsz ▸ bz
    refine wpAny_bind (hg _ _ _ ?_)
    refine wpAny_bind (wpAny_storeSet_of ho1 rfl ?_ (fits_of_scanBound by2))
    have ho2 := store_at (es' := ey) (t' := ty) ho1 rfl
    exact wpAny_pure (hR _ (sb1.trans (Heap.SameBut.update _ a _)) ⟨ey, _, ty, _, SX.mk ho2 hex rfl (fun e he => gz e (c1.mem_iff.mp he)) ((c1.map txtOf).trans mz) nz by2 c2 c3 (dz.imp id fun z => by rw [c4]; exact z)⟩)
  · exact wpAny_pure (hR _ sb1 ⟨ez, _, tz, _, SX.mk ho1 hex rfl gz mz nz bz fz rz dz⟩)
def addT (l : List Str) (x : Str) : List Str := if x ∈ l then l else l ++ [x]
theorem addS_hashed {k : Str} {tk : Tok} {Q : Bool → Shared → Prop} (R : SetS w s.heap a l) (room : l.length + 1 < scanBound)
    (hQ : ∀ hp b, Heap.SameBut a s.heap hp → SetS w hp a (addT l k) → Q b { s with heap := hp }) :
    wpAny (model P w) A (setAddHashed a (.str k tk) ((strKind P w).hash k)) Q E s := by
  obtain ⟨es, ep, t, o, r⟩ := R
  have hn : es.size = l.length := by rw [← Array.length_toList, ← List.length_map (f := txtOf), r.mem.length_eq]
  have hkey : (strKind P w).is k (.str k tk) = true := strKind_is P w k tk
  have hsc : (Value.str k tk).scannable = true := rfl
  have hel : ElemsOf (strKind P w) es.toList := goodS_elems r.good
  unfold setAddHashed setAddHashedIn
  refine wpAny_holding (wpAny_bind (wpAny_setState_of r.at0 r.dt r.fits ?_))
  dsimp only
  rw [byScan_of hsc r.few hel]
  simp only [↓reduceIte]
  unfold setAddByScan
  refine wpAny_bind ?_
  refine wpAny_bind (wpAny_rule ?_)
  refine wpAny_bind (wpAny_setScan_of hkey r.at0 r.dt r.fits hel ?_)
  cases hfi : List.findIdx? (fun e => (strKind P w).is k e.2) es.toList with
  | some j =>
    dsimp only
    obtain ⟨hj, pj, _⟩ := List.findIdx?_eq_some_iff_getElem.mp hfi
    have hk : k ∈ l := r.mem.mem_iff.mp ((goodS_mem (P := P) r.good k).2 ⟨es.toList[j], List.getElem_mem hj, pj⟩)
    refine wpAny_pure (wpAny_pure ?_)
    have q := hQ s.heap false (Heap.SameBut.refl a s.heap) (by rw [addT, if_pos hk]; exact ⟨es, ep, t, o, r⟩)
    exact q
  | none =>
    dsimp only
    have hk : k ∉ l := fun z => by
      obtain ⟨e, he, q⟩ := (goodS_mem (P := P) r.good k).1 (r.mem.mem_iff.mpr z)
      have c := List.findIdx?_eq_none_iff.mp hfi e he
      rw [q] at c
      cases c
    have hgw : ∀ (b : Bool) {s1 : Shared} {Q' : Unit → Shared → Prop}, Q' () s1 → wpAny (model P w) A (match b with | true => rule "set.scan.the-table-gave-way" | false => pure ()) Q' E s1 :=
      fun b s1 Q' q => by cases b <;> first | exact wpAny_pure q | exact wpAny_rule q
    have c1 := layNew_perm t es ((strKind P w).hash k) (.str k tk)
    have c2 := layNew_fits t es ((strKind P w).hash k) (.str k tk)
    have c3 := layNew_ris t es ((strKind P w).hash k) (.str k tk) r.ris
    have c4 := layNew_led t es ((strKind P w).hash k) (.str k tk)
    generalize layNew t es ((strKind P w).hash k) (.str k tk) = Z at c1 c2 c3 c4 ⊢
    obtain ⟨ez, tz, dm, gv⟩ := Z
    dsimp only at c1 c2 c3 c4 ⊢
    rw [Array.toList_push] at c1
    have gz : ∀ e ∈ ez.toList, GoodS w e := fun e he => by
      rcases List.mem_append.mp (c1.mem_iff.mp he) with z | z
      · exact r.good e z
      · rw [List.mem_singleton.mp z]; exact ⟨k, tk, rfl, rfl⟩
    have mz : (ez.toList.map txtOf).Perm (addT l k) := by
      rw [addT, if_neg hk]
      have q := c1.map txtOf
      rw [List.map_append] at q
      exact q.trans (r.mem.append_right _)
    have nz : (addT l k).Nodup := by
      rw [addT, if_neg hk]
      exact (List.perm_append_singleton k l).nodup_iff.mpr (List.nodup_cons.mpr ⟨hk, r.nd⟩)
    have hsz : ez.size = l.length + 1 := by
      rw [← Array.length_toList, ← List.length_map (f := txtOf), mz.length_eq, addT, if_neg hk, List.length_append]; rfl
    have bz : ez.size < scanBound := hsz ▸ room
    have dz : w.params.followText "set-order" = true ∨ tz.led = true := r.led.imp id fun z => by rw [c4]; exact z
    refine wpAny_bind (hgw _ ?_)
    split
    · refine wpAny_bind ?_
      rw [hashByValue_scannable 8 hsc]
      refine wpAny_pure ?_
      refine addS_tail ?_ r.at0 r.ex r.dt gz mz nz bz ?_ ?_ ?_ ?_
      · intro b s1 Q' q; cases b <;> first | exact wpAny_pure q | exact wpAny_rule q
      · first | (split <;> first | exact c2 | exact SetTable.fits_plain_off c2) | exact c2
      · first | (split <;> exact c3) | exact c3
      · first | (split <;> exact dz) | exact dz
      · intro hp sb z; dsimp only; exact wpAny_pure (hQ hp _ sb z)
    · refine wpAny_bind (wpAny_pure ?_)
      simp only [↓reduceIte]
      refine addS_tail ?_ r.at0 r.ex r.dt gz mz nz bz c2 c3 dz ?_
      · intro b s1 Q' q; cases b <;> first | exact wpAny_pure q | exact wpAny_rule q
      · intro hp sb z; dsimp only; exact wpAny_pure (hQ hp _ sb z)
end
def setT (xs : List Str) : List Str := xs.foldl addT []
theorem foldl_addT_snoc (xs : List Str) (x : Str) (l : List Str) : (xs ++ [x]).foldl addT l = addT (xs.foldl addT l) x := by rw [List.foldl_append]; rfl
theorem length_addT (l : List Str) (x : Str) : (addT l x).length ≤ l.length + 1 := by
  unfold addT; split
  · omega
  · rw [List.length_append]; exact Nat.le_refl _
theorem length_foldT : ∀ (xs l : List Str), (xs.foldl addT l).length ≤ l.length + xs.length
  | [], l => by simp
  | x :: xs, l => by
    have q := length_foldT xs (addT l x)
    have q2 := length_addT l x
    simp only [List.foldl_cons, List.length_cons]
    omega
theorem mem_foldT : ∀ (xs l : List Str) (y : Str), y ∈ xs.foldl addT l ↔ y ∈ l ∨ y ∈ xs
  | [], l, y => by simp
  | x :: xs, l, y => by
    rw [List.foldl_cons, mem_foldT xs, List.mem_cons]
    unfold addT
    split
    · rename_i h
      exact ⟨fun z => z.elim .inl (fun z => .inr (.inr z)), fun z => z.elim .inl (fun z => z.elim (fun z => .inl (z ▸ h)) .inr)⟩
    · rw [List.mem_append, List.mem_singleton]
      exact ⟨fun z => z.elim (fun z => z.elim .inl fun z => .inr (.inl z)) (fun z => .inr (.inr z)), fun z => z.elim (fun z => .inl (.inl z)) fun z => z.elim (fun z => .inl (.inr z)) .inr⟩
theorem nodup_foldT : ∀ (xs l : List Str), l.Nodup → (xs.foldl addT l).Nodup
  | [], l, h => h
  | x :: xs, l, h => by
    rw [List.foldl_cons]
    refine nodup_foldT xs _ ?_
    unfold addT; split
    · exact h
    · rename_i z
      exact (List.perm_append_singleton x l).nodup_iff.mpr (List.nodup_cons.mpr ⟨z, h⟩)
theorem mem_setT {xs : List Str} {y : Str} : y ∈ setT xs ↔ y ∈ xs := by
  unfold setT; rw [mem_foldT]; simp
theorem nodup_setT (xs : List Str) : (setT xs).Nodup := nodup_foldT xs [] List.nodup_nil
theorem length_setT (xs : List Str) : (setT xs).length ≤ xs.length := by
  have q := length_foldT xs []
  rw [List.length_nil, Nat.zero_add] at q
  exact q
end DL

set_option Elab.async false
set_option linter.all false
set_option maxRecDepth 100000
set_option maxHeartbeats 4000000
namespace DL
open PySem PySem.Spec PyProof.Rows L2
section
variable {P : Program} {w : World} {A : Around} {R : Result → Shared → Prop} {I : Addr} {fp wr : List Addr} {G : Array GenState → Array GenState → Prop} {n : Nat} {Pv : Nat → Value → Prop} {St : Nat → Shared → Prop}
theorem take_more {xs : List Str} {i : Nat} (h : i < xs.length) : setT (xs.take (i + 1)) = addT (setT (xs.take i)) (xs.getD i Str.empty) := by
  have e : xs.take (i + 1) = xs.take i ++ [xs.getD i Str.empty] := by
    rw [List.take_succ, List.getElem?_eq_getElem h, List.getD_eq_getElem?_getD, List.getElem?_eq_getElem h]; rfl
  unfold setT
  rw [e, foldl_addT_snoc]
theorem loopS (W : WalksS P w A.in1 I fp wr G n Pv St) (S : Addr) (hSf : S ∉ fp) (xs : List Str) (hsz : xs.length = n) (hb : n + 1 < scanBound)
    (hval : ∀ i v, Pv i v → ∃ t, v = .str (xs.getD i Str.empty) t) :
    ∀ (k i : Nat) (s : Shared), n - i = k → i ≤ n → St i s → SetS w s.heap S (setT (xs.take i)) →
      (∀ s', Moved (S :: wr) G s s' → SetS w s'.heap S (setT xs) → R (.ok (.ret .none)) s') →
      codeAny (model P w) A (.builtin "set.update.loop" ⟨[.ref S, .ref I], []⟩) R s := by
  have hSw : S ∉ wr := fun h => hSf (W.sub _ h)
  have hsub : ∀ b ∈ wr, b ∈ S :: wr := fun b hb => List.mem_cons_of_mem _ hb
  intro k
  induction k with
  | zero =>
    intro i s hk hi hst hS hR
    obtain rfl : i = n := by omega
    refine codeAny_builtin PyProof.Rows.F.entry_set_update_loop ?_
    rw [Around.under_plainId PyProof.Rows.F.plain_set_update_loop _]
    show wpAny _ A.in1 (pyNext (.ref I) >>= _) _ _ s
    refine wpAny_bind (W.done s _ _ hst fun s' hm => ?_)
    show wpAny _ A.in1 (ret Value.none) _ _ s'
    refine wpAny_pure (hR s' (hm.mono hsub) ?_)
    have q := hS.keep fun o ho => hm.heap S _ hSw ho
    rw [List.take_of_length_le (Nat.le_of_eq hsz)] at q
    exact q
  | succ k ih =>
    intro i s hk hi hst hS hR
    have hlt : i < n := by omega
    refine codeAny_builtin PyProof.Rows.F.entry_set_update_loop ?_
    rw [Around.under_plainId PyProof.Rows.F.plain_set_update_loop _]
    show wpAny _ A.in1 (pyNext (.ref I) >>= _) _ _ s
    refine wpAny_bind (W.item i s _ _ hlt hst fun v s' hP hst' hm => ?_)
    obtain ⟨t, rfl⟩ := hval i v hP
    have hS' : SetS w s'.heap S (setT (xs.take i)) := hS.keep fun o ho => hm.heap S _ hSw ho
    show wpAny _ A.in1 (holding [Value.str (xs.getD i Str.empty) t] (setAdd S (.str (xs.getD i Str.empty) t)) >>= _) _ _ s'
    refine wpAny_bind (wpAny_holding ?_)
    unfold setAdd
    refine wpAny_holding ?_
    refine wpAny_bind ((PySem.strKind P w).pyHash (k := xs.getD i Str.empty) (strKind_is _ _ _ _) ?_)
    have hl : (setT (xs.take i)).length + 1 < scanBound := by
      have q := length_setT (xs.take i)
      rw [List.length_take] at q
      omega
    refine addS_hashed (s := { s' with toks := s'.toks + 1 }) hS' hl fun hp b hsb hS2 => ?_
    rw [← take_more (by omega)] at hS2
    refine wpAny_pure ⟨plainId_quiet PyProof.Rows.F.plain_set_update_loop _, ih (i + 1) _ (by omega) hlt (W.frame _ s' _ _ hst' (Nat.le_succ _) fun b hb o e => ?_) hS2 fun s'' hm'' hS'' => ?_⟩
    · rw [hsb.2 b (fun h : b = S => hSf (by rw [← h]; exact hb))]; exact e
    · refine hR s'' (Moved.trans W.gtrans ((hm.mono hsub).then_heap (Nat.le_succ _) fun b o hb e => ?_) hm'') hS''
      rw [hsb.2 b (fun h : b = S => hb (by rw [h]; exact List.mem_cons_self))]; exact e
end
/-- an iterator over texts, made ahead of nothing -/
structure ItS (P : Program) (w : World) (s s2 : Shared) (I S : Addr) (xs : List Str) : Prop where
  keep : ∀ b o, s.heap.get? b = some o → s2.heap.get? b = some o
  gens : s2.gens = s.gens
  drawn : s2.drawn = s.drawn
  os : s2.os = s.os
  new : s.heap.objs.size ≤ I
  go : ∃ fp St Pv, S ∉ fp ∧ (∀ A' : Around, A'.handled = none → Walks P w A' I fp [I] xs.length Pv St) ∧ (∀ i v, Pv i v → ∃ t, v = .str (xs.getD i Str.empty) t) ∧ St 0 s2.heap
def mtSet (w : World) : Obj := { cls := .type "set", dict := none, data := .set #[] 0 (.fresh 0 0 (!w.params.followText "set-order")) }
theorem setS_fresh {h : Heap} (w : World) : SetS w (h.push (mtSet w)) h.objs.size [] := by
  refine ⟨#[], 0, .fresh 0 0 (!w.params.followText "set-order"), mtSet w, ?_⟩
  refine ⟨Heap.get?_push_size _ rfl, ⟨rfl, rfl, rfl⟩, rfl, (fun e he => by simp at he), .nil, .nil, (by decide), (by rfl), List.Pairwise.nil, ?_⟩
  show _ ∨ (!w.params.followText "set-order") = true
  cases w.params.followText "set-order"
  · exact .inr rfl
  · exact .inl rfl
section
variable {P : Program} {w : World} {A : Around} {E : Value → Shared → Prop} {s : Shared}
theorem code_led1 (u : Value) {Q1 : Value → Shared → Prop} (h : Q1 (.ref s.heap.objs.size) { s with heap := s.heap.push (mtSet w) }) :
    codeAny (model P w) A (.call (.builtin "set.__new__") ⟨[.type "set", u], []⟩) (wants Q1 E) s := by
  refine codeAny_of_tree ?_
  show wpAny _ A.in1 (do checkBuiltinCall "set.__new__" ⟨[.type "set", u], []⟩; again (.builtin "set.__new__" ⟨[.type "set", u], []⟩)) _ _ s
  refine wpAny_bind (wpAny_of_eq (PySem.F.newCall_set_1 u) (wpAny_pure ⟨plainId_quiet PySem.F.plain_set_new _, codeAny_builtin PySem.F.entry_set_new ?_⟩))
  rw [Around.under_plainId PySem.F.plain_set_new _]
  unfold Builtin.«set.__new__» Builtin.Frozenset.newClass
  have hsub := sub_set_self
  obtain ⟨hp, g, d, tk, os⟩ := s
  dsimp only
  wp_walk
  refine wpAny_askSetting (wpAny_pure ?_)
  dsimp only
  simp only [newObj]
  refine wpAny_bind (wpAny_alloc (wpAny_pure ?_))
  exact wpAny_pure h
theorem upd_from {u : Value} {T : String} {S : Addr} {xs : List Str} {A : Around} {s : Shared} {Q : Unit → Shared → Prop} (hh : A.handled = none) (hT : s.TypeIs u T) (h1 : isSubtype (.type T) (.type "set") = pure false) (h2 : isSubtype (.type T) (.type "frozenset") = pure false) (h3 : (Value.type T == Value.type "dict") = false)
    (hit : ∀ (A' : Around) (Q' : Value → Shared → Prop), A'.handled = none → (∀ s2 I, ItS P w s s2 I S xs → Q' (.ref I) s2) → wpAny (model P w) A' (pyIter u) Q' E s)
    (hs : SetS w s.heap S []) (hb : xs.length + 1 < scanBound)
    (hQ : ∀ hp tk, SetS w hp S (setT xs) → (∀ b o, b ≠ S → s.heap.get? b = some o → hp.get? b = some o) → Q () { s with heap := hp, toks := tk }) :
    wpAny (model P w) A (Builtin.Frozenset.updateFrom "set.__init__" S u) Q E s := by
  unfold Builtin.Frozenset.updateFrom
  refine wpAny_bind (m := Builtin.Frozenset.isAnySet u) ?_
  unfold Builtin.Frozenset.isAnySet
  have hd : ∀ {Q' : Bool → Shared → Prop} {n : String} (hn : isSubtype (.type T) (.type n) = pure false), Q' false s → wpAny (model P w) A (isInstance u (.type n)) Q' E s := fun hn q => wpAny_isInstance hT hn q
  unfold orM
  refine wpAny_bind (hd h1 ?_)
  refine hd h2 ?_
  refine wpAny_bind (wpAny_typeOf hT ?_)
  rw [h3]
  show wpAny (model P w) A (pyIter u >>= _) _ _ _
  refine wpAny_bind (hit A _ hh fun s2 I it => ?_)
  obtain ⟨fp, St, Pv, hSf, hW, hval, hst⟩ := it.go
  refine wpAny_bind (wpAny_runValue ?_)
  have hlt : S < s.heap.objs.size := by
    obtain ⟨_, _, _, _, r⟩ := hs
    exact Heap.lt_size r.at0
  have hs2 : SetS w s2.heap S (setT (xs.take 0)) := hs.keep fun o e => it.keep S o e
  refine loopS ((hW A.in1 hh).toS) S hSf xs rfl hb hval xs.length 0 s2 (by omega) (Nat.zero_le _) hst hs2 fun s' hm hS' => ?_
  obtain ⟨hp, g', d', tk', os'⟩ := s'
  have eg : g' = s.gens := Eq.trans hm.gens it.gens
  have ed : d' = s.drawn := Eq.trans hm.drawn it.drawn
  have eo : os' = s.os := Eq.trans hm.os it.os
  subst eg; subst ed; subst eo
  refine wpAny_pure (hQ hp tk' hS' fun b o hb e => ?_)
  have hbI : b ≠ I := fun z => Nat.lt_irrefl _ (Nat.lt_of_lt_of_le (Heap.lt_size e) (z ▸ it.new))
  refine hm.heap b o (fun z => ?_) (it.keep b o e)
  rcases List.mem_cons.mp z with z | z
  · exact hb z
  · exact hbI (List.mem_singleton.mp z)
theorem call_setS {u : Value} {T : String} {xs : List Str} {Q : Value → Shared → Prop} (hh : A.handled = none) (hT : s.TypeIs u T) (h1 : isSubtype (.type T) (.type "set") = pure false) (h2 : isSubtype (.type T) (.type "frozenset") = pure false) (h3 : (Value.type T == Value.type "dict") = false)
    (hit : ∀ (A' : Around) (E' : Value → Shared → Prop) (s1 : Shared) (Q' : Value → Shared → Prop), A'.handled = none → (∀ b o, s.heap.get? b = some o → s1.heap.get? b = some o) → s.heap.objs.size < s1.heap.objs.size → (∀ s2 I, ItS P w s1 s2 I s.heap.objs.size xs → Q' (.ref I) s2) → wpAny (model P w) A' (pyIter u) Q' E' s1)
    (hb : xs.length + 1 < scanBound)
    (hQ : ∀ hp tk, SetS w hp s.heap.objs.size (setT xs) → (∀ b o, s.heap.get? b = some o → hp.get? b = some o) → Q (.ref s.heap.objs.size) { s with heap := hp, toks := tk }) :
    wpAny (model P w) A (call (.type "set") [u]) Q E s := by
  obtain ⟨c, tl, hmro⟩ := PySem.F.called_set.mro
  have hmade := PySem.F.called_set.made
  have hsub := PySem.F.called_set.sub
  refine wpAny_call (codeAny_of_tree ?_)
  show wpAny _ _ (callAny (.type "set") _) _ _ _
  refine wpAny_pure ⟨Code.quiet_builtin _ (by decide +kernel), codeAny_builtin PySem.F.entry_type_call ?_⟩
  rw [Around.under_plain (weight_type_call_type "set" [u] []) rfl]
  have g1 := PySem.F.called_set.notType
  have g2 := PySem.F.called_set.canCreate
  have hct := PySem.F.typeCall_set_1 u
  repeat (any_goals (first | assumption | wp_step))
  refine codeAny_mono (code_led1 u (E := E) (Q1 := fun obj s1 => obj = .ref s.heap.objs.size ∧ s1 = { s with heap := s.heap.push (mtSet w) }) ⟨rfl, rfl⟩) fun r s1 hr => ?_
  cases r with
  | error e => exact hr
  | ok fl =>
    cases fl with
    | ret obj =>
      obtain ⟨rfl, rfl⟩ := hr
      have hS : (s.heap.push (mtSet w)).get? s.heap.objs.size = some (mtSet w) := Heap.get?_push_size _ rfl
      have hTs : Shared.TypeIs { s with heap := s.heap.push (mtSet w) } (.ref s.heap.objs.size) "set" := ⟨_, hS, rfl⟩
      have hTu : Shared.TypeIs { s with heap := s.heap.push (mtSet w) } u T := by
        cases u
        all_goals first
          | exact hT
          | exact (let ⟨o, e, c⟩ := hT; ⟨o, Heap.get?_push_of_some _ e, c⟩)
      have hli := PySem.F.called_set.init.lookup
      have hbi := PySem.F.called_set.init.bind (.ref s.heap.objs.size)
      repeat (any_goals (first | assumption | wp_step))
      refine codeAny_mono (codeAny_call_builtin (R := wants (fun r s2 => r = .none ∧ Q (.ref s.heap.objs.size) s2) E) PySem.F.called_set.init.plain PySem.F.entry_set_init (check_set_init_1 hTs ?_)) fun r2 s2 hr2 => ?_
      · unfold Builtin.«set.__init__» noKeywords
        generalize hU : Builtin.Frozenset.updateFrom = U
        wp_walk
        subst hU
        refine upd_from (s := { s with heap := s.heap.push (mtSet w) }) hh hTu h1 h2 h3 (fun A' Q' hA' q => hit A' _ _ Q' hA' (fun b o e => Heap.get?_push_of_some _ e) (by show _ < (s.heap.push (mtSet w)).objs.size; rw [Heap.size_push]; exact Nat.lt_succ_self _) q) (setS_fresh w) hb fun hp tk r k => ?_
        wp_walk
        exact ⟨rfl, hQ hp tk r fun b o e => k b o (fun z => Nat.lt_irrefl _ (z ▸ Heap.lt_size e)) (Heap.get?_push_of_some _ e)⟩
      · cases r2 with
        | error e => exact hr2
        | ok fl2 =>
          cases fl2 with
          | ret r =>
            obtain ⟨rfl, hq⟩ := hr2
            repeat (any_goals (first | assumption | wp_step))
          | _ => exact hr2.elim
    | _ => exact hr.elim
end
end DL

set_option Elab.async false
set_option linter.all false
set_option maxRecDepth 100000
set_option maxHeartbeats 4000000
namespace DL
open PySem PySem.Spec PyProof.Rows L2
/-! ### texts in order -/
def leT (x y : Str) : Prop := ltCps y.cps.toList x.cps.toList = false
theorem leT_iff {x y : Str} : leT x y ↔ x.cps.toList ≤ y.cps.toList := by
  unfold leT
  rw [ltCps_eq, decide_eq_false_iff_not, List.not_lt]
theorem leT_anti {x y : Str} (a : leT x y) (b : leT y x) : x = y := by
  have e := List.le_antisymm (leT_iff.mp a) (leT_iff.mp b)
  obtain ⟨⟨u⟩⟩ := x
  obtain ⟨⟨v⟩⟩ := y
  have e' : u = v := e
  rw [e']
theorem leT_total (x y : Str) : leT x y ∨ leT y x := by
  rw [leT_iff, leT_iff]; exact List.le_total _ _
theorem leT_trans {x y z : Str} (a : leT x y) (b : leT y z) : leT x z := leT_iff.mpr (List.le_trans (leT_iff.mp a) (leT_iff.mp b))
def insT (x : Str) : List Str → List Str
  | [] => [x]
  | y :: r => if ltCps y.cps.toList x.cps.toList then y :: insT x r else x :: y :: r
def srtT : List Str → List Str
  | [] => []
  | x :: r => insT x (srtT r)
theorem insT_perm (x : Str) : ∀ l : List Str, (insT x l).Perm (x :: l)
  | [] => .refl _
  | y :: r => by
    unfold insT
    split
    · exact ((insT_perm x r).cons y).trans (.swap x y r)
    · exact .refl _
theorem srtT_perm : ∀ l : List Str, (srtT l).Perm l
  | [] => .refl _
  | x :: r => (insT_perm x _).trans ((srtT_perm r).cons x)
theorem insT_sorted (x : Str) : ∀ l : List Str, l.Pairwise leT → (insT x l).Pairwise leT
  | [], _ => List.pairwise_singleton _ _
  | y :: r, h => by
    unfold insT
    obtain ⟨h1, h2⟩ := List.pairwise_cons.mp h
    split
    · rename_i c
      have c' : leT y x := by
        rcases leT_total y x with z | z
        · exact z
        · unfold leT at z; rw [c] at z; cases z
      refine List.pairwise_cons.mpr ⟨fun z hz => ?_, insT_sorted x r h2⟩
      rcases List.mem_cons.mp ((insT_perm x r).mem_iff.mp hz) with e | e
      · rw [e]; exact c'
      · exact h1 z e
    · rename_i c
      have c' : leT x y := by unfold leT; exact Bool.eq_false_iff.mpr c
      refine List.pairwise_cons.mpr ⟨fun z hz => ?_, h⟩
      rcases List.mem_cons.mp hz with e | e
      · rw [e]; exact c'
      · exact leT_trans c' (h1 z e)
theorem srtT_sorted : ∀ l : List Str, (srtT l).Pairwise leT
  | [] => .nil
  | x :: r => insT_sorted x _ (srtT_sorted r)
theorem risingS_pair : ∀ (l : List Str) (p : Str), risingS p l = true → (p :: l).Pairwise leT
  | [], p, _ => List.pairwise_singleton _ _
  | x :: r, p, h => by
    have h' : (!ltCps x.cps.toList p.cps.toList) = true ∧ risingS x r = true := by simpa [risingS] using h
    have q := risingS_pair r x h'.2
    have c : leT p x := by unfold leT; exact Bool.not_eq_true' _ ▸ h'.1
    refine List.pairwise_cons.mpr ⟨fun z hz => ?_, q⟩
    rcases List.mem_cons.mp hz with e | e
    · rw [e]; exact c
    · exact leT_trans c ((List.pairwise_cons.mp q).1 z e)
theorem sortedS_pair : ∀ {l : List Str}, sortedS l = true → l.Pairwise leT
  | [], _ => .nil
  | x :: r, h => risingS_pair r x h
theorem srtT_eq {l ys : List Str} (p : ys.Perm l) (h : sortedS ys = true) : ys = srtT l :=
  List.Perm.eq_of_pairwise (le := leT) (fun _ _ _ _ a b => leT_anti a b) (sortedS_pair h) (srtT_sorted l) (p.trans (srtT_perm l).symm)
/-! ### set(xs), sorted(set), len(set) -/
def SetO (w : World) (a : Addr) (l : List Str) : HO := .ext fun h => SetS w h a l
def rSetS (K : Fg) (w : World) : List V → Hp → VK → Prop := fun vs H Q => ∃ xs : List Str, xs.length + 1 < scanBound ∧ ((∃ a, vs = [.ref a] ∧ SqL K H a (xs.map V.str)) ∨ (∃ z : Str, vs = [.str z] ∧ xs = z.cps.toList.map fun c => ⟨#[c]⟩)) ∧
  ∀ p, H p = none → Q (.ref p) (upd H p (SetO w p (setT xs)))
section
variable {X : Cx}
theorem setO_ok {P : Program} {w : World} {H : Hp} {h : Heap} {a : Addr} {l : List Str} (R : SetS w h a l) : ObjOk P w H h a (SetO w a l) :=
  ⟨R, let ⟨_, _, _, o, r⟩ := R; ⟨o, r.at0⟩, fun _ _ p k => p.keep k⟩
theorem cr_setS (hc : X.calm = true) : CallR X (.type "set") (rSetS X.K X.w) := by
  intro pins s σ H vs us Q I r h
  obtain ⟨xs, hb, h, q⟩ := h
  have fin : ∀ hp tk, SetS X.w hp s.heap.objs.size (setT xs) → (∀ b o, s.heap.get? b = some o → hp.get? b = some o) → EP X pins σ Q (.ref s.heap.objs.size) { s with heap := hp, toks := tk } := fun hp tk R k =>
    ⟨.ref _, upd H s.heap.objs.size (SetO X.w s.heap.objs.size (setT xs)), I.laid k (Nat.le_refl _) (setO_ok R), rfl, q _ (I.hok.fresh (Nat.le_refl _))⟩
  rcases h with ⟨a, rfl, hs⟩ | ⟨z, rfl, ez⟩
  · obtain ⟨its, rv, hl, _⟩ := I.list hs
    rw [Vals.ref1 r]
    have hl0 : s.heap.IsList a its.toArray := hl.isList
    have hT : s.TypeIs (.ref a) "list" := hl0.typeIs
    have hn : its.length = xs.length := by rw [← rv.length, List.length_map]
    refine call_setS (T := "list") (I.ok.hd hc) hT PySem.F.sub_list_set PySem.F.sub_list_frozenset (by decide) (fun A' E' s1 Q' hA' k hlt q' => ?_) hb fin
    have hl1 : s1.heap.IsList a its.toArray := let ⟨o, e, r⟩ := hl0; ⟨o, k _ _ e, r⟩
    have haS : a < s.heap.objs.size := by
      obtain ⟨o, e, _⟩ := hl0
      exact Heap.lt_size e
    have hne : a ≠ s1.heap.objs.size := Nat.ne_of_lt (Nat.lt_trans haS hlt)
    refine wpAny_pyIter_list hl1 (q' _ _ ⟨fun b o e => Heap.get?_push_of_some _ e, rfl, rfl, rfl, Nat.le_refl _, ?_⟩)
    have hsz : its.toArray.size = xs.length := by rw [List.size_toArray, hn]
    refine ⟨[s1.heap.objs.size, a], _, _, ?_, fun A2 hA2 => hsz ▸ Walks.list hA2 s1.heap.objs.size a hne its.toArray, fun i v e => SS.strs_at rv.strs i v (by simpa using e), ⟨_, Heap.get?_push_size _ rfl, rfl, rfl⟩, hl1.push _⟩
    simp only [List.mem_cons, List.not_mem_nil, or_false, not_or]
    exact ⟨Nat.ne_of_lt hlt, Nat.ne_of_gt haS⟩
  · subst ez
    match us, r with
    | [_], .cons ⟨t, e⟩ .nil =>
      subst e
      refine call_setS (T := "str") (I.ok.hd hc) (by show typeOf _ = _; rfl) (by rw [isSubtype_type]; kernel_rfl) (by rw [isSubtype_type]; kernel_rfl) (by decide) (fun A' E' s1 Q' hA' k hlt q' => ?_) hb fin
      refine wpAny_pyIter_str fun o St hW hst => q' _ _ ⟨fun b o e => Heap.get?_push_of_some _ e, rfl, rfl, rfl, Nat.le_refl _, ?_⟩
      have hsz : z.cps.size = (z.cps.toList.map fun c => (⟨#[c]⟩ : Str)).length := by rw [List.length_map, Array.length_toList]
      refine ⟨[s1.heap.objs.size], St, _, ?_, fun A2 hA2 => hsz ▸ hW A2 hA2, ?_, hst⟩
      · simp only [List.mem_cons, List.not_mem_nil, or_false]
        exact Nat.ne_of_lt hlt
      · rintro i v ⟨c, u, e1, e2⟩
        refine ⟨u, ?_⟩
        rw [e2, List.getD_eq_getElem?_getD, List.getElem?_map, Array.getElem?_toList, e1]
        rfl
theorem sorted_setS {P : Program} {w : World} {A : Around} {E : Value → Shared → Prop} {s : Shared} {a : Addr} {l : List Str} {Q : Value → Shared → Prop} (R : SetS w s.heap a l) (hh : A.handled = none)
    (hQ : ∀ s' p (out : Array Value) (c : Nat), (∀ b o, s.heap.get? b = some o → s'.heap.get? b = some o) → s'.gens = s.gens → s'.os = s.os → s.heap.objs.size ≤ p →
      s'.heap.get? p = some (seqObj "list" out c) → StrsAre out.toList (srtT l) → Q (.ref p) s') :
    wpAny (model P w) A (call (.builtin "sorted") [.ref a]) Q E s := by
  obtain ⟨es, ep, t, o, r⟩ := R
  refine Calls.call_function_entry kind_sorted plain_sorted entry_sorted (args_sorted1 _) ?_
  unfold Builtin.«sorted»
  refine wpAny_bind (m := checkCount "sorted" 1 1 _) (wpAny_pure ?_)
  refine wpAny_bind (collect_set (A := A.in1) hh ⟨o, r.at0, r.ex.1, r.dt⟩ r.fits r.few r.ris r.led fun s1 vs k1 hz g1 o1 pm => ?_)
  have hvl : vs.length ≤ sizeLine := by
    rw [pm.length_eq, List.length_map, Array.length_toList]
    exact fits_of_scanBound r.few
  have hI : StrsAre vs (vs.map fun v => txtOf (0, v)) := by
    have q : ∀ v ∈ vs, ∃ x tk, v = Value.str x tk := fun v hv => by
      obtain ⟨e, he, q⟩ := List.mem_map.mp (pm.mem_iff.mp hv)
      obtain ⟨x, tk, h1, _⟩ := r.good e he
      exact ⟨x, tk, by rw [← q]; exact h1⟩
    clear pm hvl
    induction vs with
    | nil => exact .nil
    | cons v vs ih =>
      obtain ⟨x, tk, e⟩ := q v List.mem_cons_self
      subst e
      exact .cons x tk (ih fun v hv => q v (List.mem_cons_of_mem _ hv))
  have pk : (vs.map fun v => txtOf (0, v)).Perm l := by
    have q := pm.map fun v => txtOf (0, v)
    rw [List.map_map] at q
    exact q.trans r.mem
  refine wpAny_bind (wpAny_newList ?_ hvl)
  have hoL : (s1.heap.push (seqObj "list" vs.toArray 0)).get? s1.heap.objs.size = some (seqObj "list" vs.toArray 0) := Heap.get?_push_size _ rfl
  refine wpAny_bind (wpAny_holding (wpAny_call_entry slot_list_sort ⟨_, hoL, rfl⟩ entry_list_sort (list_sort_treeKAny strKind_oneLt hoL hI.keysOf (fun v1 v2 rest e => keyKind_strs (by rw [← e]; exact hI)) hvl fun st' hp hs => ⟨_, rfl, ?_⟩) (args_list_sort _)))
  obtain ⟨ss, h1, h2, h3⟩ := sorted_out_str hI hp hs
  obtain ⟨c, hcc⟩ := sortedHeap_at (vs := vs) (out := (arrOf st').map (·.2)) hoL
  have es : ss = srtT l := srtT_eq (h2.trans pk) h3
  refine wpAny_pure ⟨_, rfl, hQ _ s1.heap.objs.size _ c (fun b u e => ?_) g1 o1 hz hcc (es ▸ h1)⟩
  have q := k1 b u e
  have hlt := Heap.lt_size q
  show (sortedHeap (s1.heap.push (seqObj "list" vs.toArray 0)) s1.heap.objs.size vs _).get? b = some u
  rw [sortedHeap_old (Nat.ne_of_lt hlt) (by rw [size_push']; exact Nat.lt_succ_of_lt hlt)]
  exact Heap.get?_push_of_some _ q
def rSrtS (w : World) : List V → Hp → VK → Prop := fun vs H Q => ∃ a l, vs = [.ref a] ∧ H a = some (SetO w a l) ∧ l.length ≤ sizeLine ∧ ∀ p, H p = none → Q (.ref p) (upd H p (.lst ((srtT l).map V.str)))
theorem cr_srtS (hc : X.calm = true) : CallR X (.builtin "sorted") (rSrtS X.w) := by
  intro pins s σ H vs us Q I r h
  obtain ⟨a, l, rfl, ha, hz, q⟩ := h
  rw [Vals.ref1 r]
  have R : SetS X.w s.heap a l := (I.hok a _ ha).1
  refine sorted_setS R (I.ok.hd hc) fun s' p out c k g o hp e hs => ?_
  have hl : ((srtT l).map V.str).length ≤ sizeLine := by rw [List.length_map, (srtT_perm l).length_eq]; exact hz
  have hn : H p = none := I.hok.fresh hp
  have J : Inv X pins σ (upd H p (.lst ((srtT l).map V.str))) { s with heap := s'.heap, gens := s'.gens, drawn := s'.drawn, toks := s'.toks } :=
    I.call (ch := []) (Un.laid k hp hn) (I.hok.laid k hp ⟨hl, out.toList, c, vals_of_strs hs, e⟩) (by rw [g]; exact I.bare) (fun _ z => nomatch z)
  have es : s' = { s with heap := s'.heap, gens := s'.gens, drawn := s'.drawn, toks := s'.toks } := by
    obtain ⟨_, _, _, _, _⟩ := s'
    obtain ⟨_, _, _, _, _⟩ := s
    have o' := o
    dsimp only at o' ⊢
    rw [o']
  rw [es]
  exact ⟨.ref p, _, J, rfl, q p hn⟩
def rLenS (w : World) : List V → Hp → VK → Prop := fun vs H Q => ∃ a l, vs = [.ref a] ∧ H a = some (SetO w a l) ∧ Q (.int l.length) H
theorem cr_lenS : CallR X (.builtin "len") (rLenS X.w) := by
  intro pins s σ H vs us Q I r h
  obtain ⟨a, l, rfl, ha, q⟩ := h
  rw [Vals.ref1 r]
  obtain ⟨es, ep, t, o, R⟩ : SetS X.w s.heap a l := (I.hok a _ ha).1
  have hn : es.size = l.length := by rw [← Array.length_toList, ← List.length_map (f := txtOf), R.mem.length_eq]
  have hb := R.few
  unfold scanBound at hb
  refine PySem.call_len_set R.at0 R.ex R.dt R.fits (by omega) ⟨.int _, H, I.tok _, ⟨_, rfl⟩, ?_⟩
  rw [hn]
  exact q
end
/-! ### sorted(set(e)), len(set(e)) -/
/-- the texts that the data draw -/
def txts : D → Option (List Str)
  | .str z => some (z.cps.toList.map fun c => ⟨#[c]⟩)
  | .lst ds => strsOf ds
  | _ => none
def dSrtSet (te : DTE) : DTE := fun ds M P => te ds M fun d M1 => match txts d with | some xs => xs.length + 1 < scanBound ∧ P (.lst ((srtT (setT xs)).map D.str)) M1 | none => False
def dLenSet (te : DTE) : DTE := fun ds M P => te ds M fun d M1 => match txts d with | some xs => xs.length + 1 < scanBound ∧ P (.int (setT xs).length) M1 | none => False
theorem rpL_strs {K : Fg} {M : Mem} {H : Hp} : ∀ xs : List Str, RpL K M H (xs.map V.str) (xs.map D.str)
  | [] => .nil
  | x :: xs => .cons (.str x) (rpL_strs xs)
section
variable {X : Cx} {c : DC} {x y : Str} {p pos p2 pos2 : Pos} {e : Expr} {te : DTE}
theorem set_pre {M F : Mem} {d : D} {v : V} {H : Hp} {xs : List Str} {Q : VK} (rp : Rp X.K (mj M F) H v d) (ex : txts d = some xs) (hb : xs.length + 1 < scanBound) (q : ∀ p, H p = none → Q (.ref p) (upd H p (SetO X.w p (setT xs)))) : rSetS X.K X.w [v] H Q := by
  refine ⟨xs, hb, ?_, q⟩
  cases rp with
  | str z =>
    simp only [txts, Option.some.injEq] at ex
    exact .inr ⟨z, rfl, ex.symm⟩
  | lst hs hn hl =>
    simp only [txts] at ex
    have e2 := strsOf_rp ex hl
    exact .inl ⟨_, rfl, .of (e2 ▸ hs)⟩
  | _ => simp [txts] at ex
theorem d_srtSet (hc : X.calm = true) (he : DE X c e te) (hg : Gl X x) (hm : X.mg x = none) (hv : bootBuiltins x = some (.builtin "sorted")) (hg2 : Gl X y) (hm2 : X.mg y = none) (hv2 : bootBuiltins y = some (.type "set"))
    (hn : x ≠ "__name__" := by decide) (hdb : (x == ("__debug__" : Str)) = false := by decide) (hn2 : y ≠ "__name__" := by decide) (hdb2 : (y == ("__debug__" : Str)) = false := by decide)
    (na : starEach [Expr.Call (.Name y p2) [e] [] pos2] X.env = (false, eval (.Call (.Name y p2) [e] [] pos2) X.env) :: starEach [] X.env := by rfl) (na2 : starEach [e] X.env = (false, eval e X.env) :: starEach [] X.env := by rfl) :
    DE X c (.Call (.Name x p) [.Call (.Name y p2) [e] [] pos2] [] pos) (dSrtSet te) :=
  (pe_callB (cr_srtS hc) hg hm hv (pa_cons (pe_callTy (cr_setS hc) hg2 hm2 hv2 (pa_cons he pa_nil na2) hn2 hdb2 na2 (by rfl)) pa_nil na) hn hdb na (by rfl)).imp fun σ H Q ⟨ds, M, F, P, at', ht, fin⟩ => by
    refine ⟨ds, M, F, _, at', ht, fun d M1 v H1 q dj ev mo rp => ?_⟩
    split at q
    · rename_i xs ex
      show rSetS X.K X.w [v] H1 fun z H2 => rSrtS X.w [z] H2 Q
      refine set_pre rp ex q.1 fun p1 n1 => ?_
      have hz : (setT xs).length ≤ sizeLine := Nat.le_trans (length_setT xs) (fits_of_scanBound (by omega))
      refine ⟨p1, setT xs, rfl, upd_same, hz, fun p2 n2 => ?_⟩
      exact fin_lst (fin.ev (ev.trans (Ev.new n1))) dj (mo.new n1) (rpL_strs _) q.2 p2 n2
    · exact q.elim
theorem d_lenSet (hc : X.calm = true) (he : DE X c e te) (hg : Gl X x) (hm : X.mg x = none) (hv : bootBuiltins x = some (.builtin "len")) (hg2 : Gl X y) (hm2 : X.mg y = none) (hv2 : bootBuiltins y = some (.type "set"))
    (hn : x ≠ "__name__" := by decide) (hdb : (x == ("__debug__" : Str)) = false := by decide) (hn2 : y ≠ "__name__" := by decide) (hdb2 : (y == ("__debug__" : Str)) = false := by decide)
    (na : starEach [Expr.Call (.Name y p2) [e] [] pos2] X.env = (false, eval (.Call (.Name y p2) [e] [] pos2) X.env) :: starEach [] X.env := by rfl) (na2 : starEach [e] X.env = (false, eval e X.env) :: starEach [] X.env := by rfl) :
    DE X c (.Call (.Name x p) [.Call (.Name y p2) [e] [] pos2] [] pos) (dLenSet te) :=
  (pe_callB cr_lenS hg hm hv (pa_cons (pe_callTy (cr_setS hc) hg2 hm2 hv2 (pa_cons he pa_nil na2) hn2 hdb2 na2 (by rfl)) pa_nil na) hn hdb na (by rfl)).imp fun σ H Q ⟨ds, M, F, P, at', ht, fin⟩ => by
    refine ⟨ds, M, F, _, at', ht, fun d M1 v H1 q dj ev mo rp => ?_⟩
    split at q
    · rename_i xs ex
      show rSetS X.K X.w [v] H1 fun z H2 => rLenS X.w [z] H2 Q
      refine set_pre rp ex q.1 fun p1 n1 => ?_
      refine ⟨p1, setT xs, rfl, upd_same, ?_⟩
      exact (fin.ev (ev.trans (Ev.new n1))).val dj (mo.new n1) q.2 (.int _)
    · exact q.elim
end
end DL

set_option Elab.async false
set_option linter.all false
set_option maxRecDepth 100000
set_option maxHeartbeats 4000000
namespace DL
open PySem PySem.Spec PyProof.Rows L2
open PySem.AutoSeq1 (wpAny_loadPart')
/-! ### enumerate(t), t a tuple -/
def tIterO (a : Addr) : Obj := { cls := .type "tuple_iterator", data := .fields #[.ref a, .int 0 0] }
def enumO (p : Addr) : Obj := { cls := .type "enumerate", data := .fields #[.none, .bool false, .ref p, rawInt 0, .none, .none] }
theorem meets_enumT (l : Addr) (items : Array Value) (n : Nat) (dct : Option Addr) (sl : Array (Option Value)) :
    Meets (Builtin.«enumerate.__new__» ⟨[.type "enumerate", .ref l], []⟩) (fun _ R s => s.heap.get? l = some { cls := .type "tuple", dict := dct, data := .seq items n, slots := sl } ∧
      R (.ok (.ret (.ref (s.heap.push (tIterO l)).objs.size))) { s with heap := (s.heap.push (tIterO l)).push (enumO s.heap.objs.size) }) :=
  .of_wp fun prog w A R s h => by
    obtain ⟨hp, g, d, tk, os⟩ := s
    obtain ⟨hl, h⟩ := h
    have hsub := sub_enumerate
    have hL : Heap.IsTuple (Shared.heap ⟨hp, g, d, tk, os⟩) l items := ⟨_, hl, rfl, n, rfl⟩
    wp_walk using wpAny_loadPart' hl
    refine wpAny_stack_any fun st => wpAny_pure ?_
    split
    · rename_i c _ _ _ _ _
      cases (c == Value.type "enumerate")
      all_goals
        wp_walk using wpAny_loadPart' hl, wpAny_pyIter_tuple hL
        exact ⟨_, rfl, h⟩
    · wp_walk using wpAny_loadPart' hl, wpAny_pyIter_tuple hL
      exact ⟨_, rfl, h⟩
section
variable {P : Program} {w : World} {A : Around} {E : Value → Shared → Prop} {s : Shared}
theorem call_enumT {l : Addr} {items : Array Value} {Q : Value → Shared → Prop} (hL : s.heap.IsTuple l items)
    (h : ∀ hp, IsEnum hp (s.heap.objs.size + 1) s.heap.objs.size 0 .none → hp.IsTupleIter s.heap.objs.size l 0 → (∀ b o, s.heap.get? b = some o → hp.get? b = some o) → Q (.ref (s.heap.objs.size + 1)) { s with heap := hp }) :
    wpAny (model P w) A (call (.type "enumerate") [.ref l]) Q E s := by
  obtain ⟨⟨c, dct, dt, sl⟩, hl, hc, n, hd⟩ := hL
  replace hc : c = .type "tuple" := hc
  replace hd : dt = .seq items n := hd
  subst hc hd
  refine callType_new F.called_enumerate (by decide) (F.typeCall_enumerate_1 _) (F.newCall_enumerate_1 _) (fun obj => F.args_object_init_2 obj _) F.entry_enumerate_new (meets_enumT l items n dct sl) ⟨hl, ?_⟩
  have hz : (s.heap.push (tIterO l)).objs.size = s.heap.objs.size + 1 := Heap.size_push ..
  show _ ∧ _
  rw [hz]
  have he : IsEnum ((s.heap.push (tIterO l)).push (enumO s.heap.objs.size)) (s.heap.objs.size + 1) s.heap.objs.size 0 .none := by
    have q := Heap.get?_push_size (s.heap.push (tIterO l)) (o := enumO s.heap.objs.size) rfl
    rw [hz] at q
    exact q
  exact ⟨⟨_, he, rfl⟩, h _ he ⟨_, Heap.get?_push_of_some _ (Heap.get?_push_size _ rfl), rfl, rfl⟩ fun b o x => Heap.get?_push_of_some _ (Heap.get?_push_of_some _ x)⟩
end
/-- the tuple at a, each item in a new pair -/
def IteT (K : Fg) (a : Addr) : It :=
  ⟨fun i H => ∃ (xs : List V) (x : V), SqT K H a xs ∧ xs[i]? = some x, fun i H v H' => ∃ T x, v = .ref T ∧ H T = none ∧ H' = upd H T (.tup [.int (i : Nat), x]) ∧ ∀ xs, SqT K H a xs → xs[i]? = some x, fun i H => ∃ xs : List V, SqT K H a xs ∧ xs.length = i⟩
theorem turn_enumT {P : Program} {w : World} {K : Fg} {elts : List Expr} {kk : Nat} {tpos : Pos} (a e it : Addr) :
    Turn P w K (.Tuple elts kk tpos) (IteT K a) [e, it] e (fun i h => (∃ old, IsEnum h e it ((i : Nat) : Int) old) ∧ h.IsTupleIter it a i ∧ e ≠ it ∧ a ≠ it ∧ a ≠ e) where
  mem := by simp
  obj := fun i h st b hb => by
    obtain ⟨⟨old, he⟩, ⟨o, ho, hc, hd⟩, _⟩ := st
    rcases (show b = e ∨ b = it by simpa using hb) with z | z
    · rw [z]; exact ⟨_, he, fun v q => nomatch q⟩
    · rw [z]; exact ⟨o, ho, fun v q => by rw [hd] at q; cases q⟩
  keep := fun i h h' st k => let ⟨⟨old, he⟩, ⟨o, ho, r⟩, hne⟩ := st; ⟨⟨old, k e (by simp) _ he⟩, ⟨o, k it (by simp) o ho, r⟩, hne⟩
  item := by
    intro X hP hw hK hc i pins s σ H E I hf st hg
    subst hP hw hK
    obtain ⟨⟨old, he⟩, hit, hne, ha1, ha2⟩ := st
    obtain ⟨xs, x, hq, hx⟩ := hg
    obtain ⟨its, rv, p, hz⟩ := I.tuple hq
    obtain ⟨u, hu, ru⟩ := rv.get hx
    have hel : e < s.heap.objs.size := Heap.lt_size he
    have hil : it < s.heap.objs.size := by obtain ⟨_, q, _⟩ := hit; exact Heap.lt_size q
    have hlt : i < its.toArray.size := by
      rw [List.size_toArray]
      exact (List.getElem?_eq_some_iff.mp hu).1
    refine wpAny_pyNext_enum_itemD (Draws.tuple (A := X.A.in1) (I.ok.hd hc) it a ha1 its.toArray) he ⟨hit, p⟩ hlt hne (by simp [hne, Ne.symm ha2]) fun y h' tk hy ho hit' hT hsz hk => ?_
    have ey : y = u := by
      have q : its.toArray[i]? = some y := hy
      rw [List.getElem?_toArray, hu] at q
      exact (Option.some.inj q).symm
    subst ey
    refine ⟨_, rfl, wpAny_letOwnedTupleGo_enum (s := { s with heap := h', toks := tk + 1 }) ho fun h'' he' sb => ?_⟩
    have hT2 : h''.get? s.heap.objs.size = some { cls := .type "tuple", data := .seq #[.int i tk, y] } := (sb.2 _ (Nat.ne_of_gt hel)).trans hT
    have new : ObjOk X.prog X.w (upd H s.heap.objs.size (.tup [.int (i : Nat), x])) h'' s.heap.objs.size (.tup [.int (i : Nat), x]) :=
      ⟨by show 2 ≤ sizeLine; decide, [.int i tk, y], .cons ⟨_, rfl⟩ (.cons ru .nil), ⟨_, hT2, rfl, _, rfl⟩⟩
    have I1 : Inv X pins σ (upd H s.heap.objs.size (.tup [.int (i : Nat), x])) { s with heap := h'', toks := tk + 1 } :=
      I.turnedNew (ch := [e, it]) (fun b ob hb q => (sb.2 b (fun z => hb (by simp [z]))).trans (hk b ob (fun z => hb (by simp [z])) (fun z => hb (by simp [z])) q)) hf (Nat.le_refl _) new
    have hsame : ∀ o, h'.get? it = some o → h''.get? it = some o := fun o q => (sb.2 it (Ne.symm hne)).trans q
    refine ⟨.ref s.heap.objs.size, _, I1, rfl, ⟨_, x, rfl, I.hok.fresh (Nat.le_refl _), rfl, fun ys hy => by rw [I.tuple_inj hy hq]; exact hx⟩, ⟨⟨y, ?_⟩, (let ⟨o, q, r⟩ := hit'.1; ⟨o, hsame o q, r⟩), hne, ha1, ha2⟩, fun b hb => ?_⟩
    · have e1 : ((i + 1 : Nat) : Int) = (i : Int) + 1 := by omega
      rw [e1]; exact he'
    · have hb' : b < s.heap.objs.size := by
        rcases (show b = e ∨ b = it by simpa using hb) with z | z
        · rw [z]; exact hel
        · rw [z]; exact hil
      rw [upd_ne (Nat.ne_of_lt hb')]
      exact (hf b hb).1
  done := by
    intro X hP hw hK hc i pins s σ H E I hf st hg
    subst hP hw hK
    obtain ⟨⟨old, he⟩, hit, hne, ha1, ha2⟩ := st
    obtain ⟨xs, hq, hx⟩ := hg
    obtain ⟨its, rv, p, hz⟩ := I.tuple hq
    obtain ⟨f0, f1, f2, f3, f4, f5⟩ := hf it (by simp)
    have hl : its.toArray.size = i := by rw [List.size_toArray, ← rv.length]; exact hx
    exact wpAny_pyNext_enum_endD (Draws.tuple (A := X.A.in1) (I.ok.hd hc) it a ha1 its.toArray) he ⟨hl ▸ hit, p⟩ fun h' eb => ⟨rfl, I.turned (t' := s.toks) (fun b o hb q => eb b o hb q) f0 f1 f3 f4 f5⟩
  self := fun A i s Q E st h => let ⟨⟨_, he⟩, _⟩ := st; wpAny_pyIter_enum he h
def iEnumA (K : Fg) (ta : TA) : TI := fun σ H R => ta σ H fun vs H1 => ∃ a xs, vs = [.ref a] ∧ ((SqL K H1 a xs ∧ R (Ite K a) H1) ∨ (SqT K H1 a xs ∧ R (IteT K a) H1))
theorem pi_enumA {X : Cx} {e : Expr} {ta : TA} {p pos tpos : Pos} {elts : List Expr} {kk : Nat} (hg : Gl X "enumerate") (hm : X.mg "enumerate" = none) (ha : PA X [e] ta) (hs : starEach [e] X.env = [(false, eval e X.env)] := by rfl) :
    PI X (.Tuple elts kk tpos) (.Call (.Name "enumerate" p) [e] [] pos) (iEnumA X.K ta) := by
  refine ⟨fun pins s σ H R I h => ?_⟩
  refine Call_ (ld_blt I hg hm boot_enumerate (PyProof.Rows.callWith_type1 (thn (ha.run pos pins s σ H _ I h) fun us s1 ⟨vs, H1, I1, r1, q1⟩ => ?_) hs rfl))
  obtain ⟨a, xs, ex, hq⟩ := q1
  subst ex
  have fpo : ∀ b ∈ [s1.heap.objs.size + 1, s1.heap.objs.size], s1.heap.objs.size ≤ b := fun b hb => by
    rcases (show b = s1.heap.objs.size + 1 ∨ b = s1.heap.objs.size by simpa using hb) with z | z
    · rw [z]; exact Nat.le_add_right _ _
    · rw [z]; exact Nat.le_refl _
  cases r1 with
  | cons r rr =>
    cases rr
    cases r
    rcases hq with ⟨hq, q⟩ | ⟨hq, q⟩
    · obtain ⟨its, rv, p', hz⟩ := I1.list hq
      refine call_enumerate_list p'.isList fun h' he hit hsz hk => wpAny_pyIter_enum he ?_
      have I2 : Inv X pins σ H1 { s1 with heap := h' } := I1.kept (t' := s1.toks) hk
      exact ⟨s1.heap.objs.size + 1, [s1.heap.objs.size + 1, s1.heap.objs.size], _, _, H1, rfl, I2, turn_enum a (s1.heap.objs.size + 1) s1.heap.objs.size, ⟨⟨.none, he⟩, hit, Nat.succ_ne_self _⟩, fun b hb => I1.fpOk (fpo b hb) (I1.hok.fresh (fpo b hb)), q⟩
    · obtain ⟨its, rv, p', hz⟩ := I1.tuple hq
      have hlt : a < s1.heap.objs.size := by
        obtain ⟨_, q, _⟩ := p'
        exact Heap.lt_size q
      refine call_enumT p' fun h' he hit hk => wpAny_pyIter_enum he ?_
      have I2 : Inv X pins σ H1 { s1 with heap := h' } := I1.kept (t' := s1.toks) hk
      exact ⟨s1.heap.objs.size + 1, [s1.heap.objs.size + 1, s1.heap.objs.size], _, _, H1, rfl, I2, turn_enumT a (s1.heap.objs.size + 1) s1.heap.objs.size, ⟨⟨.none, he⟩, hit, Nat.succ_ne_self _, Nat.ne_of_lt hlt, Nat.ne_of_lt (Nat.lt_succ_of_lt hlt)⟩, fun b hb => I1.fpOk (fpo b hb) (I1.hok.fresh (fpo b hb)), q⟩
/-! ### as data -/
def enumD (xs : List D) : List D := List.zipWith (fun (i : Nat) x => D.tup [.int i, x]) (List.range xs.length) xs
def dEnum (ta : DTA) : DTI := fun ds M P => ta ds M fun zs M1 => match zs with
  | [.tup xs] => P (enumD xs) M1
  | [.lst xs] => P (enumD xs) M1
  | _ => False
theorem enumD_len {xs : List D} : (enumD xs).length = xs.length := by unfold enumD; simp
theorem enumD_at {xs : List D} {i : Nat} {d : D} (h : (enumD xs)[i]? = some d) : ∃ x, xs[i]? = some x ∧ d = .tup [.int i, x] := by
  unfold enumD at h
  rw [List.getElem?_zipWith] at h
  cases e1 : (List.range xs.length)[i]? with
  | none => rw [e1] at h; cases h
  | some j =>
    obtain ⟨h1, h2⟩ := List.getElem?_eq_some_iff.mp e1
    rw [List.getElem_range] at h2
    subst h2
    cases e2 : xs[i]? with
    | none => rw [e1, e2] at h; cases h
    | some x =>
      rw [e1, e2] at h
      cases h
      exact ⟨x, rfl, rfl⟩
theorem enum_yield {K : Fg} {A : Mem} {H : Hp} {vs : List V} {xs : List D} {i : Nat} {d : D} {T : Addr} {x : V} (hx : RpL K A H vs xs) (mo : MemOk K A H) (n : H T = none) (h1 : vs[i]? = some x) (hd : (enumD xs)[i]? = some d) :
    Ev A H A (upd H T (.tup [.int (i : Nat), x])) ∧ MemOk K A (upd H T (.tup [.int (i : Nat), x])) ∧ Rp K A (upd H T (.tup [.int (i : Nat), x])) (.ref T) d ∧ ∀ b o, H b = some o → upd H T (.tup [.int (i : Nat), x]) b = some o := by
  obtain ⟨y, e1, rfl⟩ := enumD_at hd
  obtain ⟨dx, e2, r2⟩ := hx.getV h1
  rw [e1] at e2
  cases e2
  exact ⟨Ev.new n, mo.new n, .tup (.of upd_same) (RpL.kp (Ev.new n).kp [.int i, y] (.cons (.int _) (.cons r2 .nil))), (fun b o h => by rw [upd_ne (ne_of_none h n)]; exact h)⟩
section
variable {X : Cx} {c : DC} {e : Expr} {pos p : Pos}
theorem d_enum {ta : DTA} {elts : List Expr} {kk : Nat} {tpos : Pos} (hg : Gl X "enumerate") (hm : X.mg "enumerate" = none) (ha : DA X c [e] ta) (hs : starEach [e] X.env = [(false, eval e X.env)] := by rfl) :
    DI X c (.Tuple elts kk tpos) (.Call (.Name "enumerate" p) [e] [] pos) (dEnum ta) := (pi_enumA hg hm ha hs).imp fun σ H R ⟨ds, M, F, P, at', ht, fin⟩ => ⟨ds, M, F, _, at', ht, fun zs M1 vs H1 q dj ev mo rp => by
    split at q
    · match vs, rp with
      | [_], .cons (.tup hs hl) .nil =>
        refine ⟨_, _, rfl, .inr ⟨hs, fin _ M1 H1 _ q dj ev mo fun A1 H2 kp mo2 => ?_⟩⟩
        have q1 := kp.sqT hs
        refine ⟨fun i hi => ?_, ⟨_, q1, by rw [enumD_len, hl.length]⟩, fun i x H3 d hd y => ?_⟩
        · rw [enumD_len] at hi
          exact ⟨_, _, q1, List.getElem?_eq_getElem (by rw [hl.length]; exact hi)⟩
        · obtain ⟨T, x', rfl, nT, rfl, f1⟩ := y
          exact enum_yield (RpL.kp kp _ hl) mo2 nT (f1 _ q1) hd
    · match vs, rp with
      | [_], .cons (.lst hs hn hl) .nil =>
        refine ⟨_, _, rfl, .inl ⟨.of hs, fin _ M1 H1 _ q dj ev mo fun A1 H2 kp mo2 => ?_⟩⟩
        have q1 : SqL X.K H2 _ _ := .of (kp.lst _ _ hs hn).1
        refine ⟨fun i hi => ?_, ⟨_, q1, by rw [enumD_len, hl.length]; exact Nat.le_refl _⟩, fun i x H3 d hd y => ?_⟩
        · rw [enumD_len] at hi
          exact ⟨_, _, q1, List.getElem?_eq_getElem (by rw [hl.length]; exact hi)⟩
        · obtain ⟨T, x', rfl, nT, rfl, f1⟩ := y
          exact enum_yield (RpL.kp kp _ hl) mo2 nT (f1 _ q1) hd
    · exact q.elim⟩
end
end DL

set_option Elab.async false
set_option linter.all false
set_option maxRecDepth 100000
set_option maxHeartbeats 4000000
namespace DL
open PySem PySem.Spec PyProof.Rows L2
/-! ### slices -/
abbrev DTO := DSt → Mem → (Option Int → Mem → Prop) → Prop
def dNoPart : DTO := fun _ M P => P none M
def dPart (te : DTE) : DTO := fun ds M P => te ds M fun d M1 => match d with | .int i => P (some i) M1 | _ => False
def cutD (xs : List D) (lo hi : Option Int) : List D := (xs.drop (HT.sIx xs.length 0 lo)).take (HT.sIx xs.length xs.length hi - HT.sIx xs.length 0 lo)
def dSlice (te : DTE) (tl th : DTO) : DTE := fun ds M P => te ds M fun x M1 => tl ds M1 fun lo M2 => th ds M2 fun hi M3 => match x with
  | .lst xs => P (.lst (cutD xs lo hi)) M3
  | .tup xs => P (.tup (cutD xs lo hi)) M3
  | .str z => z.length ≤ sizeLine ∧ P (.str (cutS z lo hi)) M3
  | _ => False
def FinO (K : Fg) (M F : Mem) (H : Hp) (P : Option Int → Mem → Prop) (Q : Option Int → Hp → Prop) : Prop :=
  ∀ (d : Option Int) (M' : Mem) (H' : Hp), P d M' → Dj M' F → Ev M H M' H' → MemOk K (mj M' F) H' → Q d H'
def Lo (K : Fg) (c : DC) (t : DTO) : TO := fun σ H Q => ∃ ds M F P, At K c ds M F σ H ∧ t ds M P ∧ FinO K M F H P Q
def DO (X : Cx) (c : DC) (e : Option Expr) (t : DTO) : Prop := PO X e (Lo X.K c t)
theorem RpL.takeL {K : Fg} {A : Mem} {H : Hp} : ∀ (n : Nat) {vs : List V} {ds : List D}, RpL K A H vs ds → RpL K A H (vs.take n) (ds.take n)
  | 0, _, _, _ => .nil
  | n + 1, _, _, .nil => .nil
  | n + 1, _, _, .cons a b => .cons a (RpL.takeL n b)
theorem RpL.dropL {K : Fg} {A : Mem} {H : Hp} : ∀ (n : Nat) {vs : List V} {ds : List D}, RpL K A H vs ds → RpL K A H (vs.drop n) (ds.drop n)
  | 0, _, _, h => h
  | n + 1, _, _, .nil => .nil
  | n + 1, _, _, .cons a b => RpL.dropL n b
theorem RpL.cut {K : Fg} {A : Mem} {H : Hp} {vs : List V} {ds : List D} (h : RpL K A H vs ds) (lo hi : Option Int) : RpL K A H (cutV vs lo hi) (cutD ds lo hi) := by
  unfold cutV cutD
  rw [h.length]
  exact (h.dropL _).takeL _
section
variable {X : Cx} {c : DC} {e : Expr} {te : DTE} {lo hi : Option Expr} {tl th : DTO} {pos p2 : Pos}
theorem d_nopart : DO X c none dNoPart := by
  refine ⟨fun pins s σ H Q I ⟨ds, M, F, P, at', ht, fin⟩ => ?_⟩
  exact po_none.run pins s σ H Q I (fin none M H ht at'.dj .refl at'.mo)
theorem d_part (he : DE X c e te) : DO X c (some e) (dPart te) := by
  refine ⟨fun pins s σ H Q I ⟨ds, M, F, P, at', ht, fin⟩ => ?_⟩
  refine (po_some he).run pins s σ H Q I ⟨ds, M, F, _, at', ht, fun d M1 v H1 q dj ev mo rp => ?_⟩
  split at q
  · cases rp
    exact ⟨_, rfl, fin _ M1 H1 q dj ev mo⟩
  · exact q.elim
theorem d_slice (he : DE X c e te) (hl : DO X c lo tl) (hh : DO X c hi th) : DE X c (.Subscript e (.Slice lo hi none p2) pos) (dSlice te tl th) := by
  refine (pe_slice (SlR.or sl_tupA (SlR.or sl_list sl_str)) he hl hh).imp fun σ H Q ⟨ds, M, F, P, at', ht, fin⟩ => ?_
  refine ⟨ds, M, F, _, at', ht, fun x M1 v H1 q dj ev mo rp => ?_⟩
  refine ⟨ds, M1, F, _, at'.go dj ev mo, q, fun o1 M2 H2 q2 dj2 ev2 mo2 => ?_⟩
  refine ⟨ds, M2, F, _, at'.go dj2 (ev.trans ev2) mo2, q2, fun o2 M3 H3 q3 dj3 ev3 mo3 => ?_⟩
  have rp3 := Rp.ev (ev2.trans ev3) x rp
  have f3 := fin.ev ((ev.trans ev2).trans ev3)
  split at q3
  · cases rp3 with
    | lst hs hn hl => exact .inr (.inl ⟨_, _, rfl, .of hs, fin_lst f3 dj3 mo3 (hl.cut _ _) q3⟩)
  · cases rp3 with
    | tup hs hl =>
      refine .inl ⟨_, _, rfl, hs, fun w => ?_, fun _ => fin_tup f3 dj3 mo3 (hl.cut _ _) q3⟩
      refine f3.val dj3 mo3 q3 ?_
      have e1 : cutD _ o1 o2 = _ := show cutD _ o1 o2 = _ from by
        unfold cutD
        rw [← hl.length, w.1, w.2, List.drop_zero, Nat.sub_zero, List.take_of_length_le (Nat.le_of_eq hl.length.symm)]
      rw [e1]
      exact .tup hs hl
  · cases rp3
    exact .inr (.inr ⟨_, rfl, q3.1, f3.val dj3 mo3 q3.2 (.str _)⟩)
  · exact q3.elim
end
/-! ### list(e) -/
def gList : DOL := fun xs M P => match xs with
  | [.lst ys] => P (.lst ys) M
  | [.tup ys] => P (.lst ys) M
  | [.str z] => z.cps.size ≤ sizeLine ∧ P (.lst (signs z)) M
  | _ => False
def gListH : DOL := fun xs M P => match xs with
  | [.lst ys] => ∀ p, M p = none → P (.ref p) (mput M p (some (.lst ys)))
  | [.tup ys] => ∀ p, M p = none → P (.ref p) (mput M p (some (.lst ys)))
  | _ => False
def rListA (K : Fg) : List V → Hp → VK → Prop := fun xs H Q => (∃ p ys, xs = [.ref p] ∧ (SqL K H p ys ∨ SqT K H p ys) ∧ ∀ l, H l = none → Q (.ref l) (upd H l (.lst ys))) ∨
  ∃ z : Str, xs = [.str z] ∧ z.cps.size ≤ sizeLine ∧ ∀ l, H l = none → Q (.ref l) (upd H l (.lst (z.cps.toList.map fun c => V.str ⟨#[c]⟩)))
theorem ol_list {K : Fg} : OpL K (rListA K) gList := fun M F xs vs H P Q q dj mo rs fin => by
  unfold gList at q
  split at q
  · match vs, rs with
    | [_], .cons (.lst hs hn hl) .nil => exact .inl ⟨_, _, rfl, .inl (.of hs), fin_lst fin dj mo hl q⟩
  · match vs, rs with
    | [_], .cons (.tup hs hl) .nil => exact .inl ⟨_, _, rfl, .inr hs, fin_lst fin dj mo hl q⟩
  · match vs, rs with
    | [_], .cons (.str z) .nil =>
      refine .inr ⟨z, rfl, q.1, fin_lst fin dj mo ?_ q.2⟩
      have g : ∀ l : List Nat, RpL K (mj M F) H (l.map fun c => V.str ⟨#[c]⟩) (l.map fun c => D.str ⟨#[c]⟩) := fun l => by
        induction l with
        | nil => exact .nil
        | cons a l ih => exact .cons (.str _) ih
      exact g _
  · exact q.elim
theorem ol_listH {K : Fg} : OpL K (rListA K) gListH := fun M F xs vs H P Q q dj mo rs fin => by
  unfold gListH at q
  split at q
  · match vs, rs with
    | [_], .cons (.lst hs hn hl) .nil => exact .inl ⟨_, _, rfl, .inl (.of hs), fin_lstH fin dj mo hl q⟩
  · match vs, rs with
    | [_], .cons (.tup hs hl) .nil => exact .inl ⟨_, _, rfl, .inr hs, fin_lstH fin dj mo hl q⟩
  · exact q.elim
/-! ### hot lists: append, a store by index -/
def dAppend (to te : DTE) : DTE := fun ds M P => to ds M fun x M1 => match x with
  | .ref a => (∃ xs, M1 a = some (.lst xs)) ∧ te ds M1 fun y M2 => match M2 a with
    | some (.lst xs) => xs.length < sizeLine ∧ P .non (mput M2 a (some (.lst (xs ++ [y]))))
    | _ => False
  | _ => False
theorem hot_lst {K : Fg} {M F : Mem} {H : Hp} {a : Addr} {xs : List D} (mo : MemOk K (mj M F) H) (h : M a = some (.lst xs)) : ∃ vs, H a = some (.lst vs) ∧ RpL K (mj M F) H vs xs := mo a _ (mj_l h)
theorem fin_write {K : Fg} {M F : Mem} {H : Hp} {P : D → Mem → Prop} {Q : VK} {a : Addr} {xs ys : List D} {vs : List V} (fin : Fin K M F H P Q) (dj : Dj M F) (mo : MemOk K (mj M F) H) (h : M a = some (.lst xs)) (r : RpL K (mj M F) H vs ys) (p : P .non (mput M a (some (.lst ys)))) :
    Q .non (upd H a (.lst vs)) := by
  have hd := mo.domH (mj_l h)
  have ev : Ev M H (mput M a (some (.lst ys))) (upd H a (.lst vs)) := Ev.write h hd
  refine fin .non _ .non _ p (dj_put dj (dj_here dj h)) ev ?_ .non
  rw [mj_put]
  obtain ⟨_, e0, _⟩ := hot_lst mo h
  exact mo.write (mj_l h) (fun ps z => by rw [e0] at z; cases z) ⟨vs, upd_same, RpL.kp (Ev.write (mj_l h) hd).kp ys r⟩
def setD (xs : List D) (k : Int) (y : D) (P : List D → Prop) : Prop := match ixN xs.length k with | some j => P (xs.set j y) | none => False
def dgSub (to ti : DTE) : DTG := fun y ds M P => to ds M fun x M1 => ti ds M1 fun i M2 => match x, i with
  | .ref a, .int k => (match M2 a with | some (.lst xs) => setD xs k y fun zs => P ds (mput M2 a (some (.lst zs))) | _ => False)
  | _, _ => False
section
variable {X : Cx} {c : DC} {o e : Expr} {to te : DTE} {pos apos cpos : Pos} {vs : List Nat}
theorem d_append (ho : DE X c o to) (he : DE X c e te)
    (hbase : attributeBase o "append" X.env (eval o X.env) = eval o X.env := by rfl)
    (hfew : ((backTo cpos (starEach [e] X.env)).all (fun x => !x.1) && (backToKw cpos (keywordEach [] X.env)).all (fun x => x.1.isSome)
      && decide (([e] : List Expr).length + ([] : List Keyword).length + (if ([] : List Keyword).isEmpty then 0 else 1) < 30)) = true := by rfl)
    (hline : (apos.endLine == cpos.line) = true := by rfl) (hs : starEach [e] X.env = (false, eval e X.env) :: starEach [] X.env := by rfl) :
    DE X c (.Call (.Attribute o "append" apos) [e] [] cpos) (dAppend to te) := by
  refine (pe_bm F.plainAttrs_list F.slot_list_append F.type_list_append mt_append ho (pa_cons he pa_nil hs) hbase hfew hline hs (by rfl)).imp fun σ H Q ⟨ds, M, F, P, at', ht, fin⟩ => ?_
  refine ⟨ds, M, F, _, at', ht, fun x M1 v H1 q dj ev mo rp => ?_⟩
  cases x with
  | ref a =>
    cases rp
    obtain ⟨⟨xs, hM⟩, q⟩ := q
    obtain ⟨ws, e1, r⟩ := hot_lst mo hM
    refine ⟨.inl ⟨rfl, ws, .inl (.of e1)⟩, ds, M1, F, _, at'.go dj ev mo, q, fun y M2 w H2 q2 dj2 ev2 mo2 rp2 => ?_⟩
    split at q2
    · rename_i ys hM2
      obtain ⟨us, e2, r2⟩ := hot_lst mo2 hM2
      refine ⟨a, us, w, rfl, rfl, e2, by rw [r2.length]; exact q2.1, ?_⟩
      exact fin_write (fin.ev (ev.trans ev2)) dj2 mo2 hM2 (r2.append (.cons rp2 .nil)) q2.2
    · exact q2.elim
  | _ => exact q.elim
theorem RpL.setL {K : Fg} {A : Mem} {H : Hp} : ∀ {vs : List V} {ds : List D} (j : Nat) {v : V} {d : D}, RpL K A H vs ds → Rp K A H v d → RpL K A H (vs.set j v) (ds.set j d)
  | _, _, _, _, _, .nil, _ => .nil
  | _, _, 0, _, _, .cons _ b, r => .cons r b
  | _, _, j + 1, _, _, .cons a b, r => .cons a (RpL.setL j b r)
theorem d_gsub {i : Expr} {ti : DTE} (ho : DE X c o to) (hi : DE X c i ti)
    (ha : ∀ v, assign (.Subscript o i pos) X.env v = (do
      let ov ← holding [v] (eval o X.env)
      let iv ← holding [v, ov] (eval i X.env)
      standAt pos
      holding [v, ov, iv] (setItem ov iv v)
      release [v, ov, iv] []) := by intro _; rfl) : DG X c vs (.Subscript o i pos) (dgSub to ti) :=
  (pg_sub ho hi set_list ha).imp fun v σ H Q ⟨d, ds, M, F, P, at', rp, ht, fin⟩ => by
    refine ⟨ds, M, F, _, at', ht, fun x M1 u H1 q dj ev mo rx => ?_⟩
    refine ⟨ds, M1, F, _, at'.go dj ev mo, q, fun y M2 w H2 q2 dj2 ev2 mo2 ry => ?_⟩
    have rx2 := Rp.ev ev2 x rx
    have rd2 := Rp.ev (ev.trans ev2) d rp
    split at q2
    · rename_i a k
      cases rx2
      cases ry
      split at q2
      · rename_i xs hM
        obtain ⟨us, e2, r2⟩ := hot_lst mo2 hM
        unfold setD at q2
        split at q2
        · rename_i j hj
          refine ⟨a, us, k, j, rfl, rfl, e2, by rw [r2.length]; exact hj, ?_⟩
          have hd := mo2.domH (mj_l hM)
          have ev3 : Ev M2 H2 (mput M2 a (some (.lst (xs.set j d)))) (upd H2 a (.lst (us.set j v))) := Ev.write hM hd
          refine fin ds _ σ _ q2 (dj_put dj2 (dj_here dj2 hM)) ((ev.trans ev2).trans ev3) ?_ ?_ .refl
          · rw [mj_put]
            exact mo2.write (mj_l hM) (fun ps z => by rw [e2] at z; cases z) ⟨_, upd_same, RpL.kp (Ev.write (mj_l hM) hd).kp _ (r2.setL j rd2)⟩
          · exact at'.sl.kp ((ev.trans ev2).trans ev3).kpF
        · exact q2.elim
      · exact q2.elim
    · exact q2.elim
end
end DL

set_option Elab.async false
set_option linter.all false
set_option maxRecDepth 100000
set_option maxHeartbeats 4000000
namespace DL
open PySem PySem.Spec PyProof.Rows L2 HotX
/-! ### the end of a list's iterator, of a zip, where an exception is handled -/
section
variable {P : Program} {w : World} {A : Around} {E : Value → Shared → Prop} {s : Shared}
theorem hot_keep {A : Around} {x : Addr} {h h' : Heap} (hot : HotAt A x h) (k : ∀ o, h.get? x = some o → h'.get? x = some o) : HotAt A x h' :=
  let ⟨a, o, vs, e, r⟩ := hot
  ⟨a, o, vs, k o e, r⟩
theorem list_end_hot {x1 it l : Addr} {i : Nat} {items : Array Value} {Q : Value → Shared → Prop} (hot : HotAt A x1 s.heap) (hne : x1 ≠ it)
    (hit : s.heap.IsListIter it l i) (hl : s.heap.IsList l items) (hx : items[i]? = none)
    (hE : ∀ hp e, Heap.ExtBut it s.heap hp → (∃ o, hp.get? e = some o ∧ o.cls = .type "StopIteration") → E (.ref e) { s with heap := hp }) :
    wpAny (model P w) A (Builtin.SmallTypes.nextOf (.ref it)) Q E s := by
  obtain ⟨o, ho, hc, hd⟩ := id hit
  obtain ⟨ol, hol, _, nl, hdl⟩ := hl
  unfold Builtin.SmallTypes.nextOf
  refine wpAny_bind (wpAny_callSpecial?_slot (name := Str.ofString "__next__") hit.typeIs slot_listiter_next
    (wpAny_call_entry slot_listiter_next hit.typeIs entry_listiter_next ?_ (args_listiter_next _)))
  show wpAny _ _ (field (.ref it) 0 >>= _) _ _ s
  refine wpAny_bind (wpAny_field ho hd (x := .ref l) rfl ?_)
  show wpAny _ _ (if (Value.ref l == Value.none) = true then _ else _) _ _ s
  rw [if_neg (show ¬ ((Value.ref l == Value.none) = true) from Bool.false_ne_true)]
  show wpAny _ _ (field (.ref it) 1 >>= _) _ _ s
  refine wpAny_bind (wpAny_field ho hd (x := .int i 0) rfl ?_)
  show wpAny _ _ (seqItems? (.ref l) >>= _) _ _ s
  refine wpAny_bind (wpAny_seqItems hol hdl ?_)
  simp only [Int.toNat_natCast, hx]
  refine wpAny_bind (wpAny_rule (wpAny_bind (wpAny_setField ho hd (by simp) ?_)))
  show wpAny _ _ (newExc (.type "StopIteration") [] >>= _) _ _ _
  refine wpAny_bind ?_
  simp only [newExc, newTuple]
  refine wpAny_bind (wpAny_newObj_type ?_ (by size_fits))
  refine wpAny_bind (m := firstArgMember _ _) (wpAny_of_eq (a := Value.none) (by first | rfl | (simp only [firstArgMember]; rfl)) ?_)
  refine wpAny_newObj_type ?_ (by size_fits)
  obtain ⟨hh, o1, vs1, h1, d1, c1⟩ := hot
  have k1 : (s.heap.update it (Obj.mapFields fun vs => vs.setIfInBounds 0 Value.none)).get? x1 = some o1 := (Heap.get?_update_other _ _ (Ne.symm hne)).trans h1
  refine raiseNew_hot ⟨hh, o1, vs1, Heap.get?_push_of_some _ (Heap.get?_push_of_some _ k1), d1, c1⟩ (Nat.ne_of_lt (Heap.lt_size (Heap.get?_push_of_some _ k1))) (Heap.get?_push_size _ rfl) rfl (by first | (simp; done) | (simp; omega) | (simp only [Array.size_append]; simp; omega)) ?_
  refine hE _ _ (fun b o hb e => ?_) ⟨_, Heap.get?_update_self _ (Heap.get?_push_size _ rfl) rfl, rfl⟩
  have k2 : (s.heap.update it (Obj.mapFields fun vs => vs.setIfInBounds 0 Value.none)).get? b = some o := (Heap.get?_update_other _ _ (Ne.symm hb)).trans e
  rw [Heap.get?_update_other _ _ (Nat.ne_of_gt (Heap.lt_size (Heap.get?_push_of_some _ k2)))]
  exact Heap.get?_push_of_some _ (Heap.get?_push_of_some _ k2)
theorem zip_end_hot0 {x1 z TI TO i1 i2 l1 l2 : Addr} {k1 : Nat} {xs : Array Value} {Q : PySem.Fin → Shared → Prop} (hot : HotAt A x1 s.heap) (n1 : x1 ≠ z) (n2 : x1 ≠ i1) (D : ZipApart z TI TO i1 i2 l1 l2)
    (hz : IsZip s.heap z TI TO .none) (hTI : IsPair s.heap TI (.ref i1) (.ref i2))
    (h1 : s.heap.IsListIter i1 l1 k1) (hl1 : s.heap.IsList l1 xs) (hx : xs[k1]? = none)
    (hE : ∀ hp e, (∀ c o, c ≠ z → c ≠ TO → c ≠ i1 → c ≠ i2 → s.heap.get? c = some o → hp.get? c = some o) → (∃ o, hp.get? e = some o ∧ o.cls = .type "StopIteration") → E (.ref e) { s with heap := hp }) :
    wpAny (model P w) A (Builtin.«zip.__next__» ⟨[.ref z], []⟩) Q E s := by
  show wpAny _ _ (field (.ref z) 2 >>= _) _ _ _
  refine wpAny_bind (wpAny_field hz rfl (x := .bool false) rfl ?_)
  show wpAny _ _ (field (.ref z) 3 >>= _) _ _ _
  refine wpAny_bind (wpAny_field hz rfl (x := .ref TI) rfl ?_)
  refine wpAny_bind (wpAny_seqItems hTI rfl ?_)
  show wpAny _ _ (Builtin.SmallTypes.ownedTupleIsFree (.ref z) >>= _) _ _ _
  refine wpAny_bind ?_
  unfold Builtin.SmallTypes.ownedTupleIsFree
  refine wpAny_bind (wpAny_field hz rfl (x := .none) rfl (wpAny_pure ?_))
  simp only [if_true]
  refine wpAny_bind (wpAny_rule ?_)
  refine wpAny_bind (wpAny_field hz rfl (x := .ref TO) rfl ?_)
  refine wpAny_bind (wpAny_setField_rec hz (by simp) fun g1 hz1 hs1 => ?_)
  replace hz1 : IsZip g1 z TI TO .ellipsis := hz1
  refine wpAny_bind ?_
  simp only [List.zipIdx_cons, List.zipIdx_nil, List.forIn_cons, List.forIn_nil]
  refine wpAny_bind (wpAny_bind (wpAny_onRaise ?_))
  show wpAny _ _ (Builtin.SmallTypes.nextOf (.ref i1) >>= _) _ _ _
  refine wpAny_bind (list_end_hot (x1 := x1) (hot_keep hot fun o e => hs1.extBut _ _ n1 e) n2 (h1.extBut hs1.extBut D.i1z) (hl1.extBut hs1.extBut D.l1z) hx fun g2 e hs2 he => ?_)
  obtain ⟨oe, hoe, hce⟩ := he
  have hz2 : IsZip g2 z TI TO .ellipsis := hs2 _ _ D.i1z.symm hz1
  have hez : e ≠ z := fun x => by subst x; rw [hz2] at hoe; cases hoe; simp at hce
  exact wpAny_setField_rec hz2 (by simp) fun g3 _ hs3 => hE g3 e (fun c o c1 _ c3 _ x => hs3.extBut _ _ c1 (hs2 _ _ c3 (hs1.extBut _ _ c1 x))) ⟨oe, hs3.extBut _ _ hez hoe, hce⟩
theorem zip_end_hot {x1 z TI TO i1 i2 l1 l2 : Addr} {k1 : Nat} {xs : Array Value} {Q : Option Value → Shared → Prop} (hot : HotAt A x1 s.heap) (n1 : x1 ≠ z) (n2 : x1 ≠ i1) (D : ZipApart z TI TO i1 i2 l1 l2)
    (hz : IsZip s.heap z TI TO .none) (hTI : IsPair s.heap TI (.ref i1) (.ref i2)) (h1 : s.heap.IsListIter i1 l1 k1) (hl1 : s.heap.IsList l1 xs) (hx : xs[k1]? = none)
    (hQ : ∀ hp, (∀ c o, c ≠ z → c ≠ TO → c ≠ i1 → c ≠ i2 → s.heap.get? c = some o → hp.get? c = some o) → Q none { s with heap := hp }) : wpAny (model P w) A (pyNext (.ref z)) Q E s := by
  have hT : s.TypeIs (.ref z) "zip" := ⟨_, hz, rfl⟩
  unfold pyNext
  refine wpAny_bind (wpAny_attempt (wpAny_callSpecial?_slot (name := Str.ofString "__next__") hT F.slot_zip_next
    (wpAny_call_entry F.slot_zip_next hT F.entry_zip_next (zip_end_hot0 (A := A.in1) hot n1 n2 D hz hTI h1 hl1 hx fun hp e hk he => ?_) (F.args_zip_next_1 _))))
  obtain ⟨o, ho, hc⟩ := he
  refine wpAny_bind (wpAny_isInstance (T := "StopIteration") (b := true) ⟨o, ho, hc⟩ isSubtype_stop ?_)
  exact wpAny_pure (hQ _ hk)
/-! ### (a, b, ..) = a tuple, there -/
theorem tuple_end_hot {x1 it t : Addr} {i : Nat} {items : Array Value} {Q : Option Value → Shared → Prop} (hot : HotAt A x1 s.heap) (hne : x1 ≠ it)
    (hit : IsTupIter s.heap it t i) (ht : IsTup s.heap t items) (hx : items[i]? = none)
    (hQ : ∀ hp, Heap.ExtBut it s.heap hp → Q none { s with heap := hp }) : wpAny (model P w) A (pyNext (.ref it)) Q E s := by
  obtain ⟨o, ho, hc, hd⟩ := id hit
  obtain ⟨ol, hol, _, nl, hdl⟩ := ht
  unfold pyNext
  refine wpAny_bind (wpAny_attempt (wpAny_callSpecial?_slot (name := Str.ofString "__next__") hit.typeIs slot_tupleiter_next
    (wpAny_call_entry slot_tupleiter_next hit.typeIs entry_tupleiter_next ?_ (args_tupleiter_next _))))
  show wpAny _ _ (field (.ref it) 0 >>= _) _ _ s
  refine wpAny_bind (wpAny_field ho hd (x := .ref t) rfl ?_)
  show wpAny _ _ (if (Value.ref t == Value.none) = true then _ else _) _ _ s
  rw [if_neg (show ¬ ((Value.ref t == Value.none) = true) from Bool.false_ne_true)]
  show wpAny _ _ (field (.ref it) 1 >>= _) _ _ s
  refine wpAny_bind (wpAny_field ho hd (x := .int i 0) rfl ?_)
  show wpAny _ _ (seqItems? (.ref t) >>= _) _ _ s
  refine wpAny_bind (wpAny_seqItems hol hdl ?_)
  simp only [Int.toNat_natCast, hx]
  refine wpAny_bind (wpAny_rule (wpAny_bind (wpAny_setField ho hd (by simp) ?_)))
  show wpAny _ _ (newExc (.type "StopIteration") [] >>= _) _ _ _
  refine wpAny_bind ?_
  simp only [newExc, newTuple]
  refine wpAny_bind (wpAny_newObj_type ?_ (by size_fits))
  refine wpAny_bind (m := firstArgMember _ _) (wpAny_of_eq (a := Value.none) (by first | rfl | (simp only [firstArgMember]; rfl)) ?_)
  refine wpAny_newObj_type ?_ (by size_fits)
  obtain ⟨hh, o1, vs1, h1, d1, c1⟩ := hot
  have k1 : (s.heap.update it (Obj.mapFields fun vs => vs.setIfInBounds 0 Value.none)).get? x1 = some o1 := (Heap.get?_update_other _ _ (Ne.symm hne)).trans h1
  refine raiseNew_hot ⟨hh, o1, vs1, Heap.get?_push_of_some _ (Heap.get?_push_of_some _ k1), d1, c1⟩ (Nat.ne_of_lt (Heap.lt_size (Heap.get?_push_of_some _ k1))) (Heap.get?_push_size _ rfl) rfl (by first | (simp; done) | (simp; omega) | (simp only [Array.size_append]; simp; omega)) ?_
  refine wpAny_bind (wpAny_isInstance (T := "StopIteration") (b := true) ⟨_, Heap.get?_update_self _ (Heap.get?_push_size _ rfl) rfl, rfl⟩ isSubtype_stop ?_)
  refine wpAny_pure (hQ _ fun b o hb e => ?_)
  have k2 : (s.heap.update it (Obj.mapFields fun vs => vs.setIfInBounds 0 Value.none)).get? b = some o := (Heap.get?_update_other _ _ (Ne.symm hb)).trans e
  rw [Heap.get?_update_other _ _ (Nat.ne_of_gt (Heap.lt_size (Heap.get?_push_of_some _ k2)))]
  exact Heap.get?_push_of_some _ (Heap.get?_push_of_some _ k2)
theorem unpack_hot {x1 t : Addr} {items : Array Value} {Q : List Value → Shared → Prop} (hot : HotAt A x1 s.heap) (ht : IsTup s.heap t items)
    (hQ : ∀ hp, Heap.ExtBut s.heap.objs.size s.heap hp → Q items.toList { s with heap := hp }) : wpAny (model P w) A (unpackItems (.ref t) items.size none) Q E s := by
  have hlt : t ≠ s.heap.objs.size := by obtain ⟨o, ho, _⟩ := ht; exact Nat.ne_of_lt (Heap.lt_size ho)
  have hx : x1 ≠ s.heap.objs.size := by obtain ⟨_, o, _, ho, _⟩ := hot; exact Nat.ne_of_lt (Heap.lt_size ho)
  unfold unpackItems
  refine wpAny_bind ?_
  unfold notIterableAtAll
  refine wpAny_bind (wpAny_specialOf ht.typeIs slot_tuple_iter.lookup ?_)
  refine wpAny_pure ?_
  simp only [Bool.false_eq_true, if_false]
  refine wpAny_bind (wpAny_holding (iter_tuple ht ?_))
  refine wpAny_bind (wpAny_holding (draw_tuple hlt items.size 0 _ _ ⟨_, Heap.get?_push_size _ rfl, rfl, rfl⟩ (ht.push _) (by omega) fun g1 hit1 hs1 => ?_))
  have hall : List.take items.size (List.drop 0 items.toList) = items.toList := by
    rw [List.drop_zero]; exact List.take_of_length_le (by simp)
  rw [hall]
  rw [if_neg (by simp)]
  have ht1 : IsTup g1 t items := (ht.push _).extBut hs1.extBut hlt
  refine wpAny_bind (wpAny_holding (tuple_end_hot (x1 := x1) (hot_keep hot fun o e => hs1.extBut _ _ hx (Heap.get?_push_of_some _ e)) hx hit1 ht1 (by simp) fun g2 he2 => ?_))
  simp only [Option.isSome_none, Bool.false_eq_true, if_false]
  exact wpAny_pure (hQ g2 fun b o hb e => he2 b o hb (hs1.extBut b o hb (Heap.get?_push_of_some _ e)))
end
/-- in every state of X the exception x1 is handled -/
def HotI (X : Cx) (x1 : Addr) : Prop := ∀ pins σ H s, Inv X pins σ H s → HotAt X.A x1 s.heap
theorem pg_tupE {X : Cx} {x1 : Addr} {es : List Expr} {k : Nat} {t : TGs} {n : Nat} {pos : Pos} (hc : HotI X x1) (h : PGs X es t)
    (hn : (assignEach es X.env).length = n := by rfl) (hst : (assignEach es X.env).findIdx? (·.1) = none := by rfl) : PG X (.Tuple es k pos) (gTup X.K n t) := by
  refine ⟨fun pins s σ H v u Q I r hw => ?_⟩
  obtain ⟨a, xs, e1, hq, hl, hw⟩ := hw
  subst e1
  cases r
  obtain ⟨its, rv, ht, hz⟩ := I.tuple hq
  rw [assign_Tuple]
  refine wpAny_bind (wpAny_standAt ?_)
  unfold unpack
  have hsz : (assignEach es X.env).length = its.toArray.size := by rw [hn, List.size_toArray, ← rv.length, hl]
  rw [hsz, hst]
  refine wpAny_bind (wpAny_holding (unpack_hot (hc pins σ H s I) ht fun hp hx => ?_))
  have I1 : Inv X pins σ H { s with heap := hp } := I.kept (t' := s.toks) fun b o e => hx b o (Nat.ne_of_lt (Heap.lt_size e)) e
  exact h.run pins _ σ H xs _ Q I1 (by simpa using rv) hw
end DL

set_option Elab.async false
set_option linter.all false
set_option maxRecDepth 100000
set_option maxHeartbeats 4000000
namespace DL
open PySem PySem.Spec PyProof.Rows L2 HotX
/-! ### a list comprehension over a zip of two lists, where the exception x1 is handled -/
structure TurnE (x1 : Addr) (P : Program) (w : World) (K : Fg) (tg : Expr) (J : It) (fp : List Addr) (it : Addr) (tn : Nat → Heap → Prop) : Prop where
  obj : ∀ i h, tn i h → ∀ b ∈ fp, ∃ o, h.get? b = some o ∧ ∀ v, o.data ≠ .cell v
  keep : ∀ i h h', tn i h → (∀ b ∈ fp, ∀ o, h.get? b = some o → h'.get? b = some o) → tn i h'
  item : ∀ (X : Cx), X.prog = P → X.w = w → X.K = K → ∀ (i : Nat) (pins : List (Addr × Obj)) (s : Shared) (σ : L2.St) (H : Hp) (E : Value → Shared → Prop), Inv X pins σ H s → (∀ b ∈ fp, FpOk X pins H b) → tn i s.heap → J.go i H →
    wpAny (model P w) X.A (pyNext (.ref it)) (fun r s1 => ∃ u, r = some u ∧
      wpAny (model P w) X.A (letOwnedTupleGo tg (.ref it) u) (fun _ s2 => ∃ x H', Inv X pins σ H' s2 ∧ L2.RelV x u ∧ J.yld i H x H' ∧ tn (i + 1) s2.heap ∧ ∀ b ∈ fp, H' b = none) E s1) E s
  done : ∀ (X : Cx), X.prog = P → X.w = w → X.K = K → ∀ (i : Nat) (pins : List (Addr × Obj)) (s : Shared) (σ : L2.St) (H : Hp) (E : Value → Shared → Prop), HotAt X.A x1 s.heap → Inv X pins σ H s → (∀ b ∈ fp, FpOk X pins H b) → tn i s.heap → J.stop i H →
    wpAny (model P w) X.A (pyNext (.ref it)) (fun r s1 => r = none ∧ Inv X pins σ H s1) E s
  self : ∀ (A : Around) (i : Nat) (s : Shared) (Q : Value → Shared → Prop) (E : Value → Shared → Prop), tn i s.heap → Q (.ref it) s → wpAny (model P w) A (pyIter (.ref it)) Q E s
/-- as Itz; both lists end at once -/
def ItzE (K : Fg) (a b : Addr) : It := ⟨(Itz K a b).go, (Itz K a b).yld, fun i H => ∃ xs : List V, SqL K H a xs ∧ xs.length ≤ i⟩
theorem turn_zipE {x1 : Addr} {P : Program} {w : World} {K : Fg} {elts : List Expr} {kk : Nat} {tpos : Pos} {a b z TI TO i1 i2 : Addr} (D : ZipApart z TI TO i1 i2 a b) (n1 : x1 ≠ z) (n2 : x1 ≠ i1) :
    TurnE x1 P w K (.Tuple elts kk tpos) (ItzE K a b) [z, TI, TO, i1, i2] z (fun i h => IsZip h z TI TO .none ∧ IsPair h TI (.ref i1) (.ref i2) ∧ (∃ x y, IsPair h TO x y) ∧ h.IsListIter i1 a i ∧ h.IsListIter i2 b i) where
  obj := (turn_zip (P := P) (w := w) (K := K) (elts := elts) (kk := kk) (tpos := tpos) D).obj
  keep := (turn_zip (P := P) (w := w) (K := K) (elts := elts) (kk := kk) (tpos := tpos) D).keep
  item := by
    intro X hP hw hK i pins s σ H E I hf st hg
    subst hP hw hK
    obtain ⟨hz, hTI, ⟨x0, y0, hTO⟩, h1, h2⟩ := st
    obtain ⟨xs, ys, x, y, hqx, hqy, hx, hy⟩ := hg
    obtain ⟨its, rv, p, _⟩ := I.list hqx
    obtain ⟨its2, rv2, p2, _⟩ := I.list hqy
    obtain ⟨u, hu, ru⟩ := rv.get hx
    obtain ⟨u2, hu2, ru2⟩ := rv2.get hy
    have hzl : z < s.heap.objs.size := Heap.lt_size hz
    refine wpAny_pyNext_zip_item D hz hTI hTO h1 h2 p.isList p2.isList (x := u) (y := u2) (by simpa using hu) (by simpa using hu2) fun h' z' TO' h1' h2' hT hsz hk => ?_
    refine ⟨_, rfl, wpAny_letOwnedTupleGo_zip (s := { s with heap := h' }) z' fun h'' z'' sb => ?_⟩
    have hT2 : h''.get? s.heap.objs.size = some { cls := .type "tuple", data := .seq #[u, u2] } := (sb.2 _ (Nat.ne_of_gt hzl)).trans hT
    have new : ObjOk X.prog X.w (upd H s.heap.objs.size (.tup [x, y])) h'' s.heap.objs.size (.tup [x, y]) :=
      ⟨by show 2 ≤ sizeLine; decide, [u, u2], .cons ru (.cons ru2 .nil), ⟨_, hT2, rfl, _, rfl⟩⟩
    have I1 : Inv X pins σ (upd H s.heap.objs.size (.tup [x, y])) { s with heap := h'' } :=
      I.turnedNew (t' := s.toks) (ch := [z, TI, TO, i1, i2]) (fun c o hb q => (sb.2 c (fun q' => hb (by simp [q']))).trans (hk c o (fun q' => hb (by simp [q'])) (fun q' => hb (by simp [q'])) (fun q' => hb (by simp [q'])) (fun q' => hb (by simp [q'])) q)) hf (Nat.le_refl _) new
    refine ⟨.ref s.heap.objs.size, _, I1, rfl, ⟨_, x, y, rfl, I.hok.fresh (Nat.le_refl _), rfl, fun l hl => by rw [I.list_inj hl hqx]; exact hx, fun l hl => by rw [I.list_inj hl hqy]; exact hy⟩, ⟨z'', ?_, ⟨u, u2, ?_⟩, ?_, ?_⟩, fun c hcm => ?_⟩
    · exact (sb.2 _ D.TIz).trans (hk _ _ D.TIz D.TITO D.TIi1 D.TIi2 hTI)
    · exact (sb.2 _ D.TOz).trans TO'
    · exact h1'.at fun o q => (sb.2 _ D.i1z).trans q
    · exact h2'.at fun o q => (sb.2 _ D.i2z).trans q
    · have hlt : c < s.heap.objs.size := by
        rcases (show c = z ∨ c = TI ∨ c = TO ∨ c = i1 ∨ c = i2 by simpa using hcm) with q | q | q | q | q
        · rw [q]; exact hzl
        · rw [q]; exact Heap.lt_size hTI
        · rw [q]; exact Heap.lt_size hTO
        · rw [q]; obtain ⟨_, e1, _⟩ := h1; exact Heap.lt_size e1
        · rw [q]; obtain ⟨_, e2, _⟩ := h2; exact Heap.lt_size e2
      rw [upd_ne (Nat.ne_of_lt hlt)]
      exact (hf c hcm).1
  done := by
    intro X hP hw hK i pins s σ H E hot I hf st hg
    subst hP hw hK
    obtain ⟨hz, hTI, ⟨x0, y0, hTO⟩, h1, h2⟩ := st
    obtain ⟨xs, hqx, hend⟩ := hg
    obtain ⟨its, rv, p, _⟩ := I.list hqx
    have l1 := rv.length
    exact zip_end_hot hot n1 n2 D hz hTI h1 p.isList (by simp; omega) fun h' hk => ⟨rfl, I.turnedL (t' := s.toks) (ch := [z, TI, TO, i1, i2]) (fun c o hb q =>
      hk c o (fun q' => hb (by simp [q'])) (fun q' => hb (by simp [q'])) (fun q' => hb (by simp [q'])) (fun q' => hb (by simp [q'])) q) hf⟩
  self := fun A i s Q E st h => wpAny_pyIter_zip st.1 h
/-- what is known of the handled exception -/
structure HotP (X : Cx) (pins : List (Addr × Obj)) (H : Hp) (s : Shared) (x1 : Addr) : Prop where
  hot : HotAt X.A x1 s.heap
  free : H x1 = none
  nL : x1 ≠ X.env.locals
  nF : x1 ∉ X.fs
def PIEE (X : Cx) (pins : List (Addr × Obj)) (σ : L2.St) (x1 : Addr) (tg : Expr) (R : It → Hp → Prop) (itv : Value) (s2 : Shared) : Prop :=
  ∃ (it : Addr) (fp : List Addr) (tn : Nat → Heap → Prop) (J : It) (H' : Hp), itv = .ref it ∧ Inv X pins σ H' s2 ∧ TurnE x1 X.prog X.w X.K tg J fp it tn ∧ tn 0 s2.heap ∧ (∀ b ∈ fp, FpOk X pins H' b ∧ b ≠ x1) ∧ HotP X pins H' s2 x1 ∧ R J H'
structure PIX (X : Cx) (x1 : Addr) (tg iter : Expr) (wi : TI) : Prop where
  run : ∀ (pins : List (Addr × Obj)) (s : Shared) (σ : L2.St) (H : Hp) (R : It → Hp → Prop), Inv X pins σ H s → wi σ H R →
    wpAny (model X.prog X.w) X.A (eval iter X.env) (fun v s1 => wpAny (model X.prog X.w) X.A (pyIter v) (PIEE X pins σ x1 tg R) X.xe s1) X.xe s
end DL
namespace DL
open PySem PySem.Spec PyProof.Rows L2 HotX
section
variable {X : Cx}
theorem lcE_core {x1 : Addr} {pins : List (Addr × Obj)} {s : Shared} {σ : L2.St} {H : Hp} {Q : VK} {elt tg iter : Expr} {ifs : List Expr} {scope : Scope} {own : List (Str × Nat)} {pos pos' : Pos} {wi : TI} {g : TG} {tt : TT} {te : TE} {use : Option (Value → Sem Unit)} {Qf : Value → Shared → Prop}
    (hN : X.N.Nodup) (I : Inv X pins σ H s) (hi : PIX X x1 tg iter wi) (ok : BlkOk X.N X.env.scope scope own)
    (hg : ∀ (s : Shared) (H : Hp) (C : Addr) (cl : List (Str × Addr)) (fp : List Addr), HotI (X.blk s H scope (compEnvC scope cl C X.env) fp) x1 → PG (X.blk s H scope (compEnvC scope cl C X.env) fp) tg g) (ht : ∀ (s : Shared) (H : Hp) (C : Addr) (cl : List (Str × Addr)) (fp : List Addr), PTs (X.blk s H scope (compEnvC scope cl C X.env) fp) ifs tt)
    (he : ∀ (s : Shared) (H : Hp) (C : Addr) (cl : List (Str × Addr)) (fp : List Addr), PE (X.blk s H scope (compEnvC scope cl C X.env) fp) elt te) (hs : ∀ x, foldedSetIterable iter X.env x = pure x)
    (h : tLc wi g tt te (own.map (·.2)) σ H Q)
    (hRR : ∀ D C s' m H', Inv X pins σ H' s' → Q (.ref D) H' → s'.heap.Ns C m → FpOk X pins H' C → compPost (model X.prog X.w) X.A X.xe use Qf (.ref D) C (.ok .next) s') :
    wpAny (model X.prog X.w) X.A (comprehension (.ListComp elt [⟨tg, iter, ifs, 0⟩] scope pos) scope X.env pos' (newList []) false (eval iter X.env) use) Qf X.xe s := by
  have hfree : ∀ y ∈ scope.names, y.2 = .free → ∃ c, X.env.cells.lookup y.1 = some c := fun y hy e => by
    rcases ok.free y hy e with k | k
    · exact I.ok.has _ (.inl k)
    · exact I.ok.has _ (.inr k)
  refine wpAny_comprehension_free (use := use) rfl hs (closure_ok hfree) ok.kind (fun y hy e => by rw [ok.uniq y hy, e])
    (thn (hi.run pins s σ H _ I h) fun xv s1 hx => thn hx fun itv s2 h2 => ?_)
  obtain ⟨it, fp, tn, J, H2, e, I2, T, st2, f2, hp2, q⟩ := h2
  subst e
  refine wpAny_newObj_type (newEnv_comp ?_) (by show 0 ≤ sizeLine; decide)
  generalize hD : s2.heap.objs.size = D
  have hDn : H2 D = none := I2.hok.fresh (Nat.le_of_eq hD)
  obtain ⟨W, ⟨m0, w0⟩, turn⟩ := q D hDn
  generalize hs3 : ({ s2 with heap := s2.heap.push { cls := .type "list", data := .seq ([] : List Value).toArray } } : Shared) = s3
  have I3 : Inv X pins σ (upd H2 D (.lst [])) s3 := by
    rw [← hs3]
    refine I2.laid (t' := s2.toks) (fun b o e => Heap.get?_push_of_some _ e) (Nat.le_of_eq hD) ⟨Nat.zero_le _, [], 0, .nil, ?_⟩
    rw [← hD]
    exact Heap.get?_push_size _ rfl
  have h3 : s3.heap = s2.heap.push { cls := .type "list", data := .seq ([] : List Value).toArray } := by rw [← hs3]
  have sz : ∀ b ∈ fp, b < s2.heap.objs.size := fun b hb => by
    obtain ⟨o, e, _⟩ := T.obj _ _ st2 b hb
    exact Heap.lt_size e
  have f3 : ∀ b ∈ fp, FpOk X pins (upd H2 D (.lst [])) b ∧ b < s3.heap.objs.size := fun b hb => by
    have hlt := sz b hb
    refine ⟨⟨?_, ((f2 b hb).1).2⟩, by rw [h3, Heap.size_push]; exact Nat.lt_succ_of_lt hlt⟩
    rw [upd_ne (by rw [← hD]; exact Nat.ne_of_lt hlt)]
    exact (f2 b hb).1.1
  have st3 : tn 0 s3.heap := T.keep _ _ _ st2 fun b _ o e => by rw [h3]; exact Heap.get?_push_of_some _ e
  -- the handled exception
  have x1lt : x1 < s2.heap.objs.size := by
    obtain ⟨_, o, _, e, _⟩ := hp2.hot
    exact Heap.lt_size e
  have hot3 : HotAt X.A x1 s3.heap := hot_keep hp2.hot fun o e => by rw [h3]; exact Heap.get?_push_of_some _ e
  have x1n : (upd H2 D (.lst [])) x1 = none := by
    rw [upd_ne (by rw [← hD]; exact Nat.ne_of_lt x1lt)]
    exact hp2.free
  have I4 := block_start I3 ok hN f3
  have pg := hg s3 (upd H2 D (.lst [])) s3.heap.objs.size (cellsFrom (s3.heap.objs.size + 1) scope.names (cloFrom X.env.cells scope.names [])) fp
  have pt := ht s3 (upd H2 D (.lst [])) s3.heap.objs.size (cellsFrom (s3.heap.objs.size + 1) scope.names (cloFrom X.env.cells scope.names [])) fp
  have pe := he s3 (upd H2 D (.lst [])) s3.heap.objs.size (cellsFrom (s3.heap.objs.size + 1) scope.names (cloFrom X.env.cells scope.names [])) fp
  show codeAny _ _ (.compStart (.ListComp elt [⟨tg, iter, ifs, 0⟩] scope pos) 0 (.ref it) (.ref D) (compEnvC scope (cellsFrom (s3.heap.objs.size + 1) scope.names (cloFrom X.env.cells scope.names [])) s3.heap.objs.size X.env)) (compPost (model X.prog X.w) X.A X.xe use Qf (.ref D) s3.heap.objs.size) { s3 with heap := pushCells (s3.heap.push { cls := .type "dict", data := .dict #[] }) scope.names }
  have nfp : ∀ b ∈ fp, (upd H2 D (.lst [])) b = none := fun b hb => (f3 b hb).1.1
  generalize hce : compEnvC scope (cellsFrom (s3.heap.objs.size + 1) scope.names (cloFrom X.env.cells scope.names [])) s3.heap.objs.size X.env = ce at I4 pg pt pe ⊢
  have cL : ce.locals = s3.heap.objs.size := by subst hce; rfl
  generalize hH3 : upd H2 D (.lst []) = H3 at I3 I4 pg pt pe w0 nfp f3 x1n
  generalize hs4 : ({ s3 with heap := pushCells (s3.heap.push { cls := .type "dict", data := .dict #[] }) scope.names } : Shared) = s4 at I4 ⊢
  have st4 : tn 0 s4.heap := T.keep _ _ _ st3 fun b _ o e => by rw [← hs4]; exact pushCells_keeps _ _ _ _ (Heap.get?_push_of_some _ e)
  have stat : ∀ {σ' : L2.St} {H' : Hp} {s' : Shared}, Inv (X.blk s3 H3 scope ce fp) [] σ' H' s' → (∀ b ∈ fp, H' b = none) → ∀ b ∈ fp, FpOk (X.blk s3 H3 scope ce fp) [] H' b := fun {σ' H' s'} I' hn b hb =>
    ⟨hn b hb, (I'.ok.exf b hb).1, I'.ok.exfs b hb, .inl hb, fun x c e => (I'.ok.exf b hb).2 x c e, fun p hp => absurd (show p ∈ ([] : List (Addr × Obj)) ++ [] from hp) (by simp)⟩
  have x1fs : x1 ∉ frs X.stack := fun hm => (List.mem_cons.mp (I3.stkSub x1 hm)).elim hp2.nL hp2.nF
  have hotB : HotI (X.blk s3 H3 scope ce fp) x1 := fun pins' σ' H' s' I' => hot_keep hot3 fun o e =>
    I'.base.keep x1 o e x1n x1fs fun z => (f2 x1 z).2 rfl
  have loop : codeAny (model X.prog X.w) X.A (.compLoop (.ListComp elt [⟨tg, iter, ifs, 0⟩] scope pos) 0 (.ref it) (.ref D) ce) (compPost (model X.prog X.w) X.A X.xe use Qf (.ref D) s3.heap.objs.size) s4 := by
    refine compLoop_any (fun n s' => ∃ i H', Inv (X.blk s3 H3 scope ce fp) [] (L2.wipe σ (own.map (·.2))) H' s' ∧ tn i s'.heap ∧ (∀ b ∈ fp, H' b = none) ∧ W i n H') ?_ m0 ⟨0, H3, I4, st4, nfp, w0⟩
    rintro n s5 ⟨i, H5, I5, st5, n5, w5⟩
    rcases turn i n H5 w5 with ⟨stop, qq⟩ | ⟨go, Nx, hNx, step⟩
    · have td := T.done (X.blk s3 H3 scope ce fp) rfl rfl rfl i [] s5 _ H5 (fun _ _ => False) (hotB _ _ _ _ I5) I5 (stat I5 n5) st5 stop
      refine thnF td fun r s6 ⟨hr, I6⟩ => ?_
      subst hr
      have I7 : Inv X pins σ H5 s6 := I3.call' (ch := fp) I6.os I6.base I6.hok I6.bare fun b hb => ⟨(f3 b hb).1.2.2.2.1, (f3 b hb).1.2.1, (f3 b hb).1.2.2.2.2.1, (f3 b hb).1.2.2.2.2.2⟩
      have nC : H5 s3.heap.objs.size = none := by
        have z : H5 ce.locals = none := I6.free
        rw [cL] at z
        exact z
      obtain ⟨m, hn, _⟩ := I6.loc
      have hn : s6.heap.Ns ce.locals m := hn
      rw [cL] at hn
      exact hRR D s3.heap.objs.size s6 m H5 I7 qq hn (I3.fpOk (Nat.le_refl _) nC)
    · have ti := T.item (X.blk s3 H3 scope ce fp) rfl rfl rfl i [] s5 _ H5 (fun _ _ => False) I5 (stat I5 n5) st5 go
      refine thnF ti fun r s6 ⟨u, hr, h6⟩ => ?_
      subst hr
      refine thnF h6 fun _ s7 ⟨x, H7, I7, r7, y7, st7, n7⟩ => ?_
      have I7' := I7.pinned (stat I7 n7) (T.obj _ _ st7)
      refine thnF ((pg hotB).run _ s7 _ H7 x u _ I7' r7 (step x H7 y7)) fun _ s8 ⟨σ8, H8, I8, hw8, q8⟩ => ?_
      refine thnF (pt.run _ s8 σ8 H8 _ I8 q8) fun b s9 ⟨H9, I9, q9⟩ => ?_
      have fin : ∀ {s' : Shared} {H' : Hp}, Inv (X.blk s3 H3 scope ce fp) ([] ++ pinsAt fp s7.heap) σ8 H' s' → Nx H' → ∃ m, m < n ∧ ∃ i H', Inv (X.blk s3 H3 scope ce fp) [] (L2.wipe σ (own.map (·.2))) H' s' ∧ tn i s'.heap ∧ (∀ b ∈ fp, H' b = none) ∧ W i m H' := fun {s' H'} I' nx => by
        obtain ⟨m', hm, w'⟩ := hNx H' nx
        have pin' : ∀ b ∈ fp, ∀ o, s7.heap.get? b = some o → s'.heap.get? b = some o ∧ H' b = none := fun b hb o e =>
          let z := I'.pin (b, o) (List.mem_append_right _ (List.mem_append_right _ (mem_pinsAt hb e)))
          ⟨z.1, z.2.1⟩
        have hl : (L2.wipe σ (own.map (·.2))).length = σ8.length := by rw [← hw8, wipe_length]
        refine ⟨m', hm, i + 1, H', (I'.unpinned (pins := [])).weak hl (fun j v e => ?_), T.keep _ _ _ st7 fun b hb o e => (pin' b hb o e).1, fun b hb => ?_, w'⟩
        · rw [← hw8] at e
          exact (wipe_some e).1
        · obtain ⟨o, e, _⟩ := T.obj _ _ st7 b hb
          exact (pin' b hb o e).2
      cases b with
      | false =>
        simp only [Bool.false_eq_true, if_false] at q9 ⊢
        exact fin I9 q9
      | true =>
        simp only [if_true] at q9 ⊢
        refine thnF (pe.run _ s9 σ8 H9 _ I9 q9) fun z s10 ⟨yv, H10, I10, r10, acc, hD10, hz10, nx⟩ => ?_
        exact app_ok (X := X.blk s3 H3 scope ce fp) I10 hD10 hz10 r10 fun s11 I11 => fin I11 nx
  exact codeAny_compStart_list loop (T.self X.A 0 _ _ _ st4 loop)
theorem pe_lcE {x1 : Addr} {elt tg iter : Expr} {ifs : List Expr} {scope : Scope} {own : List (Str × Nat)} {pos : Pos} {wi : TI} {g : TG} {tt : TT} {te : TE} (hN : X.N.Nodup) (hi : PIX X x1 tg iter wi) (ok : BlkOk X.N X.env.scope scope own)
    (hg : ∀ (s : Shared) (H : Hp) (C : Addr) (cl : List (Str × Addr)) (fp : List Addr), HotI (X.blk s H scope (compEnvC scope cl C X.env) fp) x1 → PG (X.blk s H scope (compEnvC scope cl C X.env) fp) tg g) (ht : ∀ (s : Shared) (H : Hp) (C : Addr) (cl : List (Str × Addr)) (fp : List Addr), PTs (X.blk s H scope (compEnvC scope cl C X.env) fp) ifs tt)
    (he : ∀ (s : Shared) (H : Hp) (C : Addr) (cl : List (Str × Addr)) (fp : List Addr), PE (X.blk s H scope (compEnvC scope cl C X.env) fp) elt te) (hs : ∀ x, foldedSetIterable iter X.env x = pure x := by intro _; rfl) :
    PE X (.ListComp elt [⟨tg, iter, ifs, 0⟩] scope pos) (tLc wi g tt te (own.map (·.2))) := by
  refine ⟨fun pins s σ H Q I h => ?_⟩
  rw [eval_ListComp]
  refine lcE_core hN I hi ok hg ht he hs h fun D C s' m H' I' q hn f => ⟨m, hn, fun h'' sb => ?_⟩
  obtain ⟨f0, f1, f2, f3, f4, f5⟩ := f
  exact ⟨.ref D, H', I'.turned (t' := s'.toks) (fun b o hb e => (sb.2 b hb).trans e) f0 f1 f3 f4 f5, rfl, q⟩
/-- zip(e, e2), two lists, where p's exception is handled and pinned -/
def iZipE (K : Fg) (ta : TA) : TI := fun σ H R => ta σ H fun vs H1 => ∃ a b xs ys, vs = [.ref a, .ref b] ∧ SqL K H1 a xs ∧ SqL K H1 b ys ∧ R (ItzE K a b) H1
theorem pi_zipE {p1 : Addr × Obj} {e e2 : Expr} {ta : TA} {p pos tpos : Pos} {elts : List Expr} {kk : Nat} (hot : L2H.Hot1 X.A p1) (hp : p1 ∈ X.pn) (hg : Gl X "zip") (hm : X.mg "zip" = none) (ha : PA X [e, e2] ta)
    (hs : starEach [e, e2] X.env = (false, eval e X.env) :: starEach [e2] X.env := by rfl) (hpl : (backTo pos (starEach [e2] X.env)).any (·.1) = false := by rfl) :
    PIX X p1.1 (.Tuple elts kk tpos) (.Call (.Name "zip" p) [e, e2] [] pos) (iZipE X.K ta) := by
  refine ⟨fun pins s σ H R I h => ?_⟩
  refine Call_ (ld_blt I hg hm PyProof.Rows.boot_zip (PyProof.Rows.callWith_type1 (thn (ha.run pos pins s σ H _ I h) fun us s1 hh => ?_) hs hpl))
  obtain ⟨vs, H1, I1, r1, a, b, xs, ys, ex, hqx, hqy, q⟩ := hh
  subst ex
  match us, r1 with
  | [_, _], .cons r (.cons r' .nil) =>
    cases r
    cases r'
    obtain ⟨its, rv, p1', _⟩ := I1.list hqx
    obtain ⟨its2, rv2, p2, _⟩ := I1.list hqy
    have la : a < s1.heap.objs.size := p1'.lt
    have lb : b < s1.heap.objs.size := p2.lt
    obtain ⟨pg, pf, pL, pF, _⟩ := I1.pin p1 (List.mem_append_left _ hp)
    have xlt : p1.1 < s1.heap.objs.size := Heap.lt_size pg
    refine call_zip_2 p1'.isList p2.isList fun h' hz hTI hTO h1 h2 hsz hk => wpAny_pyIter_zip hz ?_
    have I2 : Inv X pins σ H1 { s1 with heap := h' } := I1.kept (t' := s1.toks) hk
    refine ⟨s1.heap.objs.size + 4, [s1.heap.objs.size + 4, s1.heap.objs.size + 2, s1.heap.objs.size + 3, s1.heap.objs.size, s1.heap.objs.size + 1], _, _, H1, rfl, I2,
      turn_zipE (x1 := p1.1) (PySem.W.ktu_apart s1.heap.objs.size a b la lb) (Nat.ne_of_lt (Nat.lt_of_lt_of_le xlt (Nat.le_add_right _ _))) (Nat.ne_of_lt xlt), ⟨hz, hTI, ⟨_, _, hTO⟩, h1, h2⟩, fun c hcm => ?_, ⟨?_, pf, pL, pF⟩, q⟩
    · have hle : s1.heap.objs.size ≤ c := by
        rcases (show c = s1.heap.objs.size + 4 ∨ c = s1.heap.objs.size + 2 ∨ c = s1.heap.objs.size + 3 ∨ c = s1.heap.objs.size ∨ c = s1.heap.objs.size + 1 by simpa using hcm) with z | z | z | z | z
        · rw [z]; exact Nat.le_add_right _ _
        · rw [z]; exact Nat.le_add_right _ _
        · rw [z]; exact Nat.le_add_right _ _
        · rw [z]; exact Nat.le_refl _
        · rw [z]; exact Nat.le_add_right _ _
      exact ⟨I1.fpOk hle (I1.hok.fresh hle), Nat.ne_of_gt (Nat.lt_of_lt_of_le xlt hle)⟩
    · obtain ⟨hh, vs', e1, e2'⟩ := hot
      exact ⟨hh, p1.2, vs', hk _ _ pg, e1, e2'⟩
end
end DL

set_option Elab.async false
set_option linter.all false
set_option maxRecDepth 100000
set_option maxHeartbeats 4000000
namespace DL
open PySem PySem.Spec PyProof.Rows L2 HotX L2H
/-! ### defs called in an except suite with the exception itself -/
structure FnE (P : Program) (w : World) (K : Fg) (mg : Str → Option Value) (base : Heap) (CX : CXT) (k : Nat) (f : Addr) (fd : FuncData) (ps : List Str) (sp : Addr × Obj → Sp) : Prop where
  len : ∀ p vs H Q E, sp p vs H Q E → vs.length = ps.length
  run : ∀ (A : Around) (outer : List Env) (s : Shared) (H : Hp) (args : Args) (us : List Value) (vs : List V) (Q : VK) (E : XK) (p : Addr × Obj), RoomH k A → Hot1 A p → PinOk outer H s p → Env0 P w K mg base A outer s H → BindsTo s fd args (ps.zip us) → Vals vs us → sp p vs H Q E →
    codeAny (model P w) A (.call (.ref f) args) (CR CX outer P w H s Q E) s
theorem fn_ofE {CX : CXT} {P : Program} {w : World} {K : Fg} {mg : Str → Option Value} {base : Heap} {k : Nat} {f : Addr} {name qual : Str} {params : Arguments} {body : List Stmt} {scope : Scope} {fd : FuncData}
    {N ps : List Str} {sp : Addr × Obj → Sp} (Fn : FunD K name qual params body scope [] [] f fd) (S : FnScope N ps scope) (len : ∀ p vs H Q E, sp p vs H Q E → vs.length = ps.length)
    (hbody : ∀ (cdv : Value) (A : Around) (outer : List Env) (s : Shared) (H : Hp) (vs : List V) (Q : VK) (E : XK) (p : Addr × Obj), Hot1 A p → RoomH k (A.deeper (envOfC qual scope s.heap.objs.size f cdv)) → sp p vs H Q E →
      ∃ t, PSs (cxH CX P w K mg base N qual scope f cdv A outer s H E p) body t ∧ t { nx := fun _ H' => Q .non H', rt := Q } (L2.start N vs) H) :
    FnE P w K mg base CX (k + 1) f fd ps sp := by
  obtain ⟨oc, od, dV, kV, doc, pm, an, cdv, ct, osl, rfl, lk, hcd, _, _⟩ := Fn.ex
  refine ⟨len, fun A outer s H args us vs Q E p hr hot hpin e0 hb r hsp => ?_⟩
  have hl := len _ _ _ _ _ hsp
  have KX : K.In s.heap := e0.mod.kin.keeps fun b o e => (e0.bs b o e).1
  have lim : s.heap.NoLimit := e0.mod.nolimit.keeps fun b o e => (e0.bs b o e).1
  have hkind : ∀ y ∈ ps.zip us, scope.names.lookup y.1 = some .local ∨ (scope.names.lookup y.1 = some .cell ∧ ((cellsFrom (s.heap.objs.size + 1) scope.names []).lookup y.1).isSome = true) := fun ⟨n, v⟩ hy => by
    rcases S.par n (List.of_mem_zip hy).1 with q | q
    · exact .inl q
    · exact .inr ⟨q, PySem.W.cellsFrom_some _ _ _ (.inl q)⟩
  refine codeAny_call_function hr.depth (KX _ _ lk) rfl S.co S.gen rfl (PySem.W.codeRec_of KX hcd) (hb _ _ _ _ ?_)
  refine wpAny_newFunctionEnv_cells S.kind hkind fun env he s1 x => ?_
  subst he
  refine ⟨lim.keeps x.toInCall.keep, codeAny_func ?_⟩
  obtain ⟨t, ht, hq⟩ := hbody cdv A outer s H vs Q E p hot (hr.deeper _) hsp
  have I : Inv (cxH CX P w K mg base N qual scope f cdv A outer s H E p) [] (L2.start N vs) H s1 := inv_startH S hpin e0 hl r x
  refine wpAny_mono (ht.run [] s1 (L2.start N vs) H _ I hq) (fun fl s' hs => ?_) fun e s' hs => hs
  have fin : ∀ {σ' : L2.St} {H' : Hp} {v : V} {u : Value}, Inv (cxH CX P w K mg base N qual scope f cdv A outer s H E p) [] σ' H' s' → L2.RelV v u → Q v H' → CE outer P w H s Q u s' :=
    fun {σ' H' v u} J rv q => ⟨v, H', J.os, J.bare, J.base, J.hok, rv, q⟩
  cases fl with
  | next =>
    obtain ⟨σ', H', J, q⟩ := hs
    exact fin (v := V.non) (u := Value.none) J rfl q
  | ret u =>
    obtain ⟨v, σ', H', J, rv, q⟩ := hs
    exact fin J rv q
  | brk =>
    obtain ⟨_, _, _, q⟩ := hs
    exact False.elim q
  | cont =>
    obtain ⟨_, _, _, q⟩ := hs
    exact False.elim q
section
variable {X : Cx} {CX : CXT} {k : Nat} {f : Addr} {fd : FuncData} {ps : List Str} {sp : Addr × Obj → Sp} {x : Str} {q pos : Pos} {e : Expr} {es : List Expr} {t : TA} {p : Addr × Obj}
/-- f(e, ..), no exception comes of it -/
theorem pe_callE (F : FnE X.prog X.w X.K X.mg X.base CX k f fd ps sp) (hCX : ∀ outer H s e s', CX outer H s (fun _ _ _ => False) e s' → False) (hr : RoomH k X.A) (hot : Hot1 X.A p) (hp : p ∈ X.pn) (hg : Gl X x) (hm : X.mg x = some (.ref f)) (hk : PySem.W.keepIn X.K (.ref f) = true) (hb : L2.Binds X.K fd ps [])
    (ha : PA X (e :: es) t) (hdb : (x == ("__debug__" : Str)) = false := by decide) (he : starEach (e :: es) X.env = (false, eval e X.env) :: starEach es X.env := by rfl) (hpl : (backTo pos (starEach es X.env)).any (·.1) = false := by rfl) :
    PE X (.Call (.Name x q) (e :: es) [] pos) (fun σ H Q => t σ H fun vs H1 => sp p vs H1 Q fun _ _ _ => False) := by
  refine ⟨fun pins s σ H Q I h => ?_⟩
  refine wpAny_Call_Name_kw (ld_glob I hg hm ?_ hdb)
  refine PySem.W.callWith_K (h₀ := X.base) I.ok.mod.kin hk (thn (ha.run pos pins s σ H _ I h) fun us s1 hh => ?_) he hpl
  obtain ⟨vs, H1, I1, r, q⟩ := hh
  refine ⟨I1.kIn, ?_⟩
  have hl : us.length = ps.length := by rw [← r.length]; exact F.len _ _ _ _ _ q
  have b := hb s1 us I1.kIn (by rw [List.append_nil]; exact hl)
  rw [List.append_nil] at b
  have P1 := I1.pin p (List.mem_append_left _ hp)
  have hpin : PinOk X.stack H1 s1 p := ⟨P1.1, P1.2.1, fun hm => (List.mem_cons.mp (I1.stkSub p.1 hm)).elim P1.2.2.1 P1.2.2.2.1, P1.2.2.2.2⟩
  refine wpAny_call (codeAny_mono (F.run X.A X.stack s1 H1 ⟨us, []⟩ us vs Q (fun _ _ _ => False) p hr hot hpin I1.env0 b r q) fun r s' hq => ?_)
  cases r with
  | error e => exact (hCX _ _ _ _ _ hq).elim
  | ok fl =>
    cases fl with
    | ret u => exact I1.after hq
    | next => exact False.elim hq
    | brk => exact False.elim hq
    | cont => exact False.elim hq
end
/-! ### isinstance(e, c), e the handled exception -/
theorem call_isP {X : Cx} {D : Addr} {p : Addr × Obj} (C : ExcC X.K D) (hz : Zc (.ref D) none p.2) (hf : ∃ vs, p.2.data = .fields vs) (hp : p ∈ X.pn) : CallR X (.builtin "isinstance") (rIsE X.K D p.1) := by
  intro pins s σ H xs us Q I r h
  obtain ⟨c, cv, b, rfl, hcv, e, q⟩ := h
  match us, r with
  | [_, _], .cons rx (.cons rt .nil) =>
    cases rx
    have ec := hcv _ rt
    subst ec
    obtain ⟨hget, _⟩ := I.pin p (List.mem_append.mpr (.inl hp))
    obtain ⟨vs, hv⟩ := hf
    have J : PySem.W.InstAt s.heap p.1 p.2 D none := by
      obtain ⟨a, oc, od, oda, osl⟩ := p
      obtain ⟨h1, h2⟩ := hz
      dsimp only at h1 h2 hv
      subst h1 h2 hv
      exact ⟨hget, rfl, rfl, trivial⟩
    exact PySem.W.kia_one (PySem.W.handS_kitx_exc C.hg C.hk C.hs C.hd C.ha C.hn C.ht C.hm) I.kIn J e (fun z => nomatch z) fun tk => ⟨.bl b, H, I.kept (t' := tk) fun _ _ z => z, rfl, q⟩
def gIsE (K : Fg) (D a : Addr) : DOL := fun xs M P => match xs with
  | [.ref b, .ref C] => b = a ∧ ∃ f, PySem.W.kitOne K (.ref D) (.ref C) = some f ∧ P (.bl f) M
  | [.ref b, .ty n] => b = a ∧ ∃ f, PySem.W.kitOne K (.ref D) (.type n) = some f ∧ P (.bl f) M
  | _ => False
theorem ol_isE {K : Fg} {D a : Addr} : OpL K (rIsE K D a) (gIsE K D a) := fun M F xs vs H P Q q dj mo rs fin => by
  unfold gIsE at q
  split at q
  · match vs, rs with
    | [_, _], .cons (.ref _) (.cons (.ref _) .nil) =>
      obtain ⟨rfl, f, e, q⟩ := q
      exact ⟨_, _, f, rfl, fun u r => r, e, fin.val dj mo q (.bl _)⟩
  · match vs, rs with
    | [_, _], .cons (.ref _) (.cons (.ty _) .nil) =>
      obtain ⟨rfl, f, e, q⟩ := q
      exact ⟨_, _, f, rfl, fun u r => r, e, fin.val dj mo q (.bl _)⟩
  · exact q.elim
/-! ### hot comprehension, as data -/
def DIX (X : Cx) (c : DC) (x1 : Addr) (tg e : Expr) (t : DTI) : Prop := PIX X x1 tg e (Li X.K c t)
section
variable {X : Cx} {c : DC} {pos p : Pos} {ti : DTI} {g : DTG} {tt : DTT} {te : DTE} {tg iter elt e e2 : Expr} {ifs : List Expr} {scope : Scope} {own : List (Str × Nat)} {x1 : Addr} {p1 : Addr × Obj}
theorem d_lcE (hN : X.N.Nodup) (hi : DIX X c x1 tg iter ti) (ok : BlkOk X.N X.env.scope scope own)
    (hg : ∀ (s : Shared) (H : Hp) (C : Addr) (cl : List (Str × Addr)) (fp : List Addr), HotI (X.blk s H scope (compEnvC scope cl C X.env) fp) x1 → DG (X.blk s H scope (compEnvC scope cl C X.env) fp) c.mute (own.map (·.2)) tg g) (ht : ∀ (s : Shared) (H : Hp) (C : Addr) (cl : List (Str × Addr)) (fp : List Addr), DTs (X.blk s H scope (compEnvC scope cl C X.env) fp) c.mute ifs tt)
    (he : ∀ (s : Shared) (H : Hp) (C : Addr) (cl : List (Str × Addr)) (fp : List Addr), DE (X.blk s H scope (compEnvC scope cl C X.env) fp) c.mute elt te) (hs : ∀ x, foldedSetIterable iter X.env x = pure x := by intro _; rfl) :
    DE X c (.ListComp elt [⟨tg, iter, ifs, 0⟩] scope pos) (dComp (own.map (·.2)) ti g tt te) := (pe_lcE (g := Lg X.K c.mute (own.map fun (x : Str × Nat) => x.2) g) (tt := Lt X.K c.mute tt) (te := Lf X.K c.mute te) hN hi ok hg ht he hs).imp fun _ _ _ => lc_cold
def dZipE (ta : DTA) : DTI := fun ds M P => ta ds M fun zs M1 => match zs with
  | [.lst xs, .lst ys] => xs.length = ys.length ∧ P (zipD xs ys) M1
  | _ => False
theorem _root_.DL.PIX.imp {t u : TI} (h : PIX X x1 tg e t) (i : ∀ σ H Q, u σ H Q → t σ H Q) : PIX X x1 tg e u := ⟨fun pins s σ H R I q => h.run pins s σ H R I (i _ _ _ q)⟩
theorem d_zipE {ta : DTA} {elts : List Expr} {kk : Nat} {tpos : Pos} (hot : Hot1 X.A p1) (hp : p1 ∈ X.pn) (hg : Gl X "zip") (hm : X.mg "zip" = none) (ha : DA X c [e, e2] ta) (hs : starEach [e, e2] X.env = (false, eval e X.env) :: starEach [e2] X.env := by rfl) (hpl : (backTo pos (starEach [e2] X.env)).any (·.1) = false := by rfl) :
    DIX X c p1.1 (.Tuple elts kk tpos) (.Call (.Name "zip" p) [e, e2] [] pos) (dZipE ta) := (pi_zipE hot hp hg hm ha hs hpl).imp fun σ H R ⟨ds, M, F, P, at', ht, fin⟩ => ⟨ds, M, F, _, at', ht, fun zs M1 vs H1 q dj ev mo rp => by
    split at q
    · match vs, rp with
      | [_, _], .cons (.lst hs hn hl) (.cons (.lst hs2 hn2 hl2) .nil) =>
        refine ⟨_, _, _, _, rfl, .of hs, .of hs2, fin _ M1 H1 _ q.2 dj ev mo fun A1 H2 kp mo2 => ?_⟩
        have q1 : SqL X.K H2 _ _ := .of (kp.lst _ _ hs hn).1
        have q2 : SqL X.K H2 _ _ := .of (kp.lst _ _ hs2 hn2).1
        have el := q.1
        have l1 := hl.length
        have l2 := hl2.length
        refine ⟨fun i hi => ?_, ⟨_, q1, ?_⟩, fun i x H3 d hd y => ?_⟩
        · rw [zipD_len hl hl2] at hi
          exact ⟨_, _, _, _, q1, q2, List.getElem?_eq_getElem (by omega), List.getElem?_eq_getElem (by omega)⟩
        · rw [zipD_len hl hl2]; omega
        · obtain ⟨T, x', y', rfl, nT, rfl, f1, f2⟩ := y
          exact zip_yield (RpL.kp kp _ hl) (RpL.kp kp _ hl2) mo2 nT (f1 _ q1) (f2 _ q2) hd
    · exact q.elim⟩
theorem d_gtE {es : List Expr} {k n : Nat} {vs : List Nat} {t : DTGs} (hc : HotI X x1) (h : DGs X c vs es t) (hn : (assignEach es X.env).length = n := by rfl) (hst : (assignEach es X.env).findIdx? (·.1) = none := by rfl) : DG X c vs (.Tuple es k pos) (dgT n t) :=
  (pg_tupE hc h hn hst).imp fun v σ H Q ⟨d, ds, M, F, P, at', rp, ht, fin⟩ => by
    cases d with
    | tup xs =>
      cases rp with
      | tup hs hl => exact ⟨_, _, rfl, hs, hl.length.trans ht.1, xs, ds, M, F, P, at', hl, ht.2, fin⟩
    | _ => exact ht.elim
/-- a.split(b) -/
def dSplit (ta tb : DTE) : DTE := fun ds M P => ta ds M fun x M1 => match x with
  | .str a => tb ds M1 fun y M2 => (match y with
    | .str b => ((b.length == 0) = false ∧ a.length + 2 ≤ sizeLine) ∧ P (.lst ((Txt.split a b).map D.str)) M2
    | _ => False)
  | _ => False
variable {a b : Expr} {ta tb : DTE} {apos : Pos}
theorem d_split (ha : DE X c a ta) (hb : DE X c b tb) (hs : starEach [b] X.env = [(false, eval b X.env)] := by rfl) (hbase : attributeBase a "split" X.env (eval a X.env) = eval a X.env := by rfl) (hline : (apos.endLine == pos.line) = true := by rfl) :
    DE X c (.Call (.Attribute a "split" apos) [b] [] pos) (dSplit ta tb) := (pe_split ha hb hs hbase hline).imp fun σ H Q ⟨ds, M, F, P, at', ht, fin⟩ => ⟨ds, M, F, _, at', ht, fun x M1 v H1 q dj ev mo rp => by
    cases x with
    | str z =>
      cases rp
      refine ⟨⟨_, rfl⟩, ds, M1, F, _, at'.go dj ev mo, q, fun y M2 w H2 q2 dj2 ev2 mo2 rp2 => ?_⟩
      cases y with
      | str u =>
        cases rp2
        exact ⟨z, u, rfl, rfl, q2.1.1, q2.1.2, fin_lst (fin.ev (ev.trans ev2)) dj2 mo2 (rpL_strs _) q2.2⟩
      | _ => exact q2.elim
    | _ => exact q.elim⟩
end
end DL

set_option Elab.async false
set_option linter.all false
set_option maxRecDepth 100000
set_option maxHeartbeats 4000000
namespace DL
open PySem PySem.Spec PyProof.Rows L2 LamX
/-! ### a lambda handed to a def: exceptions whose context is None -/
def lamN (X : Cx) (A : Around) (outer : List Env) (s : Shared) (H : Hp) (E : XK) (scope : Scope) (f c' : Addr) : Cx :=
  { lamCx X A outer s H E scope f c' with xe := fun e s' => wpAny (model X.prog X.w) (A.deeper (lamEnv X scope s.heap.objs.size f c')) (leaving (lamEnv X scope s.heap.objs.size f c') e) (fun _ s'' => L2N.CX X.prog X.w outer H s E e s'') (fun e' s'' => L2N.CX X.prog X.w outer H s E e' s'') s' }
section
variable {X : Cx} {pins : List (Addr × Obj)} {σ : L2.St} {H HZ : Hp} {s s1 : Shared}
theorem inv_lamN {A : Around} {outer : List Env} {E : XK} {scope : Scope} {f c' : Addr} {pins : List (Addr × Obj)} {σ : L2.St} {H HZ : Hp} {s s1 : Shared} (I : Inv (lamCx X A outer s1 HZ E scope f c') pins σ H s) : Inv (lamN X A outer s1 HZ E scope f c') pins σ H s :=
  ⟨⟨I.ok.mod, I.ok.kind, I.ok.glob, I.ok.blt, I.ok.above, I.ok.inj, I.ok.has, I.ok.cab, I.ok.hd, I.ok.frames, I.ok.stk, I.ok.exf, I.ok.bs, I.ok.bsz, I.ok.noex, I.ok.exfs, I.ok.funs, I.ok.frf⟩, I.os, I.bare, I.base, I.loc, I.cell, I.free, I.freeC, I.pin, I.hok, I.len⟩
theorem pe_actN {CXg : CXT} {Eg : XK} {Ng : List Str} {qg : Str} {sg : Scope} {g f c' : Addr} {cdg pm ctv : Value} {params : Arguments} {body : Expr} {scope : Scope} {k i : Nat} {a : Str} {pn : List (Addr × Obj)} {xe : Value → Shared → Prop} {W : WX} {E : XK} {tb : TE} {p1 p2 : Pos}
    (I : Inv X pins σ H s) (L : LamS X.env.scope scope) (hf : s.heap.get? f = some (PySem.W.kla_obj "<lambda>" (X.env.qual ++ "<lambda>") params body scope (cloFrom X.env.cells scope.names []) pm c' ctv)) (hfn : H f = none) (hfr : f ∉ frs X.stack)
    (hbind : bindArgs (PySem.W.kla_fn "<lambda>" (X.env.qual ++ "<lambda>") params body scope (cloFrom X.env.cells scope.names []) pm (.ref c') ctv) ⟨[], []⟩ = pure [])
    (tk : L2N.Takes ((cxOf CXg X.prog X.w X.K X.mg X.base Ng qg sg g cdg X.A X.stack s H Eg).tr pn xe) W) (hW : ∀ cls d σ' H', E cls d H' → W cls d σ' H') (hr : Room (k + 1) (X.A.deeper (envOfC qg sg s.heap.objs.size g cdg)))
    (hbody : ∀ (A : Around) (outer : List Env) (s : Shared) (H : Hp), Room k (A.deeper (lamEnv X scope s.heap.objs.size f c')) → PE (lamN X A outer s H E scope f c') body tb)
    (hN : Ng[i]? = some a) (hv : Vis sg a) (hd : (a == ("__debug__" : Str)) = false := by decide) (hcd : (a == ("__classdict__" : Str)) = false := by decide) :
    PE ((cxOf CXg X.prog X.w X.K X.mg X.base Ng qg sg g cdg X.A X.stack s H Eg).tr pn xe) (.Call (.Name a p1) [] [] p2)
      (fun σZ HZ Q => σZ[i]? = some (some (.ref f)) ∧ HZ c' = some (CodeO c' (X.env.qual ++ "<lambda>")) ∧ tb σ HZ Q) := by
  refine ⟨fun pinsZ sZ σZ HZ Q IZ h => ?_⟩
  obtain ⟨hs, hc, ht⟩ := h
  refine wpAny_Call_Name_kw (thn ((pe_var (pos := p1) (i := i) hN hv hd hcd).run pinsZ sZ σZ HZ (fun v H1 => v = .ref f ∧ H1 = HZ) IZ ⟨.ref f, hs, rfl, rfl⟩) fun u s1 hh => ?_)
  obtain ⟨v, H1, I1, r1, ev, eH⟩ := hh
  subst ev
  rw [eH] at I1
  obtain rfl : u = Value.ref f := r1
  have of1 : s1.heap.get? f = some (PySem.W.kla_obj "<lambda>" (X.env.qual ++ "<lambda>") params body scope (cloFrom X.env.cells scope.names []) pm c' ctv) := I1.base.keep f _ hf hfn hfr (fun z => nomatch (show f ∈ ([] : List Addr) from z))
  refine PySem.W.callWith_F0 ⟨_, _, _, _, of1⟩ ?_
  have un : Un (frs X.stack) [] H HZ s.heap s1.heap := I1.base
  obtain ⟨⟨oc, vs, t, hoc, hdc, hvc⟩, _, _⟩ := I1.hok c' _ hc
  have rc : codeAny (model X.prog X.w) (X.A.deeper (envOfC qg sg s.heap.objs.size g cdg)) (.call (.ref f) ⟨[], []⟩) (CR (L2N.CX X.prog X.w) (envOfC qg sg s.heap.objs.size g cdg :: X.stack) X.prog X.w HZ s1 Q E) s1 := by
    refine PySem.W.kla_callFunE hr.depth of1 rfl L.co L.gen rfl ⟨c', oc, vs, t, rfl, hoc, hdc, hvc⟩ ?_
    rw [hbind]
    refine wpAny_pure (wpAny_newFunctionEnv (fun y hy => (L.own y hy).2) (fun y hy => absurd hy (by simp)) (fun hz hns hsb => ⟨I1.nolimit.fresh _ hsb, ?_⟩) L.kind)
    show codeAny _ _ (.expr body (lamEnv X scope s1.heap.objs.size f c')) _ _
    have kp : ∀ b o, s1.heap.get? b = some o → hz.get? b = some o := fun b o e => hsb.extBut b o (Nat.ne_of_lt (Heap.lt_size e)) (Heap.get?_push_of_some _ e)
    have J : Inv (lamN X (X.A.deeper (envOfC qg sg s.heap.objs.size g cdg)) (envOfC qg sg s.heap.objs.size g cdg :: X.stack) s1 HZ E scope f c') [] σ HZ { s1 with heap := hz, toks := s1.toks + ([] : List (Str × Value)).length } :=
      inv_lamN (lam_start2 I L I1.env0 hr.hd un hns kp)
    refine PySem.W.kla_codeExpr (wpAny_mono ((hbody _ _ s1 HZ (hr.deeper _)).run [] _ _ HZ Q J ht) (fun v s' hq => ?_) fun e s' hq => hq)
    obtain ⟨w', H', J', rv, q⟩ := hq
    exact ⟨w', H', J'.os, J'.bare, J'.base, J'.hok, rv, q⟩
  have hx := L2N.passes_call tk hW
  refine wpAny_call (codeAny_mono rc fun r s' hq => ?_)
  cases r with
  | error e => exact hx pinsZ σZ HZ s1 e s' I1 hq
  | ok fl =>
    cases fl with
    | ret u => exact I1.after hq
    | next => exact False.elim hq
    | brk => exact False.elim hq
    | cont => exact False.elim hq
end
/-- no exception leaves -/
def CXN0 : CXT := fun _ _ _ _ _ _ => False
def EN0 : XK := fun _ _ _ => False
def GivesN (X : Cx) (Ng : List Str) (x : Str) (sg : Scope) (g : Addr) (cdg : Value) (bg : List Stmt) (a : Str) (q : Str) (k : Nat) (TT : (XK → Hp → VK → Prop) → Hp → VK → Prop) : Prop :=
  ∀ (f c' : Addr) (s : Shared) (H : Hp) (Q : VK) (tl : XK → Hp → VK → Prop), Room (k + 1) (X.A.deeper (envOfC x sg s.heap.objs.size g cdg)) →
    (∀ (W : WX) (pn : List (Addr × Obj)) (xe : Value → Shared → Prop) (E : XK) (p1 p2 : Pos), L2N.Takes ((cxOf CXN0 X.prog X.w X.K X.mg X.base Ng x sg g cdg X.A X.stack s H EN0).tr pn xe) W → (∀ cls d σ' H', E cls d H' → W cls d σ' H') →
      PE ((cxOf CXN0 X.prog X.w X.K X.mg X.base Ng x sg g cdg X.A X.stack s H EN0).tr pn xe) (.Call (.Name a p1) [] [] p2) (fun σZ HZ Q => σZ[0]? = some (some (.ref f)) ∧ HZ c' = some (CodeO c' q) ∧ tl E HZ Q)) →
    H c' = some (CodeO c' q) → TT tl H Q →
    ∃ t, PSs (cxOf CXN0 X.prog X.w X.K X.mg X.base Ng x sg g cdg X.A X.stack s H EN0).nox bg t ∧ t { nx := fun _ H' => Q .non H', rt := Q } (L2.start Ng [.ref f]) H
section
variable {X : Cx}
theorem pe_lamcallN {T : List (Addr × Str)} {TT : (XK → Hp → VK → Prop) → Hp → VK → Prop} {x a : Str} {g c P : Addr} {k : Nat} {pg : Arguments} {bg : List Stmt} {sg : Scope} {dV kV doc pm cdv ct oc : Value} {an od : Option Addr} {osl : Array (Option Value)} {Ng : List Str}
    {params : Arguments} {body : Expr} {scope : Scope} {t : XK → TE} {p lpos pos : Pos} (hg : Gl X x) (hm : X.mg x = some (.ref g)) (hk : PySem.W.keepIn X.K (.ref g) = true)
    (lk : X.K.lookup g = some ⟨oc, od, .func (PySem.W.fnOf x x pg bg sg dV kV doc pm an cdv ct), osl⟩) (hcg : PySem.W.codeIn X.K cdv x = true) (hb : L2.Binds X.K (PySem.W.fnOf x x pg bg sg dV kV doc pm an cdv ct) [a] []) (Sg : FnScope Ng [a] sg) (hNg : Ng[0]? = some a) (hva : Vis sg a)
    (hG : GivesN X Ng x sg g cdv bg a (X.env.qual ++ "<lambda>") k TT)
    (TB : TabB X.base X.mg c P) (hcode : X.env.code = .ref c) (hmT : (P, X.env.qual ++ "<lambda>") ∈ T) (hu : ∀ p ∈ T, p.1 = P → p.2 = X.env.qual ++ "<lambda>") (hr : Room (k + 2) X.A) (L : LamS X.env.scope scope) (hdef : defaultsOf params X.env = ([], []))
    (hbind : ∀ (q : Str) (cl : List (Str × Addr)) (pm cv ctv : Value), bindArgs (PySem.W.kla_fn "<lambda>" q params body scope cl pm cv ctv) ⟨[], []⟩ = pure [])
    (hbody : ∀ (A : Around) (outer : List Env) (s : Shared) (H : Hp) (E : XK) (f c' : Addr), Room k (A.deeper (lamEnv X scope s.heap.objs.size f c')) → PE (lamN X A outer s H E scope f c') body (t E))
    (hdb : (x == ("__debug__" : Str)) = false := by decide) (hd : (a == ("__debug__" : Str)) = false := by decide) (hcd : (a == ("__classdict__" : Str)) = false := by decide) :
    PE X (.Call (.Name x p) [.Lambda params body scope lpos] [] pos) (tLam T TT t) := by
  refine ⟨fun pins s σ H Q I h => ?_⟩
  obtain ⟨hT, h⟩ := h
  refine wpAny_Call_Name_kw (ld_glob I hg hm ?_ hdb)
  refine PySem.W.callWith_K (h₀ := X.base) I.ok.mod.kin hk ?_ (by rfl) (by rfl)
  show wpAny _ _ (spliced ((false, eval (.Lambda params body scope lpos) X.env) :: backTo pos (starEach [] X.env))) _ _ s
  refine Calls.spliced_cons (lam_make2 I TB hcode hmT hu hT hdef (L.has I.ok) fun f c' pm' ctv H1 s' I1 eN T1 hf hfn hfr hco => ?_)
  refine Calls.spliced_nil ⟨I1.kIn, ?_⟩
  have rc : codeAny (model X.prog X.w) X.A (.call (.ref g) ⟨[.ref f], []⟩) (CR CXN0 X.stack X.prog X.w H1 s' Q EN0) s' := by
    refine run_ofS (CX := CXN0) (N := Ng) (ps := [a]) (us := [.ref f]) (vs := [.ref f]) lk hcg Sg hr I1.env0 (hb s' [.ref f] I1.kIn rfl) (.cons rfl .nil) rfl fun hr' => ?_
    obtain ⟨t', ht', hq'⟩ := hG f c' s' H1 Q (fun E H' Q' => t E σ H' Q') hr' (fun W pn xe E p1 p2 tk hW => pe_actN (i := 0) I1 L hf hfn hfr (hbind _ _ _ _ _) tk hW hr' (fun A outer s H hr2 => hbody A outer s H E f c' hr2) hNg hva hd hcd) hco (h H1 eN T1)
    exact ⟨t', ht'.nox, hq'⟩
  refine wpAny_call (codeAny_mono rc fun r s2 hq => ?_)
  cases r with
  | error e => exact (show False from hq).elim
  | ok fl =>
    cases fl with
    | ret u => exact I1.after hq
    | next => exact False.elim hq
    | brk => exact False.elim hq
    | cont => exact False.elim hq
end
end DL

set_option Elab.async false
set_option linter.all false
set_option maxRecDepth 100000
set_option maxHeartbeats 4000000
namespace DL
open PySem PySem.Spec PyProof.Rows L2
/-! ### several clauses 'except x as n' -/
abbrev TSx := Addr → Value → Option Addr → TS
def wAsN (K : Fg) (i : Nat) (Wout : WX) (D : Ends) : List (Value × TSx) → WX
  | [] => Wout
  | (c, ts) :: r => fun cls d σ H => ∃ b, PySem.W.exmOne K cls c = some b ∧
    (b = true → ∀ a, H a = none → ts a cls d { nx := fun σ' H' => D.nx (σ'.set i none) H', rt := D.rt, bk := fun σ' H' => D.bk (σ'.set i none) H', ct := fun σ' H' => D.ct (σ'.set i none) H' } (σ.set i (some (.ref a))) H) ∧
    (b = false → wAsN K i Wout D r cls d σ H)
inductive HdsN (X : Cx) (n : Str) : List ExceptHandler → List (Value × TSx) → Prop
  | nil : HdsN X n [] []
  | cons {x : Str} {c : Value} {ts : TSx} {b₀ : Stmt} {suite : List Stmt} {np pos' : Pos} {hds : List ExceptHandler} {l : List (Value × TSx)} (hc : Names X x c)
      (hsu : ∀ (a : Addr) (oe : Obj) (cls : Value) (d : Option Addr) (pn : List (Addr × Obj)), L2N.Zn cls d oe → (∃ vs, oe.data = .fields vs) → PSs (X.suite a ((a, oe) :: pn)) (b₀ :: suite) (ts a cls d)) (r : HdsN X n hds l) :
      HdsN X n (.ExceptHandler (some (.Name x np)) (some n) (b₀ :: suite) pos' :: hds) ((c, ts) :: l)
section
variable {X : Cx} {n : Str} {i : Nat} {body : List Stmt} {h₀ : ExceptHandler} {hds : List ExceptHandler} {l : List (Value × TSx)} {pos : Pos} {tb : WX → TS} {Wout : WX}
theorem ps_tryN (hs : X.stack = X.env :: X.outer) (hf : X.env.frame = some X.env.locals) (hN : X.N.Nodup) (hi : X.N[i]? = some n) (hln : X.env.kindOf n = some .local) (tk : L2N.Takes X Wout)
    (hb : ∀ (W : WX) (pn : List (Addr × Obj)) (xe : Value → Shared → Prop), L2N.Takes (X.tr pn xe) W → PassesOwn (model X.prog X.w) X.A X.env xe → PSs (X.tr pn xe) body (tb W))
    (hh : HdsN X n (h₀ :: hds) l) : PS X (.Try body (h₀ :: hds) [] [] pos) (fun D σ H => tb (wAsN X.K i Wout D l) D σ H) := by
  refine ⟨fun pins s σ H D I h => ?_⟩
  have ok := I.ok
  have hfr : X.A.frames = some (X.env :: X.outer) := by rw [ok.frames, hs]
  have hloc : Loc X.env.scope n := .inl hln
  refine wpAny_Try_except ?_
  refine wpAny_mono ((hb (wAsN X.K i Wout D l) (X.pn ++ pins) (fun e t1 => wpAny (model X.prog X.w) X.A (noteFrame e X.env) (fun _ t2 => wpAny (model X.prog X.w) X.A (setFlight e none) (fun _ t3 =>
    wpAny (model X.prog X.w) X.A (handleBy e X.env (h₀ :: hds)) (SP X pins D) X.xe t3) X.xe t2) X.xe t1) (fun u s' xx => ?_) PassesOwn.looking).run [] s σ H D (I.toTry _) h) (fun f s1 hsp => ?_) (fun e s1 he => he)
  · obtain ⟨a, B, sI, pins', σ', H', cls, d, rfl, J', nb, up, sky, na, os, ag, w⟩ := xx
    have J : Inv X pins σ' H' sI := J'.ofTry ok
    have sky' : Sky B (X.env :: X.outer) a (L2N.Zn cls d) X.env.locals s'.heap := by rw [← hs]; exact sky
    show wpAny (model X.prog X.w) X.A (noteFrame (.ref a) X.env) _ _ _
    refine L2N.Sky.land L2N.Zn.steady hfr hf sky' fun h3 fl3 up3 => ?_
    have J3 : Inv X pins σ' H' { s' with heap := h3 } := J.landed nb fl3.1 (up.trans up3) os ag
    obtain ⟨oe3, vs3, he3, hz3, hd3⟩ := fl3.there
    have notFr : ∀ {h : Heap} {o : Obj} {vs : Array Value}, h.FunFrames B (X.env :: X.outer) → h.get? a = some o → o.data = .fields vs → a ∉ frs (X.env :: X.outer) := fun {h o vs} ff e dd hm => by
      obtain ⟨_, o', e', hnf⟩ := ff.mem hm
      rw [e] at e'; cases e'
      exact hnf _ dd
    have nfr := notFr fl3.2.2.1 he3 hd3
    have nL : a ≠ X.env.locals := fun z => nfr (List.mem_filterMap.mpr ⟨X.env, List.mem_cons_self, by rw [hf, z]⟩)
    have nF : a ∉ X.fs := fun hm => by
      obtain ⟨e, he, q⟩ := List.mem_filterMap.mp hm
      exact nfr (List.mem_filterMap.mpr ⟨e, List.mem_cons_of_mem _ he, q⟩)
    have S3 := J3.suite he3 hd3 na nL nF
    have go : ∀ {hds' : List ExceptHandler} {l' : List (Value × TSx)}, HdsN X n hds' l' → wAsN X.K i Wout D l' cls d σ' H' →
        wpAny (model X.prog X.w) X.A (handleBy (.ref a) X.env hds') (SP X pins D) X.xe { s' with heap := h3 } := by
      intro hds' l' hk
      induction hk with
      | nil =>
        intro w
        refine wpAny_handleBy_nil ?_
        obtain ⟨k1, k2, k3, oe, vs, T, oT, ts', he, hz, hd, h1, hr⟩ := id fl3
        unfold PySem.passOn
        refine wpAny_bind (wpAny_field he hd h1 ?_)
        rw [if_neg (show ¬ ((Value.ref T == Value.none) = true) from by simp)]
        have fin : wpAny (model X.prog X.w) X.A (setFlight (.ref a) X.env.frame) (fun _ s4 => wpAny (model X.prog X.w) X.A (throw (.ref a) : Sem Flow) (SP X pins D) X.xe s4) X.xe { s' with heap := h3 } := by
          rw [hf]
          refine HandSPX.setFlight_upZ fl3 fun h4 hh4 up4 => wpAny_throw (tk _ _ ?_)
          exact ⟨a, B, sI, pins, σ', H', cls, d, rfl, J, nb, (up.trans up3).trans up4, .inr (.inr (by rw [hs]; exact hh4)), na, os, ag, w⟩
        first
          | exact wpAny_bind (wpAny_pure (wpAny_bind fin))
          | exact wpAny_bind fin
      | @cons x c ts b₀ suite np pos' hds2 l2 hc hsu r ih =>
        intro w
        obtain ⟨b, hb1, hyes, hno⟩ := w
        refine wpAny_handleBy_cons (codeAny_handlers_test ?_) (by intro q; cases q)
        have LT : PySem.W.Looks (model X.prog X.w) h3 (typeOf (.ref a)) cls := fun A Q E s k q => wpAny_typeOf_ref (k _ _ he3) (by rw [hz3.1]; exact q)
        have LM := PySem.W.exm_one (M := model X.prog X.w) (J3.kIn) LT hb1
        have test : ∀ {Q : Value → Shared → Prop} {E : Value → Shared → Prop}, Q c { s' with heap := h3 } → wpAny (model X.prog X.w) (X.A.mark (some (.ref a))) (eval (.Name x np) X.env) Q E { s' with heap := h3 } := fun {Q E} q => by
          obtain ⟨hg, hdbg, hm | ⟨hm, hv, hnn⟩⟩ := hc
          · exact ld_glob (X := X.suite a ((a, oe3) :: (X.pn ++ pins))) S3 hg hm q hdbg
          · exact ld_blt (X := X.suite a ((a, oe3) :: (X.pn ++ pins))) S3 hg hm hv q hnn hdbg
        refine test (LM.here ?_)
        cases b with
        | true =>
          refine codeAny_handlers_suite_as ?_
          refine HandSPX.lands_againZ fl3 fun h4 fl4 up4 => ?_
          have J4 : Inv X pins σ' H' { s' with heap := h4 } := J.landed nb fl4.1 ((up.trans up3).trans up4) os ag
          obtain ⟨oe4, vs4, he4, hz4, hd4⟩ := fl4.there
          have S4 := J4.suite he4 hd4 na nL nF
          refine store_ok (X := X.suite a ((a, oe4) :: (X.pn ++ pins))) (v := .ref a) S4 hN hi hloc rfl (fun s5 S5 => ?_) (.inr hln)
          refine wpAny_mono ((hsu a oe4 cls d (X.pn ++ pins) hz4 ⟨_, hd4⟩).run [] s5 _ H' _ S5 (hyes rfl a na)) (fun f s6 hsp => ?_) (fun _ _ z => False.elim z)
          have end_ : ∀ {σ6 : L2.St} {H6 : Hp} {Q : Shared → Prop}, Inv (X.suite a ((a, oe4) :: (X.pn ++ pins))) [] σ6 H6 s6 → (∀ s7, Inv X pins (σ6.set i none) H6 s7 → Q s7) →
              wpAny (model X.prog X.w) X.A (do bindName X.env n .none; unbindBehindTheSuite X.env n pos') (fun _ s7 => Q s7) X.xe s6 := fun {σ6 H6 Q} S6 hq => gone_ok (S6.unsuite ok) hN hi hln hq
          cases f with
          | next =>
            obtain ⟨σ6, H6, S6, q6⟩ := hsp
            exact end_ S6 fun s7 J7 => ⟨_, _, J7, q6⟩
          | brk =>
            obtain ⟨σ6, H6, S6, q6⟩ := hsp
            exact end_ S6 fun s7 J7 => ⟨_, _, J7, q6⟩
          | cont =>
            obtain ⟨σ6, H6, S6, q6⟩ := hsp
            exact end_ S6 fun s7 J7 => ⟨_, _, J7, q6⟩
          | ret u =>
            obtain ⟨v6, σ6, H6, S6, r6, q6⟩ := hsp
            exact end_ S6 fun s7 J7 => ⟨_, _, _, J7, r6, q6⟩
        | false =>
          show wpAny _ X.A (handleBy (.ref a) X.env hds2) _ _ _
          exact ih (hno rfl)
    exact go hh w
  · cases f with
    | next =>
      obtain ⟨σ', H', J', q⟩ := hsp
      exact wpAny_execs_nil ⟨σ', H', J'.ofTry ok, q⟩
    | brk =>
      obtain ⟨σ', H', J', q⟩ := hsp
      exact ⟨σ', H', J'.ofTry ok, q⟩
    | cont =>
      obtain ⟨σ', H', J', q⟩ := hsp
      exact ⟨σ', H', J'.ofTry ok, q⟩
    | ret u =>
      obtain ⟨v, σ', H', J', r, q⟩ := hsp
      exact ⟨v, σ', H', J'.ofTry ok, r, q⟩
end
theorem takes_len {X : Cx} {W : WX} (tk : L2N.Takes X W) : L2N.Takes X fun cls d σ H => σ.length = X.N.length → W cls d σ H := fun u s' x => by
  obtain ⟨a, B, sI, pins, σ, H, cls, d, e, I, nb, up, sky, na, os, ag, w⟩ := x
  exact tk u s' ⟨a, B, sI, pins, σ, H, cls, d, e, I, nb, up, sky, na, os, ag, w I.len⟩
theorem takes_noneN {X : Cx} : L2N.Takes X fun _ _ _ _ => False := fun _ _ ⟨_, _, _, _, _, _, _, _, _, _, _, _, _, _, _, _, w⟩ => w.elim
end DL

set_option Elab.async false
set_option linter.all false
set_option maxRecDepth 100000
set_option maxHeartbeats 4000000
namespace DL
open PySem PySem.Spec PyProof.Rows L2 L2H LamX
/-! ### a def that asks of what class the handled exception is -/
abbrev DSpE := DOL → List D → Mem → (D → Mem → Prop) → Prop
def lspE (K : Fg) (sp : DSpE) (p : Addr × Obj) : Sp := fun vs H Q _ => ∃ Dc ds M F P, Zc (.ref Dc) none p.2 ∧ (∃ fs, p.2.data = .fields fs) ∧ ExcC K Dc ∧ RpL K (mj M F) H vs ds ∧ MemOk K (mj M F) H ∧ Dj M F ∧ sp (gIsE K Dc p.1) ds M P ∧ Fin K M F H P Q
structure CalE (P : Program) (w : World) (K : Fg) (mg : Str → Option Value) (base : Heap) (k : Nat) (x : Str) (ps : List Str) (sp : DSpE) : Prop where
  ex : ∃ f fd, FnE P w K mg base CXN0 k f fd ps (lspE K sp) ∧ mg x = some (.ref f) ∧ PySem.W.keepIn K (.ref f) = true ∧ L2.Binds K fd ps []
theorem dcalE {P : Program} {w : World} {K : Fg} {mg : Str → Option Value} {base : Heap} {x : Str} {st : Stmt} {N ps : List Str} {k : Nat} {sp : DSpE} {t : DOL → DTS} (d : DefAt K mg x ps st) (S : FnScope N ps (defScope st)) (len : ∀ g ds M P, sp g ds M P → ds.length = ps.length)
    (body : ∀ (f : Addr) (cdv : Value) (A : Around) (outer : List Env) (s : Shared) (H : Hp) (E : XK) (p : Addr × Obj) (Dc : Addr) (c : DC), Hot1 (cxH CXN0 P w K mg base N x (defScope st) f cdv A outer s H E p).A p → p ∈ (cxH CXN0 P w K mg base N x (defScope st) f cdv A outer s H E p).pn →
      CallR (cxH CXN0 P w K mg base N x (defScope st) f cdv A outer s H E p) (.builtin "isinstance") (rIsE K Dc p.1) →
      DSs (cxH CXN0 P w K mg base N x (defScope st) f cdv A outer s H E p) c (defBody st) (t (gIsE K Dc p.1)))
    (hsp : ∀ g ds M P, sp g ds M P → t g (dEnds P) (dstart N ds) M) : CalE P w K mg base (k + 1) x ps sp := by
  obtain ⟨f, fd, Fn, hm, b⟩ := d.ex
  refine ⟨f, fd, fn_ofE Fn S (fun p vs H Q E ⟨Dc, ds, M, F, P, _, _, _, r, _, _, q, _⟩ => r.length.trans (len _ _ _ _ q)) (fun cdv A outer s H vs Q E p hot hr ⟨Dc, ds, M, F, P', hz, hf, ec, r, mo, dj, q, fin⟩ => ?_), hm, Fn.kp, b⟩
  have hp : p ∈ (cxH CXN0 P w K mg base N x (defScope st) f cdv A outer s H E p).pn := List.mem_singleton.mpr rfl
  refine ⟨_, body f cdv A outer s H E p Dc ⟨M, H, F, DX0⟩ hot hp (call_isP ec hz hf hp), ?_⟩
  refine ⟨dstart N ds, M, F, dEnds P', ⟨slr_start r, mo, .refl, dj, fun _ _ h => h⟩, hsp _ ds M P' q, ?_⟩
  exact ⟨fun ds' M' σ' H' p dj ev mo sl => fz_fin fin .non M' .non H' p dj ev mo .non, fz_fin fin, fun ds' M' σ' H' p => p.elim, fun ds' M' σ' H' p => p.elim⟩
/-! ### _law_try -/
/-- what comes of an exception: the label -/
structure Shuns (K : Fg) (mg : Str → Option Value) (D : Addr) : Prop where
  ec : ExcC K D
  it : ∃ C, mg "InvalidText" = some (.ref C) ∧ PySem.W.exmOne K (.ref D) (.ref C) = some false
  tm : ∃ C, mg "TooMany" = some (.ref C) ∧ PySem.W.exmOne K (.ref D) (.ref C) = some false
  bx : ∃ C, mg "BoxError" = some (.ref C) ∧ PySem.W.exmOne K (.ref D) (.ref C) = some true
/-- from the kin's own reading -/
def RKin (K : Fg) (mg : Str → Option Value) (sp : DSpE) : Value → Option Addr → Hp → VK → Prop := fun cls d H Q => ∃ Dc, cls = .ref Dc ∧ d = none ∧ Shuns K mg Dc ∧
  ∀ a, H a = none → ∃ M F P, MemOk K (mj M F) H ∧ Dj M F ∧ sp (gIsE K Dc a) [.ref a] M P ∧ Fin K M F H P Q
def TTry (K : Fg) (mg : Str → Option Value) (sp : DSpE) : (XK → Hp → VK → Prop) → Hp → VK → Prop := fun tl H Q =>
  ∃ E : XK, (∀ Q1 : VK, (∀ v H1, (∀ p, H1 p = none → Q (.ref p) (upd H1 p (.tup [.str "told", v]))) → Q1 v H1) → tl E H Q1) ∧ ∀ cls d H1, E cls d H1 → RKin K mg sp cls d H1 Q
def NgT : List Str := ["_law_call_so", "_law_found", "_law_e"]
theorem cxn0 : ∀ outer H s e s', CXN0 outer H s (fun _ _ _ => False) e s' → False := fun _ _ _ _ _ h => h
theorem try_gives {X : Cx} {q : Str} {sg : Scope} {g : Addr} {cdg : Value} {k kk j1 j2 : Nat} {sp : DSpE} {p1 p2 p3 p4 p5 p6 p7 p8 p9 pa pb pc : Pos} {np3 pe pf pg ph pi pj : Pos}
    {np1 np2 : Pos} {s1 s2 : Stmt} {r1 r2 : List Stmt} {q1 q2 : Pos} {j : Nat}
    (Sg : FnScope NgT ["_law_call_so"] sg) (l1 : sg.names.lookup ("_law_found" : Str) = some .local) (l2 : sg.names.lookup ("_law_e" : Str) = some .local) (v0 : Vis sg "_law_call_so")
    (g1 : sg.names.lookup ("InvalidText" : Str) = some .globalImplicit) (g2 : sg.names.lookup ("TooMany" : Str) = some .globalImplicit) (g3 : sg.names.lookup ("BoxError" : Str) = some .globalImplicit) (g4 : sg.names.lookup ("_law_kin" : Str) = some .globalImplicit)
    (kin : CalE X.prog X.w X.K X.mg X.base j "_law_kin" ["_law_e"] sp) (hj : j ≤ k) {C1 C2 C3 : Addr} (m1 : X.mg "InvalidText" = some (.ref C1)) (m2 : X.mg "TooMany" = some (.ref C2)) (m3 : X.mg "BoxError" = some (.ref C3)) :
    GivesN X NgT "_law_try" sg g cdg
      [.Assign [.Name "_law_found" p1] (.Constant .none j1 p2) p3,
       .Try [.Assign [.Name "_law_found" p4] (.Tuple [.Constant (.str "told") j2 p5, .Call (.Name "_law_call_so" p6) [] [] p7] kk p8) p9]
        [.ExceptHandler (some (.Name "InvalidText" np1)) (some "_law_e") (s1 :: r1) q1, .ExceptHandler (some (.Name "TooMany" np2)) (some "_law_e") (s2 :: r2) q2,
         .ExceptHandler (some (.Name "BoxError" np3)) (some "_law_e") [.Assign [.Name "_law_found" pe] (.Call (.Name "_law_kin" pf) [.Name "_law_e" pg] [] ph) pi] pj] [] [] pa,
       .Return (some (.Name "_law_found" pb)) pc] "_law_call_so" q k (TTry X.K X.mg sp) := by
  intro f c' s H Q tl hr act hc ⟨E, ht, hE⟩
  obtain ⟨fk, fdk, Fk, mk, kk', bk⟩ := kin.ex
  have nd : NgT.Nodup := by decide +kernel
  let Z := (cxOf CXN0 X.prog X.w X.K X.mg X.base NgT "_law_try" sg g cdg X.A X.stack s H EN0).nox
  have hi1 : Z.N[1]? = some ("_law_found" : Str) := rfl
  have hi2 : Z.N[2]? = some ("_law_e" : Str) := rfl
  let ts0 : TSx := fun _ _ _ => fun _ _ _ => False
  let ts3 : TSx := fun a cls d => fun D σ H1 => ∃ Dc, cls = .ref Dc ∧ d = none ∧ ExcC X.K Dc ∧ σ[2]? = some (some (.ref a)) ∧ ∃ M F P, MemOk X.K (mj M F) H1 ∧ Dj M F ∧ sp (gIsE X.K Dc a) [.ref a] M P ∧ Fin X.K M F H1 P fun v H2 => D.nx (σ.set 1 (some v)) H2
  let tb : WX → TS := fun W D σ H1 => ∃ E : XK, (∀ cls d σ' H', E cls d H' → σ'.length = NgT.length → W cls d σ' H') ∧ σ[0]? = some (some (.ref f)) ∧ H1 c' = some (CodeO c' q) ∧
    tl E H1 (fun v H2 => 2 ≤ sizeLine ∧ ∀ p, H2 p = none → D.nx (σ.set 1 (some (.ref p))) (upd H2 p (.tup [.str "told", v])))
  refine ⟨_, pss_cons (ps_set (X := Z) (i := 1) nd hi1 (.inl l1) pe_non (hf := .inr l1)) (pss_cons (ps_tryN (X := Z) (n := "_law_e") (i := 2) (tb := tb) (l := [(.ref C1, ts0), (.ref C2, ts0), (.ref C3, ts3)]) (Wout := fun _ _ _ _ => False) rfl rfl nd hi2 l2 takes_noneN (fun W pn xe tk _ => ?_) ?_) (pss_one (ps_ret (pe_var (i := 1) hi1 (.inl l1))))), ?_⟩
  · refine ⟨fun pins s' σ H' D I h' => ?_⟩
    obtain ⟨Ech, hW, h1, h2, h3⟩ := h'
    have hp := act _ pn xe Ech p6 p7 (takes_len tk) fun cls d σ' H' he hl => hW cls d σ' H' he hl
    have hq := pss_one (ps_set (X := Z.tr pn xe) (i := 1) (pos := p9) (pos' := p4) nd hi1 (.inl l1) (pe_tup (x1 := kk) (pos := p8) (pa_cons (pe_str (x := "told") (j := j2) (pos := p5)) (pa_cons hp pa_nil))) (hf := .inr l1))
    exact hq.run pins s' σ H' D I ⟨h1, h2, h3⟩
  · refine .cons ⟨g1, by decide, .inl m1⟩ (fun a oe cls d pn _ _ => ⟨fun _ _ _ _ _ _ h => h.elim⟩) (.cons ⟨g2, by decide, .inl m2⟩ (fun a oe cls d pn _ _ => ⟨fun _ _ _ _ _ _ h => h.elim⟩) (.cons ⟨g3, by decide, .inl m3⟩ (fun a oe cls d pn hz hf => ?_) .nil))
    have hot : Hot1 (Z.suite a ((a, oe) :: pn)).A (a, oe) := by
      obtain ⟨vs, hv⟩ := hf
      exact ⟨rfl, vs, hv, hz.2.2 vs hv⟩
    have hpe := pe_callE (X := Z.suite a ((a, oe) :: pn)) (x := "_law_kin") (q := pf) (pos := ph) (p := (a, oe)) Fk cxn0 ((roomH_mark (hr.mono (by omega)) (some (.ref a))).mono hj) hot List.mem_cons_self g4 mk kk' bk (pa_cons (pe_var (X := Z.suite a ((a, oe) :: pn)) (pos := pg) (i := 2) hi2 (.inl l2)) pa_nil)
    have hq := pss_one (ps_set (X := Z.suite a ((a, oe) :: pn)) (i := 1) (pos := pi) (pos' := pe) nd hi1 (.inl l1) hpe (hf := .inr l1))
    refine ⟨fun pins s' σ H' D I h' => ?_⟩
    obtain ⟨Dc, e1, e2, ec, h2, M, F, P', mo, dj, hs, fin⟩ := h'
    refine hq.run pins s' σ H' D I ⟨_, h2, Dc, [.ref a], M, F, P', ?_, hf, ec, .cons (.ref a) .nil, mo, dj, hs, fin⟩
    rw [← e1, ← e2]
    exact hz.zc
  · refine ⟨E, fun cls d σ' H' he hl => ?_, rfl, hc, ?_⟩
    · obtain ⟨Dc, e1, e2, sh, hk⟩ := hE cls d H' he
      subst e1
      obtain ⟨D1, n1, x1⟩ := sh.it
      obtain ⟨D2, n2, x2⟩ := sh.tm
      obtain ⟨D3, n3, x3⟩ := sh.bx
      rw [m1] at n1; cases n1
      rw [m2] at n2; cases n2
      rw [m3] at n3; cases n3
      have len : σ'.length = 3 := hl
      refine ⟨false, x1, (fun z => nomatch z), fun _ => ⟨false, x2, (fun z => nomatch z), fun _ => ⟨true, x3, fun _ a na => ?_, fun z => nomatch z⟩⟩⟩
      obtain ⟨M, F, P', mo, dj, hs, fin⟩ := hk a na
      match σ', len with
      | [x0, x1, x2], _ => exact ⟨Dc, rfl, e2, sh.ec, rfl, M, F, P', mo, dj, hs, fun d M' v H2 p dj2 ev mo2 rp => ⟨v, rfl, fin d M' v H2 p dj2 ev mo2 rp⟩⟩
    · exact ht _ fun v H1 h => ⟨by show 2 ≤ sizeLine; decide, fun p np => ⟨.ref p, rfl, h p np⟩⟩
end DL

set_option Elab.async false
set_option linter.all false
set_option maxRecDepth 100000
set_option maxHeartbeats 4000000
namespace DL
open PySem PySem.Spec PyProof.Rows L2 L2H LamX
structure Lbl (K : Fg) (mg : Str → Option Value) (sp : DSpE) (Dc : Addr) (lbl : Str) : Prop where
  sh : Shuns K mg Dc
  go : ∀ a M (P : D → Mem → Prop), P (.str lbl) M → sp (gIsE K Dc a) [.ref a] M P
def PXtry (K : Fg) (mg : Str → Option Value) (sp : DSpE) (P : D → Mem → Prop) : DX := fun cls fs M => fs = none ∧ ∃ Dc lbl, cls = .ref Dc ∧ Lbl K mg sp Dc lbl ∧ P (.str lbl) M
/-- _law_try(lambda: body) -/
def dTry (K : Fg) (mg : Str → Option Value) (sp : DSpE) (T : List (Addr × Str)) (Pt : Addr) (tb : DX → DTE) : DTE := fun ds M P =>
  (M Pt = some (.tabs T) ∧ ∀ a T', M a = some (.tabs T') → T' = T) ∧ tb (PXtry K mg sp P) ds M fun d M1 => P (.tup [.str "told", d]) M1
def tLamD (K : Fg) (tb : DX → DTE) : XK → TE := fun E σ H Q => ∃ ds M F P PX, SlR K (mj M F) H ds σ ∧ MemOk K (mj M F) H ∧ Dj M F ∧ tb PX ds M P ∧ Fin K M F H P Q ∧ FinX K M F H PX E
theorem takes_dx {X : Cx} {K : Fg} {M F : Mem} {H : Hp} {PX : DX} {E : XK} (tk : L2N.Takes X fun cls d _ H => E cls d H) (finx : FinX K M F H PX E) : L2N.Takes X (WD K ⟨M, H, F, PX⟩) :=
  tk.imp fun cls d σ H' ⟨fs, M', F', px, ge, dj', ev, mo', xr⟩ => by
    have lt : ∀ a, F' a = none → F a = none := fun a n => by
      cases e : F a with
      | none => rfl
      | some o => rw [show F' a = some o from ge a o e] at n; cases n
    have sub : ∀ a o, mj M' F a = some o → mj M' F' a = some o := fun a o h => by
      cases e : M' a with
      | none =>
        rw [mj_r e] at h ⊢
        exact ge a o h
      | some u =>
        rw [mj_l e] at h ⊢
        exact h
    have les : ∀ a, mj M' F' a = none → mj M' F a = none := fun a h => by
      obtain ⟨h1, h2⟩ := mj_none h
      rw [mj_r h1]; exact lt a h2
    exact finx cls fs M' d H' px ⟨fun a => (dj'.at_ a).elim .inl fun n => .inr (lt a n), fun a T z => dj'.nt a T (ge a _ z)⟩ ev (mo'.less sub) (xr.less les)
theorem ev_ext {M : Mem} {H H1 : Hp} (e : ExtN H H1) : Ev M H M H1 := ⟨fun a o h q => e a o h (q.elim (·.2) fun n ps z => n (.inr ⟨ps, z⟩)), fun _ _ _ _ n => n, fun a o h n => ⟨o, e a o h n, n⟩⟩
theorem mo_ext {K : Fg} {M F : Mem} {H H1 : Hp} {T : List (Addr × Str)} (e : ExtN H H1) (t : Tabs T H1) (mo : MemOk K (mj M F) H) (dj : Dj M F) (u : ∀ a T', M a = some (.tabs T') → T' = T) : MemOk K (mj M F) H1 := fun a o h => by
  have kp : Kp (mj M F) H (mj M F) H1 := (ev_ext (M := M) e).kpF
  have z := mo a o h
  cases o with
  | lst ds => obtain ⟨vs, e1, r⟩ := z; exact ⟨vs, e _ _ e1 (fun _ => nofun), RpL.kp kp ds r⟩
  | dK kvs => obtain ⟨vs, e1, r⟩ := z; exact ⟨vs, e _ _ e1 (fun _ => nofun), KvR.kp kp r⟩
  | dT kvs => obtain ⟨vs, e1, r⟩ := z; exact ⟨vs, e _ _ e1 (fun _ => nofun), KvR.kp kp r⟩
  | ins C fs => obtain ⟨dx, vs, e1, r⟩ := z; exact ⟨dx, vs, e _ _ e1 (fun _ => nofun), KvR.kp kp r⟩
  | hid => obtain ⟨vs, e1⟩ := z; exact ⟨vs, e _ _ e1 (fun _ => nofun)⟩
  | tp ks => exact e _ _ z (fun _ => nofun)
  | tabs T' =>
    have hM : M a = some (.tabs T') := by
      cases q : M a with
      | none => rw [mj_r q] at h; exact absurd h (dj.nt a T')
      | some w => rw [mj_l q] at h; exact h
    have e2 := u a T' hM
    subst e2
    exact ⟨z.1, t⟩
section
variable {X : Cx} {c : DC}
/-- where the try stands -/
structure TryAt (X : Cx) (x : Str) (k : Nat) (TT : (XK → Hp → VK → Prop) → Hp → VK → Prop) (q : Str) (a : Str) (Ng : List Str) : Prop where
  ex : ∃ (g : Addr) (pg : Arguments) (bg : List Stmt) (sg : Scope) (dV kV doc pm cdv ct oc : Value) (an od : Option Addr) (osl : Array (Option Value)), X.mg x = some (.ref g) ∧ PySem.W.keepIn X.K (.ref g) = true ∧
    X.K.lookup g = some ⟨oc, od, .func (PySem.W.fnOf x x pg bg sg dV kV doc pm an cdv ct), osl⟩ ∧ PySem.W.codeIn X.K cdv x = true ∧ L2.Binds X.K (PySem.W.fnOf x x pg bg sg dV kV doc pm an cdv ct) [a] [] ∧ FnScope Ng [a] sg ∧ Ng[0]? = some a ∧ Vis sg a ∧ GivesN X Ng x sg g cdv bg a q k TT
theorem d_try {T : List (Addr × Str)} {x a : Str} {cc Pt : Addr} {k : Nat} {Ng : List Str} {sp : DSpE} {tb : DX → DTE} {params : Arguments} {body : Expr} {scope : Scope} {p lpos pos : Pos}
    (hT : TryAt X x k (TTry X.K X.mg sp) (X.env.qual ++ "<lambda>") a Ng) (hg : Gl X x)
    (TB : TabB X.base X.mg cc Pt) (hcode : X.env.code = .ref cc) (hmT : (Pt, X.env.qual ++ "<lambda>") ∈ T) (hu : ∀ p ∈ T, p.1 = Pt → p.2 = X.env.qual ++ "<lambda>") (hr : Room (k + 2) X.A) (L : LamS X.env.scope scope) (hdef : defaultsOf params X.env = ([], []))
    (hbind : ∀ (q : Str) (cl : List (Str × Addr)) (pm cv ctv : Value), bindArgs (PySem.W.kla_fn "<lambda>" q params body scope cl pm cv ctv) ⟨[], []⟩ = pure [])
    (hbody : ∀ (A : Around) (outer : List Env) (s : Shared) (H : Hp) (E : XK) (f c' : Addr) (c2 : DC), Room k (A.deeper (lamEnv X scope s.heap.objs.size f c')) → L2N.Takes (lamN X A outer s H E scope f c') (WD X.K c2) → DE (lamN X A outer s H E scope f c') c2 body (tb c2.PX))
    (hdb : (x == ("__debug__" : Str)) = false := by decide) (hd : (a == ("__debug__" : Str)) = false := by decide) (hcd : (a == ("__classdict__" : Str)) = false := by decide) :
    DE X c (.Call (.Name x p) [.Lambda params body scope lpos] [] pos) (dTry X.K X.mg sp T Pt tb) := by
  obtain ⟨g, pg, bg, sg, dV, kV, doc, pm, cdv, ct, oc, an, od, osl, hm, hk, lk, hcg, hb, Sg, hNg, hva, hG⟩ := hT.ex
  refine (pe_lamcallN (T := T) (TT := TTry X.K X.mg sp) (t := tLamD X.K tb) (c := cc) (P := Pt) (k := k) hg hm hk lk hcg hb Sg hNg hva hG TB hcode hmT hu hr L hdef hbind (fun A outer s H E f c' hr2 => ?_) hdb hd hcd).imp fun σ H Q ⟨ds, M, F, P, at', ⟨⟨hM, uq⟩, ht⟩, fin⟩ => ?_
  · refine ⟨fun pins s' σ H' Q I ⟨ds, M, F, P, PX, sl, mo, dj, ht, fin, finx⟩ => ?_⟩
    have tk : L2N.Takes (lamN X A outer s H E scope f c') (WD X.K ⟨M, H', F, PX⟩) := takes_dx (L2N.takes_of (E := E) rfl rfl rfl rfl) finx
    exact (hbody A outer s H E f c' ⟨M, H', F, PX⟩ hr2 tk).run pins s' σ H' Q I ⟨ds, M, F, P, ⟨sl, mo, .refl, dj, fun _ _ h => h⟩, ht, fin⟩
  · have t0 := (at'.mo Pt _ (mj_l hM)).2
    refine ⟨t0, fun H1 e t1 => ?_⟩
    have ev : Ev M H M H1 := ev_ext e
    have mo1 := mo_ext e t1 at'.mo at'.dj uq
    have f1 := fin.ev ev
    refine ⟨fun cls d H2 => RKin X.K X.mg sp cls d H2 Q, fun Q1 hQ1 => ⟨ds, M, F, _, _, at'.sl.kp ev.kpF, mo1, at'.dj, ht, fun d M2 v H2 pd dj2 ev2 mo2 rp => hQ1 v H2 fun q nq => ?_, ?_⟩, fun cls d H2 h => h⟩
    · exact fin_tup (f1.ev ev2) dj2 mo2 (.cons (.str _) (.cons rp .nil)) pd q nq
    · intro cls fs M2 d H2 hx dj2 ev2 mo2 xr
      obtain ⟨e0, Dc, lbl, e1, hl, hP⟩ := hx
      subst e0 e1
      refine ⟨Dc, rfl, ?_, hl.sh, fun a na => ⟨M2, F, P, mo2, dj2, hl.go a M2 P hP, f1.ev ev2⟩⟩
      cases d with
      | none => rfl
      | some q => exact xr.elim
end
end DL

set_option Elab.async false
set_option linter.all false
set_option maxRecDepth 100000
set_option maxHeartbeats 4000000
namespace DL
open PySem PySem.Spec PyProof.Rows L2
/-! ### times -/
def gMul : DO2 := fun x y M P => match x, y with
  | .int i, .int j => CMul i j ∧ P (.int (i * j)) M
  | .lst xs, .int k => (-(2 ^ 63) ≤ k ∧ k < 2 ^ 63 ∧ xs.length * k.toNat ≤ sizeLine) ∧ P (.lst (List.replicate k.toNat xs).flatten) M
  | .tup xs, .int k => (xs ≠ [] ∧ 2 ≤ k ∧ k ≤ 1000 ∧ xs.length ≤ 1000) ∧ P (.tup (List.replicate k.toNat xs).flatten) M
  | _, _ => False
def rMulA (K : Fg) : R2 := fun x y H Q => rI CMul (fun i j => .int (i * j)) x y H Q ∨ rRep x y H Q ∨ rRepT K x y H Q
theorem op_mulA {X : Cx} : OpR X (binaryOp .Mult) (rMulA X.K) := op_mul.or (op_rep.or op_repT)
theorem RpL.rep {K : Fg} {A : Mem} {H : Hp} {vs : List V} {ds : List D} (h : RpL K A H vs ds) : ∀ n : Nat, RpL K A H (List.replicate n vs).flatten (List.replicate n ds).flatten
  | 0 => .nil
  | n + 1 => by
    rw [List.replicate_succ, List.replicate_succ, List.flatten_cons, List.flatten_cons]
    exact h.append (RpL.rep h n)
theorem og_mul {K : Fg} : Op2 K (rMulA K) gMul := fun M F x y v w H P Q q dj mo rx ry fin => by
  unfold gMul at q
  split at q
  · cases rx; cases ry
    exact .inl ⟨_, _, rfl, rfl, q.1, fin.val dj mo q.2 (.int _)⟩
  · cases rx with
    | lst hs hn hl =>
      cases ry
      refine .inr (.inl ⟨_, _, _, rfl, rfl, hs, q.1.1, q.1.2.1, by rw [hl.length]; exact q.1.2.2, fin_lst fin dj mo (hl.rep _) q.2⟩)
  · cases rx with
    | tup hs hl =>
      cases ry
      refine .inr (.inr ⟨_, _, _, rfl, rfl, hs, ?_, q.1.2.1, q.1.2.2.1, by rw [hl.length]; exact q.1.2.2.2, fin_tup fin dj mo (hl.rep _) q.2⟩)
      intro e
      subst e
      cases hl
      exact q.1.1 rfl
  · exact q.elim
section
variable {X : Cx} {c : DC} {a b : Expr} {ta tb : DTE} {pos : Pos}
theorem d_mul (ha : DE X c a ta) (hb : DE X c b tb) : DE X c (.BinOp a .Mult b pos) (dBin gMul ta tb) := d_op op_mulA og_mul ha hb
end
/-! ### sorted(xs) -/
def gSorted : DOL := fun xs M P => match xs with
  | [.lst ys] => (match strsOf ys with | some l => l.length ≤ sizeLine ∧ P (.lst ((srtT l).map D.str)) M | none => False)
  | _ => False
def rSortA (K : Fg) : List V → Hp → VK → Prop := fun vs H Q => ∃ (a : Addr) (xs : List Str), vs = [V.ref a] ∧ SqL K H a (xs.map V.str) ∧ xs.length ≤ sizeLine ∧ ∀ p, H p = none → Q (.ref p) (upd H p (.lst ((srtT xs).map V.str)))
theorem cr_sortA {X : Cx} : CallR X (.builtin "sorted") (rSortA X.K) := by
  intro pins s σ H vs us Q I r h
  obtain ⟨a, xs, rfl, hs, hz, q⟩ := h
  obtain ⟨its, rv, hl, _⟩ := I.list hs
  rw [Vals.ref1 r]
  have len := rv.length
  rw [List.length_map] at len
  refine PyProof.Rows.sorted_strsAny hl.isList rv.strs (by rw [← len]; exact hz) fun out ys h1 h2 h3 => ?_
  obtain ⟨ep, he⟩ := PyProof.Rows.sortedAll_at s.heap its out
  have e : ys = srtT xs := srtT_eq h2 h3
  subst e
  have hlen : ((srtT xs).map V.str).length ≤ sizeLine := by rw [List.length_map, (srtT_perm xs).length_eq]; exact hz
  exact ⟨.ref _, upd H (s.heap.objs.size + 1) (.lst ((srtT xs).map V.str)), I.laid (t' := s.toks) (fun _ _ => PyProof.Rows.sortedAll_old) (Nat.le_succ _) ⟨hlen, out.toList, ep, vals_of_strs h1, he⟩, rfl, q _ (I.hok.fresh (Nat.le_succ _))⟩
theorem ol_sorted {K : Fg} : OpL K (rSortA K) gSorted := fun M F xs vs H P Q q dj mo rs fin => by
  unfold gSorted at q
  split at q
  · split at q
    · rename_i l hl
      match vs, rs with
      | [_], .cons (.lst hs hn hr) .nil =>
        have e := strsOf_rp hl hr
        exact ⟨_, l, rfl, .of (e ▸ hs), q.1, fin_lst fin dj mo (rpL_strs _) q.2⟩
    · exact q.elim
  · exact q.elim
/-! ### list(xs) of a text too -/
theorem call_listA {X : Cx} (hc : X.calm = true) : CallR X (.type "list") (rListA X.K) := by
  refine CallR.or call_list_of ?_
  intro pins s σ H vs us Q I r h
  obtain ⟨z, rfl, hz, q⟩ := h
  match us, r with
  | [_], .cons ⟨t, e⟩ .nil =>
    subst e
    refine call_list_str (I.ok.hd hc) z t (hn := hz) fun h' tk acc c' hk hS hacc => ?_
    refine ⟨.ref s.heap.objs.size, upd H s.heap.objs.size (.lst (z.cps.toList.map fun c => V.str ⟨#[c]⟩)), I.laid hk (Nat.le_refl _) ⟨?_, acc.toList, c', ?_, ?_⟩, rfl, q _ (I.hok.fresh (Nat.le_refl _))⟩
    · rw [List.length_map, Array.length_toList]; exact hz
    · refine vals_of_at (by rw [List.length_map, Array.length_toList, Array.length_toList, hacc.1]) fun j x u h1 h2 => ?_
      obtain ⟨k, w, e1, e2⟩ := hacc.2 j u (by rw [← Array.getElem?_toList]; exact h2)
      rw [List.getElem?_map, Array.getElem?_toList, e1] at h1
      cases h1
      exact ⟨w, e2⟩
    · rw [Array.toArray_toList]; exact hS
/-! ### the script -/
theorem cal_false {P : Program} {w : World} {K : Fg} {mg : Str → Option Value} {base : Heap} {k : Nat} {x : Str} {ps N : List Str} {st : Stmt} (d : DefAt K mg x ps st) (S : FnScope N ps (defScope st)) : Cal P w K mg base k x ps (fun _ _ _ _ => False) := by
  obtain ⟨f, fd, Fn, hm, b⟩ := d.ex
  cases k with
  | zero => exact ⟨⟨f, fd, ⟨fun _ _ _ _ ⟨_, _, _, _, _, _, _, _, h, _⟩ => h.elim, fun _ _ _ _ _ _ _ _ _ _ _ _ _ ⟨_, _, _, _, _, _, _, _, h, _⟩ => h.elim⟩, hm, Fn.kp, b⟩⟩
  | succ k => exact ⟨⟨f, fd, Fn.ok S (fun _ _ _ _ ⟨_, _, _, _, _, _, _, _, h, _⟩ => h.elim) (fun _ _ _ _ _ _ _ _ _ ⟨_, _, _, _, _, _, _, _, h, _⟩ => h.elim), hm, Fn.kp, b⟩⟩
end DL

set_option Elab.async false
set_option linter.all false
set_option maxRecDepth 100000
set_option maxHeartbeats 4000000
namespace DL
open PySem PySem.Spec PyProof.Rows L2 LamX
/-! ### defs that make lambdas; the law -/
structure DefAtC (K : Fg) (mg : Str → Option Value) (x : Str) (ps : List Str) (st : Stmt) (cc : Addr) : Prop where
  ex : ∃ f fd, FunD K x x (defArgs st) (defBody st) (defScope st) [] [] f fd ∧ fd.code = .ref cc ∧ mg x = some (.ref f) ∧ L2.Binds K fd ps []
theorem Cal.mono {P : Program} {w : World} {K : Fg} {mg : Str → Option Value} {base : Heap} {j k : Nat} {x : Str} {ps : List Str} {sp : DSp} (h : Cal P w K mg base j x ps sp) (hk : j ≤ k) : Cal P w K mg base k x ps sp := by
  obtain ⟨f, fd, F, r⟩ := h.ex
  exact ⟨⟨f, fd, F.mono hk, r⟩⟩
section
variable {P : Program} {w : World} {K : Fg} {mg : Str → Option Value} {base : Heap}
theorem dfnC {x qual : Str} {st : Stmt} {f cc : Addr} {fd : FuncData} {N ps : List Str} {k : Nat} {sp : Sp} {CX : CXT} (Fn : FunD K x qual (defArgs st) (defBody st) (defScope st) [] [] f fd) (hcc : fd.code = .ref cc) (S : FnScope N ps (defScope st)) (len : ∀ vs H Q E, sp vs H Q E → vs.length = ps.length)
    (hbody : ∀ (cdv : Value) (A : Around) (outer : List Env) (s : Shared) (H : Hp) (vs : List V) (Q : VK) (E : XK), cdv = .ref cc → Room k (A.deeper (envOfC qual (defScope st) s.heap.objs.size f cdv)) → sp vs H Q E →
      ∃ t, PSs (cxOf CX P w K mg base N qual (defScope st) f cdv A outer s H E) (defBody st) t ∧ t { nx := fun _ H' => Q .non H', rt := Q } (L2.start N vs) H) : FnOk P w K mg base CX (k + 1) f fd ps sp := by
  obtain ⟨oc, od, dV, kV, doc, pm, an, cdv, ct, osl, rfl, lk, hcd, _, _⟩ := Fn.ex
  exact fn_of lk hcd S len fun A outer s H vs Q E hr hsp => hbody cdv A outer s H vs Q E hcc hr hsp
theorem dcalC {x : Str} {st : Stmt} {N ps : List Str} {k : Nat} {sp : DSp} {t : DX → DTS} {cc : Addr} (d : DefAtC K mg x ps st cc) (S : FnScope N ps (defScope st)) (len : ∀ ds M P PX, sp ds M P PX → ds.length = ps.length)
    (body : ∀ (f : Addr) (cdv : Value) (A : Around) (outer : List Env) (s : Shared) (H : Hp) (E : XK) (c : DC), cdv = .ref cc → FCtx (cxOf (L2N.CX P w) P w K mg base N x (defScope st) f cdv A outer s H E) c k → DSs (cxOf (L2N.CX P w) P w K mg base N x (defScope st) f cdv A outer s H E) c (defBody st) (t c.PX))
    (hsp : ∀ ds M P PX, sp ds M P PX → t PX (dEnds P) (dstart N ds) M) : Cal P w K mg base (k + 1) x ps sp := by
  obtain ⟨f, fd, Fn, hcc, hm, b⟩ := d.ex
  refine ⟨⟨f, fd, dfnC Fn hcc S (fun vs H Q E ⟨ds, M, F, P, PX, r, _, _, q, _⟩ => r.length.trans (len _ _ _ _ q)) (fun cdv A outer s H vs Q E hcd hr ⟨ds, M, F, P', PX, r, mo, dj, q, fin, finx⟩ => ?_), hm, Fn.kp, b⟩⟩
  have tk : L2N.Takes (cxOf (L2N.CX P w) P w K mg base N x (defScope st) f cdv A outer s H E) (WD K ⟨M, H, F, PX⟩) := takes_dx (L2N.takes_of (E := E) rfl rfl rfl rfl) finx
  refine ⟨_, body f cdv A outer s H E ⟨M, H, F, PX⟩ hcd ⟨tk, passes_of rfl, hr⟩, ?_⟩
  refine ⟨dstart N ds, M, F, dEnds P', ⟨slr_start r, mo, .refl, dj, fun _ _ h => h⟩, hsp ds M P' PX q, ?_⟩
  exact ⟨fun ds' M' σ' H' p dj ev mo sl => fz_fin fin .non M' .non H' p dj ev mo .non, fz_fin fin, fun ds' M' σ' H' p => p.elim, fun ds' M' σ' H' p => p.elim⟩
/-- the table's entry -/
def memT (Pt : Addr) (T : List (Addr × Str)) : Mem := fun b => if b = Pt then some (.tabs T) else none
def memN : Mem := fun _ => none
/-- the law's own promise -/
def spLaw (K : Fg) (T : List (Addr × Str)) : Sp := fun vs H Q _ => ∃ (a : Addr) (ns : List Int), vs = [.ref a] ∧ SqL K H a (ns.map V.int) ∧ ns.length ≤ 63 ∧ Tabs T H ∧ ∀ H', Q (.bl true) H'
/-- two lists, wherever they stand -/
def rCatL (K : Fg) : R2 := fun x y H Q => ∃ l b xs zs, x = .ref l ∧ y = .ref b ∧ SqL K H l xs ∧ SqL K H b zs ∧ xs.length + zs.length ≤ sizeLine ∧ ∀ p, H p = none → Q (.ref p) (upd H p (.lst (xs ++ zs)))
theorem op_catL {X : Cx} : OpR X (binaryOp .Add) (rCatL X.K) := fun pins s σ H x y v u Q I rx ry ⟨l, b, xs, zs, e1, e2, hl, hb, hz, q⟩ => by
  subst e1 e2
  cases rx
  cases ry
  obtain ⟨its, r, p1, _⟩ := I.list hl
  obtain ⟨its2, r2, p2, _⟩ := I.list hb
  obtain ⟨⟨cls, dd, data, sl⟩, ho, hc, n, hd⟩ := p1.isList
  obtain ⟨⟨cls2, dd2, data2, sl2⟩, ho2, hc2, n2, hd2⟩ := p2.isList
  simp only at hc hd hc2 hd2
  subst hc hd hc2 hd2
  have z : its.toArray.size + its2.toArray.size ≤ sizeLine := by rw [List.size_toArray, List.size_toArray, ← r.length, ← r2.length]; exact hz
  refine concat_meets ⟨_, ho, rfl⟩ ⟨_, ho2, rfl⟩ noFill_list_add seq_list_add PySem.F.slot_list_add PySem.F.entry_list_add (PySem.F.args_list_add_2 _ _) (list_addW l b its.toArray its2.toArray n n2 dd dd2 sl sl2 z) ⟨ho, ho2, ?_⟩
  rw [show its.toArray ++ its2.toArray = (its ++ its2).toArray from by simp]
  exact ⟨.ref _, _, I.lnew (t' := s.toks) (r.append r2) (by rw [List.length_append]; exact hz), rfl, q _ I.fresh⟩
/-- [0] + script, the script in slot 0 -/
def dScr (a : Addr) (ns : List Int) : DTE := fun ds M P => ds[0]? = some (some (.ref a)) ∧ P (.lst (.int 0 :: ns.map D.int)) M
theorem rpL_ints {K : Fg} {M : Mem} {H : Hp} : ∀ ns : List Int, RpL K M H (ns.map V.int) (ns.map D.int)
  | [] => .nil
  | n :: ns => .cons (.int n) (rpL_ints ns)
theorem sqL_ev {K : Fg} {M0 M : Mem} {H0 H : Hp} {a : Addr} {vs : List V} (e : Ev M0 H0 M H) (n : M0 a = none) (h : SqL K H0 a vs) : SqL K H a vs := by
  rcases h with (h | ⟨o, h⟩) | h
  · exact .inl (.inl (e.keep _ _ h (.inl ⟨n, fun _ => nofun⟩)))
  · exact .inl (.inr ⟨o, e.keep _ _ h (.inl ⟨n, fun _ => nofun⟩)⟩)
  · exact .inr h
theorem sqL_upd {K : Fg} {H : Hp} {a p : Addr} {o : HO} {vs : List V} (n : H p = none) (h : SqL K H a vs) : SqL K (upd H p o) a vs := by
  rcases h with (h | ⟨o, h⟩) | h
  · exact .inl (.inl (by rw [upd_ne (ne_of_none h n)]; exact h))
  · exact .inl (.inr ⟨o, by rw [upd_ne (ne_of_none h n)]; exact h⟩)
  · exact .inr h
theorem d_scr {X : Cx} {c : DC} {x : Str} {a : Addr} {ns : List Int} {j : Nat} {p1 p2 p3 p4 : Pos} (h0 : X.N[0]? = some x) (v0 : Vis X.env.scope x) (hs : SqL X.K c.H0 a (ns.map V.int)) (hn : c.M0 a = none) (hl : ns.length ≤ 63)
    (hd : (x == ("__debug__" : Str)) = false := by decide) (hcd : (x == ("__classdict__" : Str)) = false := by decide) (hx : starEach [Expr.Constant (.int 0) j p1] X.env = (false, eval (.Constant (.int 0) j p1) X.env) :: starEach [] X.env := by rfl) :
    DE X c (.BinOp (.List [.Constant (.int 0) j p1] p2) .Add (.Name x p3) p4) (dScr a ns) :=
  (pe_op op_catL (pe_lst (pa_cons pe_int pa_nil hx)) (pe_var (i := 0) h0 v0 hd hcd)).imp fun σ H Q ⟨ds, M, F, P, at', ht, fin⟩ => by
    obtain ⟨v, hv, rv⟩ := at'.sl.2 0 _ ht.1
    cases rv
    refine ⟨by show 1 ≤ sizeLine; decide, fun p np => ⟨_, hv, p, a, [.int 0], ns.map V.int, rfl, rfl, .of upd_same, ?_, ?_, fun q nq => ?_⟩⟩
    · exact sqL_upd np (sqL_ev at'.ev hn hs)
    · rw [List.length_map, sizeLine_eq]
      show 1 + ns.length ≤ _
      omega
    · exact fin_lst (fin.ev (Ev.new np)) at'.dj (at'.mo.new np) (.cons (.int 0) (rpL_ints ns)) ht.2 q nq
theorem okLaw {P : Program} {w : World} {K : Fg} {mg : Str → Option Value} {base : Heap} {x : Str} {st : Stmt} {N : List Str} {k : Nat} {t : Addr → List Int → DX → DTS} {f cc Pt : Addr} {fd : FuncData} {q : Str} {T : List (Addr × Str)}
    (Fn : FunD K x x (defArgs st) (defBody st) (defScope st) [] [] f fd) (hcc : fd.code = .ref cc) (S : FnScope N ["_law_script"] (defScope st)) (hT : (Pt, q) ∈ T) (nT : K.lookup Pt = none)
    (body : ∀ (cdv : Value) (A : Around) (outer : List Env) (s : Shared) (H : Hp) (E : XK) (c : DC) (a : Addr) (ns : List Int), cdv = .ref cc → FCtx (cxOf (L2N.CX P w) P w K mg base N x (defScope st) f cdv A outer s H E) c k → SqL K c.H0 a (ns.map V.int) → c.M0 a = none → ns.length ≤ 63 →
      DSs (cxOf (L2N.CX P w) P w K mg base N x (defScope st) f cdv A outer s H E) c (defBody st) (t a ns c.PX))
    (law : ∀ a ns, ns.length ≤ 63 → t a ns DX0 (dEnds fun d _ => d = .bl true) (dstart N [.ref a]) (memT Pt T)) : FnOk P w K mg base (L2N.CX P w) (k + 1) f fd ["_law_script"] (spLaw K T) := by
  refine dfnC Fn hcc S (fun vs H Q E ⟨a, ns, e, _⟩ => by rw [e]; rfl) (fun cdv A outer s H vs Q E hcd hr ⟨a, ns, e, hs, hl, ht, hq⟩ => ?_)
  subst e
  have mo : MemOk K (mj (memT Pt T) memN) H := fun b o h => by
    by_cases e : b = Pt
    · subst e
      have e2 : mj (memT b T) memN b = some (.tabs T) := by unfold mj memT; rw [if_pos rfl]
      rw [e2] at h
      cases h
      exact ⟨⟨q, hT⟩, ht⟩
    · have e2 : mj (memT Pt T) memN b = none := by unfold mj memT; rw [if_neg e]; rfl
      rw [e2] at h
      cases h
  have dj : Dj (memT Pt T) memN := ⟨fun _ => .inr rfl, fun _ _ => nofun⟩
  have tk : L2N.Takes (cxOf (L2N.CX P w) P w K mg base N x (defScope st) f cdv A outer s H E) (WD K ⟨memT Pt T, H, memN, DX0⟩) := takes_dx (L2N.takes_of (E := E) rfl rfl rfl rfl) fun cls fs M' d H' h => h.elim
  obtain ⟨ps, hP, _⟩ := ht _ hT
  by_cases ha : a = Pt
  · subst ha
    rcases hs with (h | ⟨o, h⟩) | ⟨o, its, n, h, _⟩
    · rw [hP] at h; cases h
    · rw [hP] at h; cases h
    · rw [nT] at h; cases h
  · have hn : memT Pt T a = none := by unfold memT; rw [if_neg ha]
    refine ⟨_, body cdv A outer s H E ⟨memT Pt T, H, memN, DX0⟩ a ns hcd ⟨tk, passes_of rfl, hr⟩ hs hn hl, ?_⟩
    refine ⟨dstart N [.ref a], memT Pt T, memN, _, ⟨slr_start (.cons (.ref a) .nil), mo, .refl, dj, fun _ _ h => h⟩, law a ns hl, ?_⟩
    have fin : Fin K (memT Pt T) memN H (fun d _ => d = .bl true) Q := fun d M' v H' p dj ev mo rp => by
      subst p
      cases rp
      exact hq H'
    exact ⟨fun ds' M' σ' H' p dj ev mo sl => fz_fin fin .non M' .non H' p dj ev mo .non, fz_fin fin, fun ds' M' σ' H' p => p.elim, fun ds' M' σ' H' p => p.elim⟩
end
end DL

set_option Elab.async false
set_option linter.all false
set_option maxRecDepth 100000
set_option maxHeartbeats 4000000
namespace DL
open PySem PySem.Spec PyProof.Rows L2 LamX
/-! ### a call of a local name that holds one of several defs -/
structure CalV (P : Program) (w : World) (K : Fg) (mg : Str → Option Value) (base : Heap) (k : Nat) (f : Addr) (sp : DSp) : Prop where
  ex : ∃ fd ps, FnOk P w K mg base (L2N.CX P w) k f fd ps (lsp K sp) ∧ PySem.W.keepIn K (.ref f) = true ∧ L2.Binds K fd ps []
def dCallV (i : Nat) (S : Addr → DSp → Prop) (PX : DX) (t : DTA) : DTE := fun ds M P => ∃ f sp, ds[i]? = some (some (.ref f)) ∧ S f sp ∧ t ds M fun xs M1 => sp xs M1 P PX
section
variable {X : Cx} {c : DC} {k j i : Nat} {x : Str} {p pos : Pos} {e : Expr} {es : List Expr} {t : DTA} {S : Addr → DSp → Prop}
theorem d_callV (A : ∀ f sp, S f sp → CalV X.prog X.w X.K X.mg X.base k f sp) (hr : Room j X.A) (hk : k ≤ j) (hN : X.N[i]? = some x) (hv : Vis X.env.scope x) (tk : L2N.Takes X (WD X.K c)) (ha : DA X c (e :: es) t)
    (hdb : (x == ("__debug__" : Str)) = false := by decide) (hcd : (x == ("__classdict__" : Str)) = false := by decide)
    (he : starEach (e :: es) X.env = (false, eval e X.env) :: starEach es X.env := by rfl) (hpl : (backTo pos (starEach es X.env)).any (·.1) = false := by rfl) :
    DE X c (.Call (.Name x p) (e :: es) [] pos) (dCallV i S c.PX t) := ⟨fun pins s σ H Q I h => by
  obtain ⟨ds, M, F, P, at', ⟨f, sp, hs, hS, ht⟩, fin⟩ := h
  obtain ⟨fd, ps, Fn, kp, b⟩ := (A f sp hS).ex
  obtain ⟨v, hv2, rv⟩ := at'.sl.2 i _ hs
  cases rv
  have z : PE X (.Call (.Name x p) (e :: es) [] pos) (tCallL i f (lsp X.K sp) [] (xed X.K c) (La X.K c t)) := pe_callL (CX := L2N.CX X.prog X.w) (Fn.mono hk) hr hN hv kp b .nil (L2N.passes_call (E := xed X.K c) tk fun _ _ _ _ h => h) ha hdb hcd he hpl
  refine z.run pins s σ H Q I ⟨hv2, ?_⟩
  exact ⟨ds, M, F, _, at', ht, fun xs M1 vs H1 q dj ev mo rp => ⟨xs, M1, F, P, c.PX, by rw [List.append_nil]; exact rp, mo, dj, q, fin.ev ev, finx_here (at'.go dj ev mo)⟩⟩⟩
end
theorem Cal.toV {P : Program} {w : World} {K : Fg} {mg : Str → Option Value} {base : Heap} {k n : Nat} {x : Str} {ps : List Str} {sp : DSp} {f : Addr} (h : Cal P w K mg base k x ps sp) (hm : mg x = some (.ref f)) (hk : k ≤ n) : CalV P w K mg base n f sp := by
  obtain ⟨g, fd, F, h1, h2, h3⟩ := h.ex
  have e := hm.symm.trans h1
  cases e
  exact ⟨⟨fd, ps, F.mono hk, h2, h3⟩⟩
/-- a def's first slots: n of them -/
def dst (n : Nat) (ds : List D) : DSt := ds.map some ++ List.replicate (n - ds.length) none
end DL

set_option Elab.async false
set_option linter.all false
set_option maxRecDepth 100000
set_option maxHeartbeats 4000000
namespace DL
open PySem PySem.Spec PyProof.Rows L2
/-! ### max, min of two ints, of a list of ints -/
def gMax2 : DOL := fun xs M P => match xs with | [.int i, .int j] => P (.int (if j > i then j else i)) M | _ => False
def gMin2 : DOL := fun xs M P => match xs with | [.int i, .int j] => P (.int (if j < i then j else i)) M | _ => False
theorem ol_max2 {K : Fg} : OpL K (fun xs H Q => ∃ i j, xs = [.int i, .int j] ∧ Q (.int (if j > i then j else i)) H) gMax2 := fun M F xs vs H P Q q dj mo rs fin => by
  unfold gMax2 at q
  split at q
  · match vs, rs with
    | [_, _], .cons (.int i) (.cons (.int j) .nil) => exact ⟨i, j, rfl, fin.val dj mo q (.int _)⟩
  · exact q.elim
theorem ol_min2 {K : Fg} : OpL K (fun xs H Q => ∃ i j, xs = [.int i, .int j] ∧ Q (.int (if j < i then j else i)) H) gMin2 := fun M F xs vs H P Q q dj mo rs fin => by
  unfold gMin2 at q
  split at q
  · match vs, rs with
    | [_, _], .cons (.int i) (.cons (.int j) .nil) => exact ⟨i, j, rfl, fin.val dj mo q (.int _)⟩
  · exact q.elim
def intsOf : List D → Option (List Int)
  | [] => some []
  | .int z :: r => (match intsOf r with | some l => some (z :: l) | none => none)
  | _ => none
theorem intsOf_map : ∀ l : List Int, intsOf (l.map D.int) = some l
  | [] => rfl
  | z :: r => by rw [List.map_cons, intsOf, intsOf_map r]
theorem intsOf_rp {K : Fg} {A : Mem} {H : Hp} : ∀ {xs : List D} {l : List Int} {vs : List V}, intsOf xs = some l → RpL K A H vs xs → vs = l.map V.int
  | [], _, _, h, .nil => by cases h; rfl
  | .int z :: r, l, _, h, .cons h1 h2 => by
    rw [intsOf] at h
    cases e : intsOf r with
    | none => rw [e] at h; cases h
    | some l' =>
      rw [e] at h
      cases h
      cases h1
      rw [intsOf_rp e h2, List.map_cons]
  | .non :: _, _, _, h, _ => by simp [intsOf] at h
  | .bl _ :: _, _, _, h, _ => by simp [intsOf] at h
  | .str _ :: _, _, _, h, _ => by simp [intsOf] at h
  | .tup _ :: _, _, _, h, _ => by simp [intsOf] at h
  | .lst _ :: _, _, _, h, _ => by simp [intsOf] at h
  | .ref _ :: _, _, _, h, _ => by simp [intsOf] at h
  | .ty _ :: _, _, _, h, _ => by simp [intsOf] at h
def gMax : DOL := fun xs M P => match xs with
  | [.lst ys] => (match intsOf ys with | some ns => 0 < ns.length ∧ ∀ m, m ∈ ns → (∀ y, y ∈ ns → y ≤ m) → P (.int m) M | none => False)
  | _ => False
def gMin : DOL := fun xs M P => match xs with
  | [.lst ys] => (match intsOf ys with | some ns => 0 < ns.length ∧ ∀ m, m ∈ ns → (∀ y, y ∈ ns → m ≤ y) → P (.int m) M | none => False)
  | _ => False
theorem ol_max {K : Fg} : OpL K (rMax K) gMax := fun M F xs vs H P Q q dj mo rs fin => by
  unfold gMax at q
  split at q
  · rename_i ys
    split at q
    · rename_i ns e
      match vs, rs with
      | [_], .cons (.lst hs hn hl) .nil =>
        have e2 := intsOf_rp e hl
        subst e2
        exact ⟨_, ns, rfl, .of hs, q.1, fun m h1 h2 => fin.val dj mo (q.2 m h1 h2) (.int _)⟩
    · exact q.elim
  · exact q.elim
theorem ol_min {K : Fg} : OpL K (rMin K) gMin := fun M F xs vs H P Q q dj mo rs fin => by
  unfold gMin at q
  split at q
  · rename_i ys
    split at q
    · rename_i ns e
      match vs, rs with
      | [_], .cons (.lst hs hn hl) .nil =>
        have e2 := intsOf_rp e hl
        subst e2
        exact ⟨_, ns, rfl, .of hs, q.1, fun m h1 h2 => fin.val dj mo (q.2 m h1 h2) (.int _)⟩
    · exact q.elim
  · exact q.elim
/-! ### str(int) -/
def gStr1 : DOL := fun xs M P => match xs with | [.int i] => i.natAbs.log2 < 1920 ∧ P (.str (toString i)) M | _ => False
theorem ol_str1 {K : Fg} : OpL K (fun xs H Q => ∃ i, xs = [.int i] ∧ i.natAbs.log2 < 1920 ∧ Q (.str (toString i)) H) gStr1 := fun M F xs vs H P Q q dj mo rs fin => by
  unfold gStr1 at q
  split at q
  · match vs, rs with
    | [_], .cons (.int i) .nil => exact ⟨i, rfl, q.1, fin.val dj mo q.2 (.str _)⟩
  · exact q.elim
/-! ### is, is not of bools -/
def gIsB : DO2 := fun x y M P => match x, y with | .bl a, .bl b => P (.bl (decide (a = b))) M | _, _ => False
def gNotB : DO2 := fun x y M P => match x, y with | .bl a, .bl b => P (.bl (!decide (a = b))) M | _, _ => False
theorem og_isB {K : Fg} : Op2 K rIsB gIsB := fun M F x y v w H P Q q dj mo rx ry fin => by
  unfold gIsB at q
  split at q
  · cases rx; cases ry; exact ⟨_, _, rfl, rfl, fin.val dj mo q (.bl _)⟩
  · exact q.elim
theorem og_notB {K : Fg} : Op2 K rNotB gNotB := fun M F x y v w H P Q q dj mo rx ry fin => by
  unfold gNotB at q
  split at q
  · cases rx; cases ry; exact ⟨_, _, rfl, rfl, fin.val dj mo q (.bl _)⟩
  · exact q.elim
end DL

set_option Elab.async false
set_option linter.all false
set_option maxRecDepth 100000
set_option maxHeartbeats 4000000
namespace DL
open PySem PySem.Spec PyProof.Rows L2
/-! ### comprehensions with two fors -/
theorem Kp.trans {A A1 A2 : Mem} {H H1 H2 : Hp} (a : Kp A H A1 H1) (b : Kp A1 H1 A2 H2) : Kp A H A2 H2 :=
  ⟨fun x vs h => b.tup x vs (a.tup x vs h), fun x vs h n => b.lst x vs (a.lst x vs h n).1 (a.lst x vs h n).2⟩
def compL2 (vs vs1 : List Nat) (g : DTG) (tt : DTT) (ti1 : DTI) (g1 : DTG) (tt1 : DTT) (te : DTE) (ds : DSt) (Q : List D → Mem → Prop) : List D → List D → Mem → Prop
  | [], acc, M => Q acc M
  | x :: r, acc, M => g x (dwipe ds vs) M fun ds2 M2 => tt ds2 M2 fun b M3 =>
    (b = true → ti1 ds2 M3 fun ys M4 => acc.length + ys.length ≤ sizeLine ∧ compL vs1 g1 tt1 te ds2 (fun acc' M' => compL2 vs vs1 g tt ti1 g1 tt1 te ds Q r acc' M') ys acc M4) ∧ (b = false → compL2 vs vs1 g tt ti1 g1 tt1 te ds Q r acc M3)
def dComp2 (vs vs1 : List Nat) (ti : DTI) (g : DTG) (tt : DTT) (ti1 : DTI) (g1 : DTG) (tt1 : DTT) (te : DTE) : DTE := fun ds M P => ti ds M fun xs M1 => compL2 vs vs1 g tt ti1 g1 tt1 te ds (fun ys M2 => P (.lst ys) M2) xs [] M1
section
variable {X : Cx} {c : DC} {pos : Pos} {vs vs1 : List Nat} {ti ti1 : DTI} {g g1 : DTG} {tt tt1 : DTT} {te : DTE}
theorem lc2_read {K : Fg} {σ : L2.St} {H : Hp} {Q : VK} {ds : DSt} {M F : Mem} {Qd : List D → Mem → Prop} (at' : At K c ds M F σ H)
    (ht : ti ds M fun xs M1 => compL2 vs vs1 g tt ti1 g1 tt1 te ds Qd xs [] M1)
    (fin : ∀ (L : Addr) (ys : List D) (M' : Mem) (ws : List V) (H' : Hp), Qd ys M' → Dj M' F → Ev M H M' H' → MemOk K (mput (mj M' F) L (some .hid)) H' → M' L = none → F L = none → H' L = some (.lst ws) → (∀ o, H L = some o → NT o → False) → RpL K (mput (mj M' F) L (some .hid)) H' ws ys → Q (.ref L) H') :
    tLc2 (Li K c ti) (Lg K c.mute vs g) (Lt K c.mute tt) (Li K c.mute ti1) (Lg K c.mute vs1 g1) (Lt K c.mute tt1) (Lf K c.mute te) vs vs1 σ H Q := by
  refine ⟨ds, M, F, _, at', ht, fun xs M1 H1 J q dj1 ev1 mo1 wk D hD => ?_⟩
  obtain ⟨nM, nF⟩ := mj_none (mo1.fresh hD)
  have hD0 : ∀ o, H D = some o → NT o → False := fun o e n => by
    obtain ⟨o', e', _⟩ := ev1.dom D o e n
    rw [hD] at e'; cases e'
  obtain ⟨F', hF'⟩ : ∃ F', F' = mput F D (some .hid) := ⟨_, rfl⟩
  have geF : ∀ a o, c.F0 a = some o → F' a = some o := fun a o e => by
    have z := at'.ge a o e
    rw [hF', mput_ne (fun q => by subst q; rw [nF] at z; cases z)]
    exact z
  have hotD : ∀ {M5 : Mem}, Dj M5 F' → (mj M5 F') D = some .hid := fun {M5} dj5 => by
    have nM5 : M5 D = none := by rw [hF'] at dj5; exact djM dj5
    rw [mj_r nM5, hF', mput_same]
  have nMD : ∀ {M5 : Mem}, Dj M5 F' → M5 D = none := fun {M5} dj5 => by rw [hF'] at dj5; exact djM dj5
  have kp1 : ∀ {M5 : Mem} {H5 : Hp}, Dj M5 F' → Ev M1 H1 M5 H5 → Kp (mj M1 F) H1 (mj M5 F') H5 := fun {M5 H5} dj5 ev5 => by
    rw [hF', mjH (nMD dj5)]
    have z : Kp (mj M1 F) H1 (mj M5 F) H5 := ev5.kpF
    refine ⟨z.tup, fun a vs h n => ?_⟩
    have z2 := z.lst a vs h n
    refine ⟨z2.1, ?_⟩
    rw [mput_ne (fun e => by
      subst e
      rw [hD] at h; cases h)]
    exact z2.2
  -- the list written
  have wrEv : ∀ {M9 : Mem} {H9 : Hp} {ws : List V}, Ev M1 H1 M9 H9 → Ev M1 H1 M9 (upd H9 D (.lst ws)) := fun {M9 H9 ws} e19 => by
    refine ⟨fun a o h hn => ?_, e19.mono, fun a o h nt => ?_⟩
    · rw [upd_ne (ne_of_none h hD)]; exact e19.keep a o h hn
    · rw [upd_ne (ne_of_none h hD)]; exact e19.dom a o h nt
  have wrMo : ∀ {M9 : Mem} {H9 : Hp} {vs ws : List V}, Dj M9 F' → MemOk K (mj M9 F') H9 → H9 D = some (.lst vs) → MemOk K (mj M9 F') (upd H9 D (.lst ws)) := fun {M9 H9 vs ws} dj9 mo9 hD9 => by
    have z : MemOk K (mput (mj M9 F') D (some .hid)) (upd H9 D (.lst ws)) := mo9.write (hotD dj9) (fun ps z => by rw [hD9] at z; cases z) ⟨_, upd_same⟩
    rw [mput_self (hotD dj9)] at z
    exact z
  have wrKp : ∀ {M9 : Mem} {H9 : Hp} {vs ws : List V}, Dj M9 F' → H9 D = some (.lst vs) → Kp (mj M9 F') H9 (mj M9 F') (upd H9 D (.lst ws)) := fun {M9 H9 vs ws} dj9 hD9 => by
    have z := (Ev.write (o := HO.lst ws) (u' := MO.hid) (hotD dj9) ⟨_, hD9, .inl trivial, fun _ => nofun⟩).kp
    rw [mput_self (hotD dj9)] at z
    exact z
  refine ⟨fun i m H5 => m = xs.length - i ∧ i ≤ xs.length ∧ ∃ M5 acc ys, Dj M5 F' ∧ Ev M1 H1 M5 H5 ∧ MemOk K (mj M5 F') H5 ∧ H5 D = some (.lst acc) ∧ RpL K (mj M5 F') H5 acc ys ∧ compL2 vs vs1 g tt ti1 g1 tt1 te ds Qd (xs.drop i) ys M5, ⟨xs.length, by simp, Nat.zero_le _, M1, [], [], ?_, ?_, ?_, upd_same, .nil, q⟩, ?_⟩
  · rw [hF']; exact djH dj1 nM
  · exact Ev.new hD
  · rw [hF', mjH nM]
    exact mo1.newHot hD ⟨_, upd_same⟩
  rintro i m H5 ⟨rfl, hle, M5, acc, ys, dj5, ev5, mo5, hD5, ra, q5⟩
  have nM5 : M5 D = none := nMD dj5
  have kp15 := kp1 dj5 ev5
  obtain ⟨w1, w2, w3⟩ := wk (mj M5 F') H5 kp15 mo5
  by_cases hlt : i < xs.length
  · rw [List.drop_eq_getElem_cons hlt] at q5
    have hx : xs[i]? = some xs[i] := List.getElem?_eq_getElem hlt
    refine .inr ⟨w1 i hlt, fun H6 => ∃ M5 acc ys, Dj M5 F' ∧ Ev M1 H1 M5 H6 ∧ MemOk K (mj M5 F') H6 ∧ H6 D = some (.lst acc) ∧ RpL K (mj M5 F') H6 acc ys ∧ compL2 vs vs1 g tt ti1 g1 tt1 te ds Qd (xs.drop (i + 1)) ys M5, fun H6 h => ⟨xs.length - (i + 1), by omega, rfl, hlt, h⟩, fun x H6 y => ?_⟩
    obtain ⟨_, mo6, rx, same⟩ := w3 i x H6 _ hx y
    have e56 : Ev M5 H5 M5 H6 := ev_of_same same
    have sl5 : SlR K (mj M5 F') H6 (dwipe ds vs) (L2.wipe σ vs) := ((at'.sl.kp ev1.kpF).kp kp15 |>.kp e56.kpF).wipe vs
    have at6 : At K c.mute (dwipe ds vs) M5 F' (L2.wipe σ vs) H6 := ⟨sl5, mo6, at'.ev.trans (ev1.trans (ev5.trans e56)), dj5, geF⟩
    have hD6 : H6 D = some (.lst acc) := same D _ hD5
    have noD : ∀ {M7 : Mem} {H7 : Hp}, Ev M5 H6 M7 H7 → H7 D = some (.lst acc) := fun e => e.keep D _ hD6 (.inl ⟨nM5, fun _ => nofun⟩)
    refine ⟨xs[i], dwipe ds vs, M5, F', _, at6, rx, q5, fun ds7 M7 σ7 H7 p7 dj7 ev7 mo7 sl7 out7 => ?_⟩
    refine ⟨(wipe_out out7).trans wipe_wipe, ?_⟩
    have at7 : At K c.mute ds7 M7 F' σ7 H7 := ⟨sl7, mo7, at6.ev.trans ev7, dj7, geF⟩
    refine ⟨ds7, M7, F', _, at7, p7, fun b M8 H8 p8 dj8 ev8 mo8 => ?_⟩
    have e68 := ev7.trans ev8
    have e18 := ev5.trans (e56.trans e68)
    have ra8 : RpL K (mj M8 F') H8 acc ys := RpL.ev e68 ys (RpL.ev e56 ys ra)
    cases b with
    | false =>
      dsimp only
      rw [if_neg Bool.false_ne_true]
      exact ⟨M8, acc, ys, dj8, e18, mo8, noD e68, ra8, p8.2 rfl⟩
    | true =>
      dsimp only
      rw [if_pos rfl]
      have at8 := at7.go dj8 ev8 mo8
      refine ⟨ds7, M8, F', _, at8, p8.1 rfl, fun zs M9 H9 J1 p9 dj9 ev9 mo9 wk9 => ?_⟩
      obtain ⟨hz, p9⟩ := p9
      have e19 := e18.trans ev9
      have sl9 : SlR K (mj M9 F') H9 ds7 σ7 := at8.sl.kp ev9.kpF
      have hD9 : H9 D = some (.lst acc) := noD (e68.trans ev9)
      have ra9 : RpL K (mj M9 F') H9 acc ys := RpL.ev ev9 ys ra8
      refine ⟨fun j k H5 => k = zs.length - j ∧ j ≤ zs.length ∧ ∃ M5 acc2 ys2, Dj M5 F' ∧ Ev M1 H1 M5 H5 ∧ Kp (mj M9 F') H9 (mj M5 F') H5 ∧ MemOk K (mj M5 F') H5 ∧ H5 D = some (.lst acc2) ∧ RpL K (mj M5 F') H5 acc2 ys2 ∧ ys2.length ≤ ys.length + j ∧ compL vs1 g1 tt1 te ds7 (fun acc' M' => compL2 vs vs1 g tt ti1 g1 tt1 te ds Qd (xs.drop (i + 1)) acc' M') (zs.drop j) ys2 M5, ⟨zs.length, by simp, Nat.zero_le _, M9, acc, ys, dj9, e19, ⟨fun _ _ h => h, fun _ _ h n => ⟨h, n⟩⟩, mo9, hD9, ra9, Nat.le_refl _, p9⟩, ?_⟩
      rintro j k H10 ⟨rfl, hle1, M10, acc2, ys2, dj10, e110, kp10, mo10, hD10, ra10, hl2, q10⟩
      obtain ⟨u1, u2, u3⟩ := wk9 (mj M10 F') H10 kp10 mo10
      by_cases hlt1 : j < zs.length
      · rw [List.drop_eq_getElem_cons hlt1] at q10
        have hz1 : zs[j]? = some zs[j] := List.getElem?_eq_getElem hlt1
        refine .inr ⟨u1 j hlt1, fun H5 => ∃ M5 acc2 ys2, Dj M5 F' ∧ Ev M1 H1 M5 H5 ∧ Kp (mj M9 F') H9 (mj M5 F') H5 ∧ MemOk K (mj M5 F') H5 ∧ H5 D = some (.lst acc2) ∧ RpL K (mj M5 F') H5 acc2 ys2 ∧ ys2.length ≤ ys.length + (j + 1) ∧ compL vs1 g1 tt1 te ds7 (fun acc' M' => compL2 vs vs1 g tt ti1 g1 tt1 te ds Qd (xs.drop (i + 1)) acc' M') (zs.drop (j + 1)) ys2 M5, fun H5 h => ⟨zs.length - (j + 1), by omega, rfl, hlt1, h⟩, fun x H11 y1 => ?_⟩
        obtain ⟨_, mo11, rx1, same1⟩ := u3 j x H11 _ hz1 y1
        have e1011 : Ev M10 H10 M10 H11 := ev_of_same same1
        have nM10 : M10 D = none := nMD dj10
        have hD11 : H11 D = some (.lst acc2) := same1 D _ hD10
        have noD1 : ∀ {M7 : Mem} {H7 : Hp}, Ev M10 H11 M7 H7 → H7 D = some (.lst acc2) := fun e => e.keep D _ hD11 (.inl ⟨nM10, fun _ => nofun⟩)
        have sl11 : SlR K (mj M10 F') H11 (dwipe ds7 vs1) (L2.wipe σ7 vs1) := ((sl9.kp kp10).kp e1011.kpF).wipe vs1
        have at11 : At K c.mute (dwipe ds7 vs1) M10 F' (L2.wipe σ7 vs1) H11 := ⟨sl11, mo11, at'.ev.trans (ev1.trans (e110.trans e1011)), dj10, geF⟩
        refine ⟨zs[j], dwipe ds7 vs1, M10, F', _, at11, rx1, q10, fun ds12 M12 σ12 H12 p12 dj12 ev12 mo12 sl12 out12 => ?_⟩
        refine ⟨(wipe_out out12).trans wipe_wipe, ?_⟩
        have at12 : At K c.mute ds12 M12 F' σ12 H12 := ⟨sl12, mo12, at11.ev.trans ev12, dj12, geF⟩
        refine ⟨ds12, M12, F', _, at12, p12, fun b M13 H13 p13 dj13 ev13 mo13 => ?_⟩
        have e1113 := ev12.trans ev13
        have e113 := e110.trans (e1011.trans e1113)
        have kp13 : Kp (mj M9 F') H9 (mj M13 F') H13 := kp10.trans (e1011.kpF.trans e1113.kpF)
        have ra13 : RpL K (mj M13 F') H13 acc2 ys2 := RpL.ev e1113 ys2 (RpL.ev e1011 ys2 ra10)
        cases b with
        | false =>
          dsimp only
          rw [if_neg Bool.false_ne_true]
          exact ⟨M13, acc2, ys2, dj13, e113, kp13, mo13, noD1 e1113, ra13, by omega, p13.2 rfl⟩
        | true =>
          dsimp only
          rw [if_pos rfl]
          refine ⟨ds12, M13, F', _, at12.go dj13 ev13 mo13, p13.1 rfl, fun y M14 v H14 p14 dj14 ev14 mo14 r14 => ?_⟩
          have e1114 := e1113.trans ev14
          have hD14 := noD1 e1114
          have lenA : acc2.length = ys2.length := ra10.length
          refine ⟨acc2, hD14, by omega, M14, acc2 ++ [v], ys2 ++ [y], dj14, wrEv (e113.trans ev14), (kp13.trans ev14.kpF).trans (wrKp dj14 hD14), wrMo dj14 mo14 hD14, upd_same, ?_, by rw [List.length_append]; show ys2.length + 1 ≤ _; omega, p14⟩
          have kpw := wrKp (ws := acc2 ++ [v]) dj14 hD14
          exact (RpL.kp kpw ys2 (RpL.ev ev14 ys2 ra13)).append (.cons (Rp.kp kpw y r14) .nil)
      · have e : j = zs.length := by omega
        subst e
        rw [List.drop_length] at q10
        exact .inl ⟨u2, M10, acc2, ys2, dj10, e110, mo10, hD10, ra10, q10⟩
  · have e : i = xs.length := by omega
    subst e
    rw [List.drop_length] at q5
    refine .inl ⟨w2, ?_⟩
    have m2 : MemOk K (mput (mj M5 F) D (some .hid)) H5 := by rw [← mjH nM5, ← hF']; exact mo5
    have r2 : RpL K (mput (mj M5 F) D (some .hid)) H5 acc ys := by rw [← mjH nM5, ← hF']; exact ra
    exact fin D ys M5 acc H5 q5 (by rw [hF'] at dj5; exact djU dj5 nF) (ev1.trans ev5) m2 nM5 nF hD5 hD0 r2
theorem lc2_cold {K : Fg} {σ : L2.St} {H : Hp} {Q : VK} : Lf K c (dComp2 vs vs1 ti g tt ti1 g1 tt1 te) σ H Q → tLc2 (Li K c ti) (Lg K c.mute vs g) (Lt K c.mute tt) (Li K c.mute ti1) (Lg K c.mute vs1 g1) (Lt K c.mute tt1) (Lf K c.mute te) vs vs1 σ H Q := fun ⟨ds, M, F, P, at', ht, fin⟩ =>
  lc2_read at' ht fun D ys M' ws H' p dj ev mo nM nF hD hD0 r => by
    have cold : (mj M' F) D = none := by rw [mj_r nM]; exact nF
    have ls : ∀ a, mput (mj M' F) D (some .hid) a = none → (mj M' F) a = none := fun a h => by
      by_cases e : a = D
      · subst e; exact cold
      · rw [mput_ne e] at h; exact h
    exact fin (.lst ys) M' (.ref D) H' p dj ev (mo.less fun a o h => by rw [mput_ne (fun e => by subst e; rw [cold] at h; cases h)]; exact h) (.lst hD cold (RpL.less ls ys r))
variable {tg iter tg1 iter1 elt : Expr} {ifs ifs1 : List Expr} {scope : Scope} {own : List (Str × Nat)}
theorem d_lc2 (hc : X.calm = true) (hN : X.N.Nodup) (hi : DI X c tg iter ti) (ok : BlkOk X.N X.env.scope scope own) (hv : ∀ i ∈ vs1, i ∈ own.map (·.2))
    (hg : ∀ (s : Shared) (H : Hp) (C : Addr) (cl : List (Str × Addr)) (fp : List Addr), DG (X.blk s H scope (compEnvC scope cl C X.env) fp) c.mute (own.map (·.2)) tg g) (ht : ∀ (s : Shared) (H : Hp) (C : Addr) (cl : List (Str × Addr)) (fp : List Addr), DTs (X.blk s H scope (compEnvC scope cl C X.env) fp) c.mute ifs tt)
    (hi1 : ∀ (s : Shared) (H : Hp) (C : Addr) (cl : List (Str × Addr)) (fp : List Addr), DI (X.blk s H scope (compEnvC scope cl C X.env) fp) c.mute tg1 iter1 ti1)
    (hg1 : ∀ (s : Shared) (H : Hp) (C : Addr) (cl : List (Str × Addr)) (fp : List Addr), DG (X.blk s H scope (compEnvC scope cl C X.env) fp) c.mute vs1 tg1 g1) (ht1 : ∀ (s : Shared) (H : Hp) (C : Addr) (cl : List (Str × Addr)) (fp : List Addr), DTs (X.blk s H scope (compEnvC scope cl C X.env) fp) c.mute ifs1 tt1)
    (he : ∀ (s : Shared) (H : Hp) (C : Addr) (cl : List (Str × Addr)) (fp : List Addr), DE (X.blk s H scope (compEnvC scope cl C X.env) fp) c.mute elt te) (hs : ∀ x, foldedSetIterable iter X.env x = pure x := by intro _; rfl) (hs1 : ∀ env x, foldedSetIterable iter1 env x = pure x := by intro _ _; rfl) :
    DE X c (.ListComp elt [⟨tg, iter, ifs, 0⟩, ⟨tg1, iter1, ifs1, 0⟩] scope pos) (dComp2 (own.map (·.2)) vs1 ti g tt ti1 g1 tt1 te) := (pe_lc2 (g := Lg X.K c.mute (own.map fun (x : Str × Nat) => x.2) g) (tt := Lt X.K c.mute tt) (wi1 := Li X.K c.mute ti1) (g1 := Lg X.K c.mute vs1 g1) (tt1 := Lt X.K c.mute tt1) (te := Lf X.K c.mute te) hc hN hi ok hv hg ht hi1 hg1 ht1 he hs hs1).imp fun _ _ _ => lc2_cold
theorem d_setLc2 {i : Nat} {y : Str} {py : Pos} {spos : Pos} (hc : X.calm = true) (hN : X.N.Nodup) (hy : X.N[i]? = some y) (hyl : X.env.scope.names.lookup y = some .local)
    (hsw : swapsWith (.ListComp elt [⟨tg, iter, ifs, 0⟩, ⟨tg1, iter1, ifs1, 0⟩] scope pos) (some (.Name y py)) spos.line X.env = pure true) (hi : DI X c tg iter ti) (ok : BlkOk X.N X.env.scope scope own) (hv : ∀ i ∈ vs1, i ∈ own.map (·.2))
    (hg : ∀ (s : Shared) (H : Hp) (C : Addr) (cl : List (Str × Addr)) (fp : List Addr), DG (X.blk s H scope (compEnvC scope cl C X.env) fp) c.mute (own.map (·.2)) tg g) (ht : ∀ (s : Shared) (H : Hp) (C : Addr) (cl : List (Str × Addr)) (fp : List Addr), DTs (X.blk s H scope (compEnvC scope cl C X.env) fp) c.mute ifs tt)
    (hi1 : ∀ (s : Shared) (H : Hp) (C : Addr) (cl : List (Str × Addr)) (fp : List Addr), DI (X.blk s H scope (compEnvC scope cl C X.env) fp) c.mute tg1 iter1 ti1)
    (hg1 : ∀ (s : Shared) (H : Hp) (C : Addr) (cl : List (Str × Addr)) (fp : List Addr), DG (X.blk s H scope (compEnvC scope cl C X.env) fp) c.mute vs1 tg1 g1) (ht1 : ∀ (s : Shared) (H : Hp) (C : Addr) (cl : List (Str × Addr)) (fp : List Addr), DTs (X.blk s H scope (compEnvC scope cl C X.env) fp) c.mute ifs1 tt1)
    (he : ∀ (s : Shared) (H : Hp) (C : Addr) (cl : List (Str × Addr)) (fp : List Addr), DE (X.blk s H scope (compEnvC scope cl C X.env) fp) c.mute elt te) (hs : ∀ x, foldedSetIterable iter X.env x = pure x := by intro _; rfl) (hs1 : ∀ env x, foldedSetIterable iter1 env x = pure x := by intro _ _; rfl) :
    DS X c (.Assign [.Name y py] (.ListComp elt [⟨tg, iter, ifs, 0⟩, ⟨tg1, iter1, ifs1, 0⟩] scope pos) spos) (dSet i (dComp2 (own.map (·.2)) vs1 ti g tt ti1 g1 tt1 te)) := (ps_setLc2 (g := Lg X.K c.mute (own.map fun (x : Str × Nat) => x.2) g) (tt := Lt X.K c.mute tt) (wi1 := Li X.K c.mute ti1) (g1 := Lg X.K c.mute vs1 g1) (tt1 := Lt X.K c.mute tt1) (te := Lf X.K c.mute te) hc hN hy hyl hsw hi ok hv hg ht hi1 hg1 ht1 he hs hs1).imp fun W σ H ⟨ds, M, F, DD, at', ht, f⟩ =>
  lc2_cold (Q := fun v H' => W.nx (σ.set i (some v)) H') ⟨ds, M, F, fun d M1 => DD.nx (ds.set i (some d)) M1, at', ht, fun d M' v H' p dj ev mo rp => f.nx _ M' _ H' p dj ev mo ((at'.sl.kp ev.kpF).set i rp)⟩
end
end DL

set_option Elab.async false
set_option linter.all false
set_option maxRecDepth 100000
set_option maxHeartbeats 4000000
namespace DL
open PySem PySem.Spec PyProof.Rows L2
/-! ### a hot list stands still from here on -/
def dFrz (i : Nat) (t : DTS) : DTS := fun W ds M => ∃ a xs, ds[i]? = some (some (.ref a)) ∧ M a = some (.lst xs) ∧ t W (ds.set i (some (.lst xs))) (mput M a none)
theorem SlR.less {K : Fg} {A A' : Mem} {H : Hp} {ds : DSt} {σ : L2.St} (s : SlR K A H ds σ) (e : ∀ a, A a = none → A' a = none) : SlR K A' H ds σ :=
  ⟨s.1, fun i d h => by
    obtain ⟨v, e1, r⟩ := s.2 i d h
    exact ⟨v, e1, Rp.less e d r⟩⟩
theorem SlR.put {K : Fg} {A : Mem} {H : Hp} {ds : DSt} {σ : L2.St} {v : V} {d : D} (s : SlR K A H ds σ) (i : Nat) (hv : σ[i]? = some (some v)) (r : Rp K A H v d) : SlR K A H (ds.set i (some d)) σ := by
  refine ⟨by rw [List.length_set, s.1], fun j e h => ?_⟩
  rw [List.getElem?_set] at h
  split at h
  · rename_i hij
    subst hij
    split at h
    · cases h
      exact ⟨v, hv, r⟩
    · cases h
  · exact s.2 j e h
theorem ls_frz {K : Fg} {c : DC} {i : Nat} {t : DTS} {W : Ends} {σ : L2.St} {H : Hp} : Ls K c (dFrz i t) W σ H → Ls K c t W σ H := fun ⟨ds, M, F, DD, at', ⟨a, xs, h1, h2, ht⟩, f⟩ => by
  have fa := dj_here at'.dj h2
  obtain ⟨vs, e1, r⟩ := at'.mo a _ (mj_l h2)
  obtain ⟨v, hv, rv⟩ := at'.sl.2 i _ h1
  cases rv
  have rl : Rp K (mj (mput M a none) F) H (.ref a) (.lst xs) := .lst e1 (by rw [mj_r mput_same]; exact fa) (RpL.less mput_less xs r)
  refine ⟨ds.set i (some (.lst xs)), mput M a none, F, DD, ⟨(at'.sl.less mput_less).put i hv rl, at'.mo.less (mput_sub at'.dj (at'.dj.at_ a)), ev_drop at'.ev, dj_drop at'.dj, at'.ge⟩, ht, f.ev (ev_drop .refl)⟩
theorem d_frz {X : Cx} {c : DC} {s : Stmt} {t : DTS} (i : Nat) (h : DS X c s t) : DS X c s (dFrz i t) := h.imp fun _ _ _ => ls_frz
/-- a, b, c = x, y, z: plain locals -/
def dPar3 (i j l : Nat) (ta : DTA) : DTS := fun W ds M => ta ds M fun xs M1 => match xs with | [a, b, c] => W.nx (((ds.set i (some a)).set j (some b)).set l (some c)) M1 | _ => False
theorem d_par3 {X : Cx} {c : DC} {pos : Pos} {i j l : Nat} {x y z : Str} {a b e : Expr} {ta : DTA} {px py pz pt : Pos} {kt k2 : Nat} {pt2 : Pos} (hc : X.calm = true) (hN : X.N.Nodup) (hi : X.N[i]? = some x) (hj : X.N[j]? = some y) (hl : X.N[l]? = some z) (hij : i ≠ j) (hil : i ≠ l) (hjl : j ≠ l)
    (hx : X.env.scope.names.lookup x = some .local) (hy : X.env.scope.names.lookup y = some .local) (hz : X.env.scope.names.lookup z = some .local) (ha : DA X c [a, b, e] ta)
    (hw : swappedStores [.Tuple [.Name x px, .Name y py, .Name z pz] kt pt] (.Tuple [a, b, e] k2 pt2) X.env = pure (some [x, y, z]))
    (hs : swapsWithSole [.Tuple [.Name x px, .Name y py, .Name z pz] kt pt] (.Tuple [a, b, e] k2 pt2) pos.line X.env = pure false := by rfl) :
    DS X c (.Assign [.Tuple [.Name x px, .Name y py, .Name z pz] kt pt] (.Tuple [a, b, e] k2 pt2) pos) (dPar3 i j l ta) := (ps_par3 hc hN hi hj hl hij hil hjl hx hy hz ha hw hs).imp fun W σ H ⟨ds, M, F, DD, at', ht, f⟩ =>
  ⟨ds, M, F, _, at', ht, fun xs M1 vs H1 p dj ev mo rp => by
    match xs, vs, rp, p with
    | [a, b, c], _, .cons r1 (.cons r2 (.cons r3 .nil)), p => exact ⟨_, _, _, rfl, f.nx _ M1 _ H1 p dj ev mo ((((at'.sl.kp ev.kpF).set i r1).set j r2).set l r3)⟩⟩
end DL

set_option Elab.async false
set_option linter.all false
set_option maxRecDepth 100000
set_option maxHeartbeats 4000000
namespace DL
open PySem PySem.Spec PyProof.Rows L2
/-! ### keys, tables of data -/
def keyD : D → Option Key
  | .int i => some (.inl i)
  | .str x => some (.inr x)
  | _ => none
def keysD : List D → Option (List Key)
  | [] => some []
  | d :: r => match keyD d, keysD r with | some k, some ks => some (k :: ks) | _, _ => none
theorem keyD_rp {K : Fg} {A : Mem} {H : Hp} {d : D} {v : V} {k : Key} (e : keyD d = some k) (r : Rp K A H v d) : v = kV k := by
  cases r <;> simp_all [keyD] <;> (subst e; rfl)
theorem keysD_rp {K : Fg} {A : Mem} {H : Hp} : ∀ {ds : List D} {vs : List V} {ks : List Key}, keysD ds = some ks → RpL K A H vs ds → vs = ks.map kV
  | [], _, _, e, .nil => by cases e; rfl
  | d :: r, _, _, e, .cons h1 h2 => by
    unfold keysD at e
    cases q : keyD d with
    | none => rw [q] at e; cases e
    | some k =>
      cases q2 : keysD r with
      | none => rw [q, q2] at e; cases e
      | some l =>
        rw [q, q2] at e
        cases e
        rw [List.map_cons, keyD_rp q h1, keysD_rp q2 h2]
section
variable {κ : Type} [DecidableEq κ]
def valD (kvs : List (κ × D)) (k : κ) : Option D := (kvs.find? fun kv => decide (kv.1 = k)).map (·.2)
def putD (kvs : List (κ × D)) (k : κ) (v : D) : List (κ × D) :=
  if (kvs.any fun kv => decide (kv.1 = k)) = true then kvs.map (fun kv => if kv.1 = k then (kv.1, v) else kv) else kvs ++ [(k, v)]
theorem kvR_val {K : Fg} {A : Mem} {H : Hp} (k : κ) : ∀ {l : List (κ × V)} {m : List (κ × D)}, KvR K A H l m → (valV l k = none ∧ valD m k = none) ∨ ∃ v d, valV l k = some v ∧ valD m k = some d ∧ Rp K A H v d
  | _, _, .nil => .inl ⟨rfl, rfl⟩
  | (a, v) :: l, (b, d) :: m, .cons h t => by
    obtain ⟨h1, h2⟩ := h
    dsimp only at h1 h2
    subst h1
    by_cases e : a = k
    · exact .inr ⟨v, d, by simp [valV, List.find?_cons, e], by simp [valD, List.find?_cons, e], h2⟩
    · rcases kvR_val k t with ⟨i1, i2⟩ | ⟨v', d', i1, i2, i3⟩
      · exact .inl ⟨by simpa [valV, List.find?_cons, e] using i1, by simpa [valD, List.find?_cons, e] using i2⟩
      · exact .inr ⟨v', d', by simpa [valV, List.find?_cons, e] using i1, by simpa [valD, List.find?_cons, e] using i2, i3⟩
theorem kvR_any {K : Fg} {A : Mem} {H : Hp} (k : κ) : ∀ {l : List (κ × V)} {m : List (κ × D)}, KvR K A H l m → (l.any fun kv => decide (kv.1 = k)) = (m.any fun kv => decide (kv.1 = k))
  | _, _, .nil => rfl
  | (a, v) :: l, (b, d) :: m, .cons h t => by
    obtain ⟨h1, h2⟩ := h
    dsimp only at h1 h2
    subst h1
    rw [List.any_cons, List.any_cons, kvR_any k t]
theorem kvR_map {K : Fg} {A : Mem} {H : Hp} (k : κ) {x : V} {y : D} (r : Rp K A H x y) : ∀ {l : List (κ × V)} {m : List (κ × D)}, KvR K A H l m → KvR K A H (l.map fun kv => if kv.1 = k then (kv.1, x) else kv) (m.map fun kv => if kv.1 = k then (kv.1, y) else kv)
  | _, _, .nil => .nil
  | (a, v) :: l, (b, d) :: m, .cons h t => by
    obtain ⟨h1, h2⟩ := h
    dsimp only at h1 h2
    subst h1
    rw [List.map_cons, List.map_cons]
    refine .cons ?_ (kvR_map k r t)
    by_cases e : a = k
    · simp only [e, if_true]; exact ⟨trivial, r⟩
    · simp only [e, if_false]; exact ⟨trivial, h2⟩
theorem kvR_snoc {K : Fg} {A : Mem} {H : Hp} (k : κ) {x : V} {y : D} (r : Rp K A H x y) : ∀ {l : List (κ × V)} {m : List (κ × D)}, KvR K A H l m → KvR K A H (l ++ [(k, x)]) (m ++ [(k, y)])
  | _, _, .nil => .cons ⟨rfl, r⟩ .nil
  | _ :: l, _ :: m, .cons h t => .cons h (kvR_snoc k r t)
theorem kvR_put {K : Fg} {A : Mem} {H : Hp} (k : κ) {x : V} {y : D} (r : Rp K A H x y) {l : List (κ × V)} {m : List (κ × D)} (h : KvR K A H l m) : KvR K A H (putK l k x) (putD m k y) := by
  unfold putK putD
  rw [kvR_any k h]
  split
  · exact kvR_map k r h
  · exact kvR_snoc k r h
theorem kvR_len {K : Fg} {A : Mem} {H : Hp} : ∀ {l : List (κ × V)} {m : List (κ × D)}, KvR K A H l m → l.length = m.length
  | _, _, .nil => rfl
  | _ :: l, _ :: m, .cons h t => by rw [List.length_cons, List.length_cons, kvR_len t]
theorem kvR_vals {K : Fg} {A : Mem} {H : Hp} : ∀ {l : List (κ × V)} {m : List (κ × D)}, KvR K A H l m → RpL K A H (l.map (·.2)) (m.map (·.2))
  | _, _, .nil => .nil
  | _ :: l, _ :: m, .cons h t => .cons h.2 (kvR_vals t)
end
/-! ### tuple(xs), a key -/
def gTupleT : DOL := fun xs M P => match xs with
  | [.lst ys] => (match keysD ys with | some ks => ∀ p, M p = none → P (.ref p) (mput M p (some (.tp ks))) | none => False)
  | _ => False
theorem ol_tupleT {K : Fg} : OpL K (fun xs H Q => ∃ p ys, xs = [.ref p] ∧ ((SqL K H p ys ∧ ∀ l, H l = none → Q (.ref l) (upd H l (.tup ys))) ∨ (SqT K H p ys ∧ Q (.ref p) H))) gTupleT := fun M F xs vs H P Q q dj mo rs fin => by
  unfold gTupleT at q
  split at q
  · split at q
    · rename_i ks e
      match vs, rs with
      | [_], .cons (.lst hs hn hl) .nil =>
        have e2 := keysD_rp e hl
        subst e2
        refine ⟨_, _, rfl, .inl ⟨.of hs, fun p n => ?_⟩⟩
        obtain ⟨n1, n2⟩ := mj_none (mo.fresh n)
        refine fin (.ref p) _ (.ref p) _ (q p n1) (dj_put dj n2) (Ev.newHot n) ?_ (.ref p)
        rw [mj_put]
        exact mo.newHot n upd_same
    · exact q.elim
  · exact q.elim
/-! ### dicts -/
def dNewT : DTE := fun ds M P => ∀ p, M p = none → P (.ref p) (mput M p (some (.dT [])))
def dNewK : DTE := fun ds M P => ∀ p, M p = none → P (.ref p) (mput M p (some (.dK [])))
/-- what stands at the key y in the dict at a -/
def atD (M : Mem) (a : Addr) (y : D) (P : Option D → Prop) : Prop := match M a with
  | some (.dT kvs) => (match y with | .ref b => (match M b with | some (.tp ks) => P (valD kvs ks) | _ => False) | _ => False)
  | some (.dK kvs) => (match keyD y with | some k => P (valD kvs k) | none => False)
  | _ => False
def isDict (M : Mem) (a : Addr) : Prop := match M a with | some (.dT _) => True | some (.dK _) => True | _ => False
def dGet2 (td ty tx : DTE) : DTE := fun ds M P => td ds M fun x M1 => match x with
  | .ref a => isDict M1 a ∧ ty ds M1 fun y M2 => tx ds M2 fun z M3 => atD M3 a y fun o => P (o.getD z) M3
  | _ => False
/-- the store behind d[y] = v -/
def putAt (M : Mem) (a : Addr) (y v : D) (P : Mem → Prop) : Prop := match M a with
  | some (.dT kvs) => (match y with | .ref b => (match M b with | some (.tp ks) => kvs.length < sizeLine ∧ P (mput M a (some (.dT (putD kvs ks v)))) | _ => False) | _ => False)
  | some (.dK kvs) => (match keyD y with | some k => kvs.length < sizeLine ∧ P (mput M a (some (.dK (putD kvs k v)))) | none => False)
  | _ => False
def dDPut (td ty tv : DTE) : DTS := fun W ds M => tv ds M fun v M1 => td ds M1 fun x M2 => ty ds M2 fun y M3 => match x with
  | .ref a => putAt M3 a y v fun M4 => W.nx ds M4
  | _ => False
theorem atD_get {K : Fg} {M F : Mem} {H : Hp} {a : Addr} {y : D} {u : V} {P : Option D → Prop} (mo : MemOk K (mj M F) H) (ry : Rp K (mj M F) H u y) (h : atD M a y P) : ∃ o, DGet H a u o ∧ ((o = none ∧ P none) ∨ ∃ v d, o = some v ∧ Rp K (mj M F) H v d ∧ P (some d)) := by
  unfold atD at h
  split at h
  · rename_i kvs hM
    obtain ⟨vs, e1, r⟩ := mo a _ (mj_l hM)
    split at h
    · split at h
      · rename_i ks hb
        cases ry
        have eb := mo _ _ (mj_l hb)
        refine ⟨_, DGet.t e1 eb, ?_⟩
        rcases kvR_val ks r with ⟨i1, i2⟩ | ⟨v, d, i1, i2, i3⟩
        · rw [i2] at h; exact .inl ⟨i1, h⟩
        · rw [i2] at h; exact .inr ⟨v, d, i1, i3, h⟩
      · exact h.elim
    · exact h.elim
  · rename_i kvs hM
    obtain ⟨vs, e1, r⟩ := mo a _ (mj_l hM)
    split at h
    · rename_i k hk
      rw [keyD_rp hk ry]
      refine ⟨_, DGet.k e1, ?_⟩
      rcases kvR_val k r with ⟨i1, i2⟩ | ⟨v, d, i1, i2, i3⟩
      · rw [i2] at h; exact .inl ⟨i1, h⟩
      · rw [i2] at h; exact .inr ⟨v, d, i1, i3, h⟩
    · exact h.elim
  · exact h.elim
theorem isDict_at {K : Fg} {M F : Mem} {H : Hp} {a : Addr} (mo : MemOk K (mj M F) H) (h : isDict M a) : IsD H a := by
  unfold isDict at h
  split at h
  · rename_i kvs hM
    obtain ⟨vs, e1, r⟩ := mo a _ (mj_l hM)
    exact .inr ⟨_, .inl e1⟩
  · rename_i kvs hM
    obtain ⟨vs, e1, r⟩ := mo a _ (mj_l hM)
    exact .inl ⟨_, .inl e1⟩
  · exact h.elim
section
variable {X : Cx} {c : DC} {o e f : Expr} {td ty tx tv : DTE} {pos pos' apos cpos : Pos}
theorem d_newT : DE X c (.Dict [] [] pos) dNewT := pe_dnewT.imp fun σ H Q ⟨ds, M, F, P, at', ht, fin⟩ p n => by
  obtain ⟨n1, n2⟩ := mj_none (at'.mo.fresh n)
  refine fin (.ref p) _ (.ref p) _ (ht p n1) (dj_put at'.dj n2) (Ev.newHot n) ?_ (.ref p)
  rw [mj_put]
  exact at'.mo.newHot n ⟨_, upd_same, .nil⟩
theorem d_newK : DE X c (.Dict [] [] pos) dNewK := pe_dnewK.imp fun σ H Q ⟨ds, M, F, P, at', ht, fin⟩ p n => by
  obtain ⟨n1, n2⟩ := mj_none (at'.mo.fresh n)
  refine fin (.ref p) _ (.ref p) _ (ht p n1) (dj_put at'.dj n2) (Ev.newHot n) ?_ (.ref p)
  rw [mj_put]
  exact at'.mo.newHot n ⟨_, upd_same, .nil⟩
theorem d_get2D (hu : X.A.units + 65 < cLine) (ho : DE X c o td) (he : DE X c e ty) (hf : DE X c f tx) (m : M2 X o "get" apos e f cpos) : DE X c (.Call (.Attribute o "get" apos) [e, f] [] cpos) (dGet2 td ty tx) := by
  refine (pe_dget2 (by omega) ho he hf m).imp fun σ H Q ⟨ds, M, F, P, at', ht, fin⟩ => ?_
  refine ⟨ds, M, F, _, at', ht, fun x M1 v H1 q dj ev mo rp => ?_⟩
  cases x with
  | ref a =>
    cases rp
    refine ⟨a, rfl, isDict_at mo q.1, ds, M1, F, _, at'.go dj ev mo, q.2, fun y M2 w H2 q2 dj2 ev2 mo2 rp2 => ?_⟩
    refine ⟨ds, M2, F, _, at'.go dj2 (ev.trans ev2) mo2, q2, fun z M3 u H3 q3 dj3 ev3 mo3 rp3 => ?_⟩
    obtain ⟨ov, g, h⟩ := atD_get mo3 (Rp.ev ev3 y rp2) q3
    refine ⟨ov, g, ?_⟩
    have f3 := fin.ev ((ev.trans ev2).trans ev3)
    rcases h with ⟨rfl, h⟩ | ⟨v', d', rfl, r', h⟩
    · exact f3.val dj3 mo3 h rp3
    · exact f3.val dj3 mo3 h r'
  | _ => exact q.elim
theorem d_dput (hu : X.A.units + 65 < cLine) (ho : DE X c o td) (hi : DE X c e ty) (hv : DE X c f tv) (hs : swapsWith f (some (.Subscript o e pos')) pos.line X.env = pure false := by rfl) :
    DS X c (.Assign [.Subscript o e pos'] f pos) (dDPut td ty tv) := by
  refine (ps_dput (by omega) ho hi hv hs).imp fun W σ H ⟨ds, M, F, DD, at', ht, fi⟩ => ?_
  refine ⟨ds, M, F, _, at', ht, fun v M1 r H1 q dj ev mo rp => ?_⟩
  refine ⟨ds, M1, F, _, at'.go dj ev mo, q, fun x M2 w H2 q2 dj2 ev2 mo2 rp2 => ?_⟩
  refine ⟨ds, M2, F, _, at'.go dj2 (ev.trans ev2) mo2, q2, fun y M3 u H3 q3 dj3 ev3 mo3 rp3 => ?_⟩
  have e3 := (ev.trans ev2).trans ev3
  have rv := Rp.ev (ev2.trans ev3) v rp
  cases x with
  | ref a =>
    cases rp2
    change putAt M3 a y v (fun M4 => DD.nx ds M4) at q3
    unfold putAt at q3
    split at q3
    · rename_i kvs hM
      obtain ⟨vs, e1, rr⟩ := mo3 a _ (mj_l hM)
      split at q3
      · split at q3
        · rename_i ks hb
          cases rp3
          have eb := mo3 _ _ (mj_l hb)
          refine ⟨a, _, rfl, DPut.t e1 eb (by rw [kvR_len rr]; exact q3.1), ?_⟩
          have hd := mo3.domH (mj_l hM)
          have ev4 : Ev M3 H3 (mput M3 a (some (.dT (putD kvs ks v)))) (upd H3 a (.dT (putK vs ks r))) := Ev.write hM hd
          refine fi.nx ds _ σ _ q3.2 (dj_put dj3 (dj_here dj3 hM)) (e3.trans ev4) ?_ (at'.sl.kp (e3.trans ev4).kpF)
          rw [mj_put]
          exact mo3.write (mj_l hM) (fun ps z => by rw [e1] at z; cases z) ⟨_, upd_same, KvR.kp (Ev.write (mj_l hM) hd).kp (kvR_put ks rv rr)⟩
        · exact q3.elim
      · exact q3.elim
    · rename_i kvs hM
      obtain ⟨vs, e1, rr⟩ := mo3 a _ (mj_l hM)
      split at q3
      · rename_i k hk
        rw [keyD_rp hk rp3]
        refine ⟨a, _, rfl, DPut.k e1 (by rw [kvR_len rr]; exact q3.1), ?_⟩
        have hd := mo3.domH (mj_l hM)
        have ev4 : Ev M3 H3 (mput M3 a (some (.dK (putD kvs k v)))) (upd H3 a (.dK (putK vs k r))) := Ev.write hM hd
        refine fi.nx ds _ σ _ q3.2 (dj_put dj3 (dj_here dj3 hM)) (e3.trans ev4) ?_ (at'.sl.kp (e3.trans ev4).kpF)
        rw [mj_put]
        exact mo3.write (mj_l hM) (fun ps z => by rw [e1] at z; cases z) ⟨_, upd_same, KvR.kp (Ev.write (mj_l hM) hd).kp (kvR_put k rv rr)⟩
      · exact q3.elim
    · exact q3.elim
  | _ => exact q3.elim
end
/-! ### return, what is hot here forgotten -/
def LeM (M' M : Mem) : Prop := ∀ a, M' a = none ∨ M' a = M a
def dRetD (te : DTE) : DTS := fun W ds M => te ds M fun d M1 => ∃ M', LeM M' M1 ∧ W.rt d M'
theorem d_retD {X : Cx} {c : DC} {e : Expr} {te : DTE} {pos : Pos} (he : DE X c e te) : DS X c (.Return (some e) pos) (dRetD te) := (ps_ret he).imp fun W σ H ⟨ds, M, F, DD, at', ht, f⟩ =>
  ⟨ds, M, F, _, at', ht, fun d M1 v H1 q dj ev mo rp => by
    obtain ⟨M', le, q⟩ := q
    have l1 : ∀ a, M1 a = none → M' a = none := fun a h => (le a).elim id fun e => e.trans h
    refine f.rt d M' v H1 q ⟨fun a => (le a).elim .inl fun e => by rw [e]; exact dj.at_ a, dj.nt⟩ (ev.less l1) (mo.less fun a o h => ?_) (Rp.less (fun a h => ?_) d rp)
    · rcases le a with z | z
      · rw [mj_r z] at h
        cases q2 : M1 a with
        | none => rw [mj_r q2]; exact h
        | some u =>
          rcases dj.at_ a with z2 | z2
          · rw [q2] at z2; cases z2
          · rw [z2] at h; cases h
      · unfold mj at h ⊢
        rw [z] at h
        exact h
    · obtain ⟨h1, h2⟩ := mj_none h
      rw [mj_r (l1 a h1)]; exact h2⟩
end DL

set_option Elab.async false
set_option linter.all false
set_option maxRecDepth 100000
set_option maxHeartbeats 4000000
namespace DL
open PySem PySem.Spec PyProof.Rows L2
open PySem.W (EachIs SortsAt AllAlike Sortable sortVals sortLe dataKind dataKind_some keyToks dataLt list_sort_vals sort_unique sortLe_total sortingHeap sortingHeap_old kdl_hint_values)
/-! ### sorted(d.values()) -/
section
variable {P : Program} {w : World} {A : Around} {E : Value → Shared → Prop} {s : Shared} {v d : Addr} {es : Array DictEntry} {ep : Nat}
theorem collect_vals {Q : List Value → Shared → Prop} (hh : A.handled = none) (hv : s.heap.IsValuesView v d) (hm : s.heap.DictRaw d es ep) (hn : es.size ≤ sizeLine)
    (hQ : ∀ s', (∀ b o, s.heap.get? b = some o → s'.heap.get? b = some o) → s.heap.objs.size ≤ s'.heap.objs.size → s'.gens = s.gens → s'.os = s.os → Q (es.toList.map (·.val)) s') :
    wpAny (model P w) A (collect (.ref v)) Q E s := by
  have hvl : v < s.heap.objs.size := let ⟨_, e, _⟩ := hv; Heap.lt_size e
  have hdl : d < s.heap.objs.size := let ⟨_, e, _⟩ := hm; Heap.lt_size e
  have hSv : s.heap.objs.size ≠ v := Nat.ne_of_gt hvl
  have hSd : s.heap.objs.size ≠ d := Nat.ne_of_gt hdl
  unfold collect
  refine wpAny_bind (wpAny_runValue (codeAny_builtin F.entry_proto_collect ?_))
  rw [Around.under_plainId F.plain_proto_collect _]
  show wpAny _ A.in1 (newList [] >>= fun l => again (.builtin "list.__iadd__" ⟨[l, .ref v], []⟩)) _ _ s
  refine wpAny_bind (wpAny_newObj_type ?_)
  refine wpAny_pure ⟨plainId_quiet F.plain_list_iadd _, codeAny_builtin F.entry_list_iadd ?_⟩
  rw [Around.under_plainId F.plain_list_iadd _]
  have hS : (s.heap.push { cls := .type "list", data := .seq ([] : List Value).toArray }).get? s.heap.objs.size = some { cls := .type "list", data := .seq ([] : List Value).toArray } := Heap.get?_push_size _ rfl
  have kp1 : ∀ b o, s.heap.get? b = some o → (s.heap.push { cls := .type "list", data := .seq ([] : List Value).toArray }).get? b = some o := fun _ _ e => Heap.get?_push_of_some _ e
  have hv1 : (s.heap.push { cls := .type "list", data := .seq ([] : List Value).toArray }).IsValuesView v d := let ⟨o, e, r⟩ := hv; ⟨o, kp1 _ _ e, r⟩
  have hm1 : (s.heap.push { cls := .type "list", data := .seq ([] : List Value).toArray }).DictRaw d es ep := hm.at fun o e => kp1 _ _ e
  have hz1 : (s.heap.push { cls := .type "list", data := .seq ([] : List Value).toArray }).objs.size = s.heap.objs.size + 1 := size_push' _ _
  show wpAny _ A.in1 (Builtin.List.listExtendWith (.ref s.heap.objs.size) (.ref v) (.ref s.heap.objs.size)) _ _ _
  unfold Builtin.List.listExtendWith
  have hT1 : ({ s with heap := s.heap.push { cls := .type "list", data := .seq ([] : List Value).toArray } } : Shared).TypeIs (.ref v) "dict_values" := hv1.typeIs
  refine wpAny_bind (wpAny_typeOf (T := "dict_values") hT1 ?_)
  have h1 : Builtin.List.listSameRef (.ref s.heap.objs.size) (.ref v) = false := by simp [Builtin.List.listSameRef, hSv]
  have h2 : (Value.type "dict_values" == Value.type "list") = false := by decide
  have h3 : (Value.type "dict_values" == Value.type "tuple") = false := by decide
  simp only [h1, h2, h3, Bool.or_false, Bool.false_eq_true, if_false]
  refine wpAny_bind (wpAny_pyIter_values_raw (s := { s with heap := s.heap.push { cls := .type "list", data := .seq ([] : List Value).toArray } }) hv1 hm1 ?_)
  dsimp only
  rw [hz1]
  generalize hs2 : ((s.heap.push { cls := .type "list", data := .seq ([] : List Value).toArray }).push { cls := .type "dict_valueiterator", data := .fields #[.ref d, .int 0 0, .int es.size 0, .int ep 0] }) = h2'
  have kp2 : ∀ b o, (s.heap.push { cls := .type "list", data := .seq ([] : List Value).toArray }).get? b = some o → h2'.get? b = some o := fun _ _ e => by rw [← hs2]; exact Heap.get?_push_of_some _ e
  have hI2 : h2'.get? (s.heap.objs.size + 1) = some { cls := .type "dict_valueiterator", data := .fields #[.ref d, .int 0 0, .int es.size 0, .int ep 0] } := by
    rw [← hs2, ← hz1]
    exact Heap.get?_push_size _ rfl
  have hT2 : ({ s with heap := h2' } : Shared).TypeIs (.ref v) "dict_values" := let ⟨o, e, r, _⟩ := hv1; ⟨o, kp2 _ _ e, r⟩
  refine wpAny_bind (wpAny_holding ?_)
  refine kdl_hint_values hT2 ?_
  show wpAny _ A.in1 (rule "list.extend.makes-room" >>= fun _ => Builtin.List.listTouch (.ref s.heap.objs.size) >>= fun _ =>
    again (.builtin "list.extend.loop" ⟨[.ref s.heap.objs.size, .ref (s.heap.objs.size + 1), .ref s.heap.objs.size], []⟩)) _ _ _
  refine wpAny_bind (wpAny_rule ?_)
  have hS2 := kp2 _ _ hS
  refine wpAny_bind ?_
  show wpAny _ A.in1 (updateSeq s.heap.objs.size (·.push .none) >>= fun _ => updateSeq s.heap.objs.size (·.pop)) _ _ _
  refine wpAny_bind (wpAny_updateSeq hS2 rfl ?_)
  have hS3 := Heap.get?_update_self (Obj.mapSeq (·.push Value.none)) hS2 rfl
  refine wpAny_updateSeq hS3 rfl ?_
  have hS4 := Heap.get?_update_self (Obj.mapSeq (·.pop)) hS3 rfl
  have oth : ∀ b u, b ≠ s.heap.objs.size → h2'.get? b = some u → ((h2'.update s.heap.objs.size (Obj.mapSeq (·.push Value.none))).update s.heap.objs.size (Obj.mapSeq (·.pop))).get? b = some u :=
    fun b u hb e => (Heap.get?_update_other _ _ (Ne.symm hb)).trans ((Heap.get?_update_other _ _ (Ne.symm hb)).trans e)
  have hdI : d ≠ s.heap.objs.size + 1 := Nat.ne_of_lt (Nat.lt_succ_of_lt hdl)
  have W := Walks.rawValues (prog := P) (w := w) (A := A.in1) hh (s.heap.objs.size + 1) d hdI es ep
  have hSf : s.heap.objs.size ∉ [s.heap.objs.size + 1, d] := by
    simp only [List.mem_cons, List.not_mem_nil, or_false, not_or]
    exact ⟨Nat.ne_of_lt (Nat.lt_succ_self _), hSd⟩
  have hst2 : ((h2'.update s.heap.objs.size (Obj.mapSeq (·.push Value.none))).update s.heap.objs.size (Obj.mapSeq (·.pop))).IsValIter (s.heap.objs.size + 1) d 0 es.size ep ∧
      ((h2'.update s.heap.objs.size (Obj.mapSeq (·.push Value.none))).update s.heap.objs.size (Obj.mapSeq (·.pop))).DictRaw d es ep :=
    ⟨⟨_, oth _ _ (Nat.ne_of_gt (Nat.lt_succ_self _)) hI2, rfl, rfl⟩, hm1.at fun o e => oth _ _ (Ne.symm hSd) (kp2 _ _ e)⟩
  refine wpAny_pure ⟨plainId_quiet F.plain_extend_loop _, codeAny_extend_loopS W.toS hn _ hSf _ es.size 0 _ _ _ rfl (Nat.zero_le _) hst2 hS4 (ItemsOf.nil _) fun s' acc' c' hm' hS' hacc => ?_⟩
  show wpAny _ A (load s.heap.objs.size >>= _) _ _ s'
  refine wpAny_bind (wpAny_load hS' ?_)
  have eo : acc'.toList = es.toList.map (·.val) := by
    have hl : (es.toList.map (·.val)).length = es.size := by rw [List.length_map, Array.length_toList]
    refine items_out (Pv := fun i v => ∃ hi : i < es.size, v = es[i].val) (by rw [hl]; exact hacc) fun j u ⟨hj, e⟩ => ?_
    rw [List.getElem?_map, Array.getElem?_toList, Array.getElem?_eq_getElem hj, e]
    rfl
  refine wpAny_pure ?_
  show Q acc'.toList s'
  rw [eo]
  refine hQ s' (fun b u e => ?_) (Nat.le_of_lt (Heap.lt_size hS')) (Eq.trans hm'.gens rfl) (Eq.trans hm'.os rfl)
  have hbl : b < s.heap.objs.size := Heap.lt_size e
  refine hm'.heap b u (fun z => ?_) (oth b u (Nat.ne_of_lt hbl) (kp2 b u (kp1 b u e)))
  simp only [List.mem_cons, List.not_mem_nil, or_false] at z
  rcases z with z | z
  · exact absurd (z ▸ hbl) (Nat.lt_irrefl _)
  · exact absurd hbl (by rw [z]; exact Nat.not_lt_of_le (Nat.le_succ _))
/-- what is in order is sorted -/
theorem sortVals_id {κ : PyProof.Rows.KeyKind} {vs : List Value} (h : vs.Pairwise fun a b => κ.toKeyOrd.blt (PySem.W.keyD κ b) (PySem.W.keyD κ a) = false) : sortVals κ false vs vs = vs := by
  unfold sortVals
  have e : (vs.zip vs).mergeSort (sortLe κ.toKeyOrd false fun p : Keyed => PySem.W.keyD κ p.1) = vs.zip vs := by
    refine (sort_unique (sortLe_total _ _ _) ?_ fun _ => rfl).symm
    have z : ∀ l : List Value, l.zip l = l.map fun x => (x, x) := fun l => by induction l with | nil => rfl | cons a l ih => rw [List.zip_cons_cons, ih, List.map_cons]
    rw [z, List.pairwise_map]
    refine h.imp fun q => ?_
    unfold sortLe
    simp [q]
  rw [e, List.map_snd_zip]
  exact Nat.le_refl _
theorem sorted_view {ds : List PyData} {Q : Value → Shared → Prop} (hh : A.handled = none) (hv : s.heap.IsValuesView v d) (hm : s.heap.DictRaw d es ep) (hn : es.size ≤ sizeLine)
    (hr : ∀ h' : Heap, (∀ b o, s.heap.get? b = some o → h'.get? b = some o) → EachIs (fun v d => ∃ as, Reads h' v d as) (es.toList.map (·.val)) ds)
    (hal : AllAlike ds) (hk : Sortable ds) (hu : ∀ d, d ∈ ds → A.in1.in1.units + d.depth < cLine) (ho : ds.Pairwise fun x y => dataLt y x = false)
    (hQ : ∀ s' p (c : Nat), (∀ b o, s.heap.get? b = some o → s'.heap.get? b = some o) → s'.gens = s.gens → s'.os = s.os → s.heap.objs.size ≤ p →
      s'.heap.get? p = some (seqObj "list" (es.toList.map (·.val)).toArray c) → Q (.ref p) s') :
    wpAny (model P w) A (call (.builtin "sorted") [.ref v]) Q E s := by
  refine Calls.call_function_entry kind_sorted plain_sorted entry_sorted (args_sorted1 _) ?_
  unfold Builtin.«sorted»
  refine wpAny_bind (m := checkCount "sorted" 1 1 _) (wpAny_pure ?_)
  refine wpAny_bind (collect_vals (A := A.in1) hh hv hm hn fun s1 k1 hz g1 o1 => ?_)
  generalize hvs : es.toList.map (·.val) = vs at hr hQ ⊢
  have hvl : vs.length ≤ sizeLine := by rw [← hvs, List.length_map, Array.length_toList]; exact hn
  refine wpAny_bind (wpAny_newList ?_ hvl)
  have hoL : (s1.heap.push (seqObj "list" vs.toArray 0)).get? s1.heap.objs.size = some (seqObj "list" vs.toArray 0) := Heap.get?_push_size _ rfl
  have kS : ∀ b o, s.heap.get? b = some o → (sortingHeap (s1.heap.push (seqObj "list" vs.toArray 0)) s1.heap.objs.size vs).get? b = some o := fun b o e => by
    have q := k1 b o e
    exact sortingHeap_old (Nat.ne_of_lt (Heap.lt_size q)) (Heap.get?_push_of_some _ q)
  have R := hr _ kS
  have S : SortsAt P w A.in1.in1 { s1 with heap := sortingHeap (s1.heap.push (seqObj "list" vs.toArray 0)) s1.heap.objs.size vs } (dataKind (sortingHeap (s1.heap.push (seqObj "list" vs.toArray 0)) s1.heap.objs.size vs) ds) vs :=
    SortsAt.data (s := { s1 with heap := sortingHeap (s1.heap.push (seqObj "list" vs.toArray 0)) s1.heap.objs.size vs }) R hal hk hu
  refine wpAny_bind (wpAny_holding (wpAny_call_entry slot_list_sort ⟨_, hoL, rfl⟩ entry_list_sort (list_sort_vals (s := { s1 with heap := s1.heap.push (seqObj "list" vs.toArray 0) }) hoL S hvl ⟨_, rfl, ?_⟩) (args_list_sort _)))
  obtain ⟨c, hcc⟩ := sortedHeap_at (vs := vs) (out := (sortVals (dataKind (sortingHeap (s1.heap.push (seqObj "list" vs.toArray 0)) s1.heap.objs.size vs) ds) false vs vs).toArray) hoL
  have eid : sortVals (dataKind (sortingHeap (s1.heap.push (seqObj "list" vs.toArray 0)) s1.heap.objs.size vs) ds) false vs vs = vs := by
    refine sortVals_id ?_
    generalize sortingHeap (s1.heap.push (seqObj "list" vs.toArray 0)) s1.heap.objs.size vs = hS at R ⊢
    have key : ∀ (us : List Value) (cs : List PyData), EachIs (fun v d => ∃ as, Reads hS v d as) us cs → (∀ c, c ∈ cs → c ∈ ds) → cs.Pairwise (fun x y => dataLt y x = false) →
        us.Pairwise fun a b => (dataKind hS ds).toKeyOrd.blt (PySem.W.keyD (dataKind hS ds) b) (PySem.W.keyD (dataKind hS ds) a) = false := by
      intro us cs h
      induction h with
      | nil => intro _ _; exact List.Pairwise.nil
      | @cons u c0 us cs h1 h2 ih =>
        intro hm hp
        obtain ⟨hp1, hp2⟩ := List.pairwise_cons.mp hp
        refine List.pairwise_cons.mpr ⟨fun b hb => ?_, ih (fun c hc => hm c (List.mem_cons_of_mem _ hc)) hp2⟩
        obtain ⟨c1, hc1, as1, r1⟩ := h2.left b hb
        obtain ⟨as0, r0⟩ := h1
        rw [PySem.W.keyD_some (dataKind_some hal (hm _ List.mem_cons_self) r0), PySem.W.keyD_some (dataKind_some hal (hm _ (List.mem_cons_of_mem _ hc1)) r1)]
        exact hp1 c1 hc1
    exact key vs ds R (fun _ h => h) ho
  rw [eid] at hcc ⊢
  refine wpAny_pure ⟨_, rfl, hQ _ s1.heap.objs.size c (fun b u e => ?_) g1 o1 hz hcc⟩
  have q := k1 b u e
  have hlt := Heap.lt_size q
  show (sortedHeap (s1.heap.push (seqObj "list" vs.toArray 0)) s1.heap.objs.size vs _).get? b = some u
  rw [sortedHeap_old (Nat.ne_of_lt hlt) (by rw [size_push']; exact Nat.lt_succ_of_lt hlt)]
  exact Heap.get?_push_of_some _ q
end
/-! ### as readings -/
def ViewO (v d : Addr) : HO := .ext fun h => h.IsValuesView v d
section
variable {X : Cx} {c : DC} {o : Expr} {td : DTE} {apos cpos pos p : Pos} {x : Str}
def tVals (td : TE) : TE := fun σ H Q => td σ H fun x H1 => ∃ d, x = .ref d ∧ IsD H1 d ∧ ∀ v, H1 v = none → Q (.ref v) (upd H1 v (ViewO v d))
theorem dict_raw {pins : List (Addr × Obj)} {σ : L2.St} {H : Hp} {s : Shared} {d : Addr} (I : Inv X pins σ H s) (h : IsD H d) : (∃ es ep, s.heap.DictRaw d es ep) ∧ (d == sysModules) = false := by
  rcases h with ⟨kvs, e⟩ | ⟨kvs, e⟩
  · obtain ⟨_, hd, vs, _, dd⟩ := dk_rd I.hok e
    obtain ⟨es, ep, r, _⟩ := dd.raw
    exact ⟨⟨es, ep, r⟩, hd⟩
  · obtain ⟨_, hd, xs, _, dd⟩ := dt_rd I.hok e
    obtain ⟨es, ep, r, _⟩ := dd.raw
    exact ⟨⟨es, ep, r⟩, hd⟩
theorem pe_vals {td : TE} (he : PE X o td) (hbase : attributeBase o "values" X.env (eval o X.env) = eval o X.env := by rfl) (hline : (apos.endLine == cpos.line) = true := by rfl) : PE X (.Call (.Attribute o "values" apos) [] [] cpos) (tVals td) := by
  refine ⟨fun pins s σ H Q I h => ?_⟩
  refine wpAny_Call_method (T := "dict") (id := "dict.values") hbase rfl hline F.plainAttrs_dict F.slot_dict_values F.type_dict_values (thn (he.run pins s σ H _ I h) fun u s1 ⟨x, H1, I1, rx, d, ex, hd, q⟩ => ?_)
  subst ex
  obtain rfl : u = Value.ref d := rx
  obtain ⟨⟨es, ep, raw⟩, hs⟩ := dict_raw I1 hd
  obtain ⟨t1, t2, _⟩ := isD_at I1 hd
  refine ⟨t1, t2, ?_⟩
  refine method_meetsIn F.slot_dict_values F.entry_dict_values rfl (PySem.evalArgs_none ⟨rfl, t1, F.args_dict_values_1 _, _, meets_dict_values_raw d hs, ⟨es, ep, raw⟩, ?_⟩)
  have hn : H1 s1.heap.objs.size = none := I1.hok.fresh (Nat.le_refl _)
  refine ⟨.ref s1.heap.objs.size, _, I1.laid (a := s1.heap.objs.size) (o := ViewO s1.heap.objs.size d) (t' := s1.toks) (fun _ _ q => Heap.get?_push_of_some _ q) (Nat.le_refl _) ⟨⟨_, Heap.get?_push_size _ rfl, rfl, rfl⟩, ⟨_, Heap.get?_push_size _ rfl⟩, fun h1 h2 ⟨o, e, r⟩ k => ⟨o, k _ e, r⟩⟩, rfl, q _ hn⟩
def rSrtV (K : Fg) : List V → Hp → VK → Prop := fun vs H Q => ∃ v d kvs ds, vs = [.ref v] ∧ H v = some (ViewO v d) ∧ H d = some (.dT kvs) ∧ DpAll K H (kvs.map (·.2)) ds ∧ AllAlike ds ∧ Sortable ds ∧ (∀ d, d ∈ ds → d.depth ≤ 60) ∧
  (ds.Pairwise fun x y => dataLt y x = false) ∧ ∀ p, H p = none → Q (.ref p) (upd H p (.lst (kvs.map (·.2))))
theorem eachIs_reads {h : Heap} : ∀ {us : List Value} {ds : List PyData} {as : List Addr}, ReadsAll h us ds as → EachIs (fun v d => ∃ as, Reads h v d as) us ds
  | _, _, _, .nil => .nil
  | _, _, _, .cons h t => .cons ⟨_, h⟩ (eachIs_reads t)
theorem paired_get {α β : Type} {R : α → β → Prop} : ∀ {l : List α} {m : List β} {j : Nat} {a : α} {b : β}, Paired R l m → l[j]? = some a → m[j]? = some b → R a b
  | _, _, j, a, b, .nil, h, _ => by simp at h
  | _, _, 0, a, b, .cons r _, h1, h2 => by
    simp only [List.getElem?_cons_zero, Option.some.injEq] at h1 h2
    subst h1; subst h2; exact r
  | _, _, j + 1, a, b, .cons _ t, h1, h2 => by
    simp only [List.getElem?_cons_succ] at h1 h2
    exact paired_get t h1 h2
theorem cr_srtV {k : Nat} (hc : X.calm = true) (hr : Room k X.A) : CallR X (.builtin "sorted") (rSrtV X.K) := by
  intro pins s σ H vs us Q I r h
  obtain ⟨v, d, kvs, ds, rfl, hv, hd, dp, hal, hk, hdep, ho, q⟩ := h
  rw [Vals.ref1 r]
  have V1 : s.heap.IsValuesView v d := (I.hok v _ hv).1
  obtain ⟨z, hdm, xs, rel, dd⟩ := dt_of I.hok hd
  obtain ⟨es, ep, raw, hsz, hx⟩ := dd.raw
  have hlen : kvs.length = xs.length := Paired.length rel
  have vals : Vals (kvs.map (·.2)) (es.toList.map (·.val)) := by
    refine vals_of_at (by simp only [List.length_map]; exact hlen.trans (hsz.symm.trans (Array.length_toList (xs := es)).symm)) fun j a u h1 h2 => ?_
    rw [List.getElem?_map] at h1 h2
    rw [Array.getElem?_toList] at h2
    by_cases hj : j < es.size
    · rw [Array.getElem?_eq_getElem hj] at h2
      cases h2
      obtain ⟨y, hy, _, hval, _⟩ := hx j hj
      cases e : kvs[j]? with
      | none => rw [e] at h1; cases h1
      | some kv =>
        rw [e] at h1
        cases h1
        have q2 := paired_get rel e hy
        show L2.RelV kv.2 es[j].val
        rw [hval]
        exact q2.2.2
    · rw [Array.getElem?_eq_none (by omega)] at h2; cases h2
  refine sorted_view (ds := ds) (I.ok.hd hc) V1 raw (by rw [hsz, ← hlen]; exact z) (fun h' k => ?_) hal hk (fun d0 hd0 => ?_) ho fun s' p c k g o hp e => ?_
  · have I' : Inv X pins σ H { s with heap := h', toks := s.toks } := I.kept (t' := s.toks) k
    obtain ⟨as, rr⟩ := Dp.readsAll I' ds _ _ dp vals
    exact eachIs_reads rr
  · have := hdep d0 hd0
    have := hr.un
    show X.A.units + 1 + 1 + _ < _
    omega
  · have hn : H p = none := I.hok.fresh hp
    have hl : (kvs.map (·.2)).length ≤ sizeLine := by rw [List.length_map]; exact z
    have J : Inv X pins σ (upd H p (.lst (kvs.map (·.2)))) { s with heap := s'.heap, gens := s'.gens, drawn := s'.drawn, toks := s'.toks } :=
      I.call (ch := []) (Un.laid k hp hn) (I.hok.laid k hp ⟨hl, _, c, vals, e⟩) (by rw [g]; exact I.bare) (fun _ z => nomatch z)
    have es' : s' = { s with heap := s'.heap, gens := s'.gens, drawn := s'.drawn, toks := s'.toks } := by
      obtain ⟨_, _, _, _, _⟩ := s'
      obtain ⟨_, _, _, _, _⟩ := s
      have o' := o
      dsimp only at o' ⊢
      rw [o']
    rw [es']
    exact ⟨.ref p, _, J, rfl, q p hn⟩
def dSrtVals (td : DTE) : DTE := fun ds M P => td ds M fun x M1 => match x with
  | .ref a => (match M1 a with
    | some (.dT kvs) => (∀ y ∈ kvs.map (·.2), dkn 60 y = true) ∧ AllAlike (pyL (kvs.map (·.2))) ∧ Sortable (pyL (kvs.map (·.2))) ∧ ((pyL (kvs.map (·.2))).Pairwise fun x y => dataLt y x = false) ∧ P (.lst (kvs.map (·.2))) M1
    | _ => False)
  | _ => False
theorem d_srtVals {k : Nat} (hc : X.calm = true) (hr : Room k X.A) (ho : DE X c o td) (hg : Gl X x) (hm : X.mg x = none) (hv : bootBuiltins x = some (.builtin "sorted"))
    (hbase : attributeBase o "values" X.env (eval o X.env) = eval o X.env := by rfl) (hline : (apos.endLine == cpos.line) = true := by rfl)
    (hn : x ≠ "__name__" := by decide) (hdb : (x == ("__debug__" : Str)) = false := by decide)
    (na : starEach [Expr.Call (.Attribute o "values" apos) [] [] cpos] X.env = (false, eval (.Call (.Attribute o "values" apos) [] [] cpos) X.env) :: starEach [] X.env := by rfl) :
    DE X c (.Call (.Name x p) [.Call (.Attribute o "values" apos) [] [] cpos] [] pos) (dSrtVals td) :=
  (pe_callB (cr_srtV hc hr) hg hm hv (pa_cons (pe_vals ho hbase hline) pa_nil na) hn hdb na (by rfl)).imp fun σ H Q ⟨ds, M, F, P, at', ht, fin⟩ => by
    refine ⟨ds, M, F, _, at', ht, fun x M1 v H1 q dj ev mo rp => ?_⟩
    split at q
    · rename_i a
      split at q
      · rename_i kvs hM
        cases rp
        obtain ⟨vs, e1, rr⟩ := mo a _ (mj_l hM)
        refine ⟨a, rfl, .inr ⟨_, .inl e1⟩, fun w hw => ?_⟩
        have ha : a ≠ w := fun z => by subst z; rw [e1] at hw; cases hw
        have evN : Ev M1 H1 M1 (upd H1 w (ViewO w a)) := Ev.new hw
        have rv : RpL X.K (mj M1 F) (upd H1 w (ViewO w a)) (vs.map (·.2)) (kvs.map (·.2)) := RpL.ev evN _ (kvR_vals rr)
        show rSrtV X.K [.ref w] _ Q
        refine ⟨w, a, vs, pyL (kvs.map (·.2)), rfl, upd_same, by rw [upd_ne ha]; exact e1, dpAll_of (fun y hy u ru => dkn_dp 60 y (q.1 y hy) ru) rv, q.2.1, q.2.2.1, fun d0 hd0 => ?_, q.2.2.2.1, ?_⟩
        · rw [pyL_map] at hd0
          obtain ⟨y, hy, rfl⟩ := List.mem_map.mp hd0
          exact (dkn_fit 60 y (q.1 y hy)).2
        · exact fin_lst (fin.ev (ev.trans evN)) dj (mo.new hw) rv q.2.2.2.2
      · exact q.elim
    · exact q.elim
end
end DL

set_option Elab.async false
set_option linter.all false
set_option maxRecDepth 100000
set_option maxHeartbeats 4000000
namespace DL
open PySem PySem.Spec PyProof.Rows L2
open PySem.W (EachIs AlikeAll minD dataLt alike alike_unique min_list_data)
/-! ### xs.count(y) -/
def rCntD (K : Fg) : V → List V → Hp → VK → Prop := fun x xs H Q => ∃ (p : Addr) (vs : List V) (y : V) (ds : List PyData) (d : PyData), x = .ref p ∧ xs = [y] ∧ SqL K H p vs ∧ DpAll K H vs ds ∧ Dp K H y d ∧ PyData.plainAll ds = true ∧ d.plain = true ∧ d.depth ≤ 60 ∧ Q (.int ((ds.countP fun z => PyData.eqv z d : Nat) : Int)) H
theorem mt_countD {X : Cx} {k : Nat} (hr : Room k X.A) : MtR X "list.count" (rCntD X.K) := by
  intro pins s σ H x xs v us Q I rx rxs h
  obtain ⟨p, vs, y, ds, d, rfl, rfl, hs, da, dy, p1, p2, hd, q⟩ := h
  cases rx
  obtain ⟨u, rfl, ru⟩ := rxs.one
  obtain ⟨its, rv, hl, hlen⟩ := I.list hs
  obtain ⟨as, rs⟩ := Dp.readsAll I ds vs its da rv
  obtain ⟨bs, rx⟩ := Dp.reads I d y u dy ru
  have hun := hr.un
  have hm : min (PyData.depthAll ds) d.depth ≤ 60 := Nat.le_trans (Nat.min_le_right _ _) hd
  refine SeqAt.count_list_data hl.isList (by simpa using rs) rx p1 p2 (by omega) ?_
  exact ⟨.int ((ds.countP fun z => PyData.eqv z d : Nat) : Int), H, I.tok _, ⟨s.toks, rfl⟩, q⟩
def dCount (to te : DTE) : DTE := fun ds M P => to ds M fun x M1 => match x with
  | .lst xs => te ds M1 fun y M2 => ((∀ z ∈ xs, dkn 60 z = true) ∧ dkn 60 y = true ∧ PyData.plainAll (pyL xs) = true ∧ (py y).plain = true) ∧ P (.int ((xs.countP fun z => dq z y : Nat) : Int)) M2
  | _ => False
theorem countP_py (y : D) : ∀ xs : List D, (pyL xs).countP (fun z => PyData.eqv z (py y)) = xs.countP fun z => dq z y
  | [] => rfl
  | x :: r => by rw [pyL, List.countP_cons, List.countP_cons, countP_py y r]
section
variable {X : Cx} {c : DC} {o e : Expr} {to te : DTE} {apos cpos : Pos}
theorem d_count {k : Nat} (hr : Room k X.A) (ho : DE X c o to) (he : DE X c e te)
    (hbase : attributeBase o "count" X.env (eval o X.env) = eval o X.env := by rfl)
    (hfew : ((backTo cpos (starEach [e] X.env)).all (fun x => !x.1) && (backToKw cpos (keywordEach [] X.env)).all (fun x => x.1.isSome)
      && decide (([e] : List Expr).length + ([] : List Keyword).length + (if ([] : List Keyword).isEmpty then 0 else 1) < 30)) = true := by rfl)
    (hline : (apos.endLine == cpos.line) = true := by rfl) (hs : starEach [e] X.env = (false, eval e X.env) :: starEach [] X.env := by rfl) :
    DE X c (.Call (.Attribute o "count" apos) [e] [] cpos) (dCount to te) := by
  refine (pe_bm F.plainAttrs_list F.slot_list_count F.type_list_count (mt_countD hr) ho (pa_cons he pa_nil hs) hbase hfew hline hs (by rfl)).imp fun σ H Q ⟨ds, M, F, P, at', ht, fin⟩ => ?_
  refine ⟨ds, M, F, _, at', ht, fun x M1 v H1 q dj ev mo rp => ?_⟩
  cases x with
  | lst xs =>
    cases rp with
    | lst hL hn hl =>
      refine ⟨.inl ⟨rfl, _, .inl (.of hL)⟩, ds, M1, F, _, at'.go dj ev mo, q, fun y M2 w H2 q2 dj2 ev2 mo2 rp2 => ?_⟩
      have r2 : Rp X.K (mj M2 F) H2 (.ref _) (.lst xs) := Rp.ev ev2 (.lst xs) (.lst hL hn hl)
      cases r2 with
      | lst hL2 hn2 hl2 =>
        obtain ⟨⟨k1, k2, k3, k4⟩, q2⟩ := q2
        refine ⟨_, _, w, pyL xs, py y, rfl, rfl, .of hL2, dpAll_of (fun z hz u ru => dkn_dp 60 z (k1 z hz) ru) hl2, dkn_dp 60 y k2 rp2, k3, k4, (dkn_fit 60 y k2).2, ?_⟩
        rw [countP_py]
        exact (fin.ev (ev.trans ev2)).val dj2 mo2 q2 (.int _)
  | _ => exact q.elim
end
/-! ### min of data -/
theorem py_inj : ∀ (n : Nat) (x y : D), dkn n x = true → dkn n y = true → py x = py y → x = y := by
  intro n
  induction n with
  | zero =>
    intro x y hx hy e
    cases x <;> cases y <;> simp_all [dkn, py]
  | succ n ih =>
    intro x y hx hy e
    have go : ∀ (a b : List D), (∀ z ∈ a, dkn n z = true) → (∀ z ∈ b, dkn n z = true) → pyL a = pyL b → a = b := by
      intro a
      induction a with
      | nil => intro b _ _ e; cases b with
        | nil => rfl
        | cons _ _ => simp [pyL] at e
      | cons p a iha =>
        intro b ha hb e
        cases b with
        | nil => simp [pyL] at e
        | cons q b =>
          simp only [pyL, List.cons.injEq] at e
          rw [ih p q (ha p List.mem_cons_self) (hb q List.mem_cons_self) e.1, iha b (fun z h => ha z (List.mem_cons_of_mem _ h)) (fun z h => hb z (List.mem_cons_of_mem _ h)) e.2]
    cases x <;> cases y <;> simp only [py, PyData.tuple.injEq, PyData.list.injEq, reduceCtorEq] at e <;> simp_all [dkn]
    · exact go _ _ hx hy e
    · exact go _ _ hx hy e
theorem minD_mem : ∀ (l : List PyData) (x : PyData), minD x l ∈ x :: l
  | [], x => by simp [minD]
  | y :: l, x => by
    have e : minD x (y :: l) = minD (if dataLt y x then y else x) l := rfl
    rw [e]
    have := minD_mem l (if dataLt y x then y else x)
    rcases List.mem_cons.mp this with h | h
    · rw [h]; split <;> simp
    · exact List.mem_cons_of_mem _ (List.mem_cons_of_mem _ h)
def leastD (x : D) (l : List D) : D := l.foldl (fun a y => if dataLt (py y) (py a) then y else a) x
theorem leastD_py : ∀ (l : List D) (x : D), py (leastD x l) = minD (py x) (pyL l)
  | [], x => rfl
  | y :: l, x => by
    have e : leastD x (y :: l) = leastD (if dataLt (py y) (py x) then y else x) l := rfl
    have e2 : minD (py x) (pyL (y :: l)) = minD (if dataLt (py y) (py x) then py y else py x) (pyL l) := rfl
    rw [e, e2, leastD_py l]
    split <;> rfl
theorem leastD_mem : ∀ (l : List D) (x : D), leastD x l ∈ x :: l
  | [], x => by simp [leastD]
  | y :: l, x => by
    have e : leastD x (y :: l) = leastD (if dataLt (py y) (py x) then y else x) l := rfl
    rw [e]
    have := leastD_mem l (if dataLt (py y) (py x) then y else x)
    rcases List.mem_cons.mp this with h | h
    · rw [h]; split <;> simp
    · exact List.mem_cons_of_mem _ (List.mem_cons_of_mem _ h)
def rMinD (K : Fg) : List V → Hp → VK → Prop := fun vs H Q => ∃ a xs d0 ds, vs = [V.ref a] ∧ SqL K H a xs ∧ DpAll K H xs (d0 :: ds) ∧ AlikeAll (d0 :: ds) ∧ (∀ d, d ∈ d0 :: ds → d.depth ≤ 60) ∧ ∀ (i : Nat) v, xs[i]? = some v → (d0 :: ds)[i]? = some (minD d0 ds) → Q v H
theorem depthAll_le {n : Nat} : ∀ {l : List PyData}, (∀ d, d ∈ l → d.depth ≤ n) → PyData.depthAll l ≤ n
  | [], _ => by simp [PyData.depthAll]
  | d :: l, h => by
    have h1 := h d List.mem_cons_self
    have h2 := depthAll_le fun e he => h e (List.mem_cons_of_mem _ he)
    simp only [PyData.depthAll]
    omega
theorem dpAll_get {K : Fg} {H : Hp} : ∀ {vs : List V} {ds : List PyData} {i : Nat} {v : V}, DpAll K H vs ds → vs[i]? = some v → ∃ d, ds[i]? = some d ∧ Dp K H v d
  | [], [], i, v, .nil, e => by simp at e
  | _ :: _, d :: _, 0, v, .cons h1 _, e => by
    simp only [List.getElem?_cons_zero, Option.some.injEq] at e
    subst e
    exact ⟨d, rfl, h1⟩
  | _ :: _, _ :: _, i + 1, v, .cons _ h2, e => by
    simp only [List.getElem?_cons_succ] at e ⊢
    exact dpAll_get h2 e
theorem vals_getV {vs : List V} {us : List Value} (h : Vals vs us) {i : Nat} {u : Value} (e : us[i]? = some u) : ∃ v, vs[i]? = some v ∧ RelV v u := by
  have hl : i < vs.length := by
    have := (List.getElem?_eq_some_iff.mp e).1
    rw [h.length]; exact this
  refine ⟨vs[i], List.getElem?_eq_getElem hl, ?_⟩
  obtain ⟨u', e', r⟩ := h.get (List.getElem?_eq_getElem hl)
  rw [e] at e'
  cases e'
  exact r
theorem cr_minD {X : Cx} {k : Nat} (hc : X.calm = true) (hr : Room k X.A) : CallR X (.builtin "min") (rMinD X.K) := by
  intro pins s σ H vs us Q I r h
  obtain ⟨a, xs, d0, ds, rfl, hs, da, al, hd, q⟩ := h
  obtain ⟨its, rv, hl, _⟩ := I.list hs
  rw [Vals.ref1 r]
  obtain ⟨as, rs⟩ := Dp.readsAll I (d0 :: ds) xs its da rv
  have hun := hr.un
  have hdd : PyData.depthAll (d0 :: ds) ≤ 60 := depthAll_le hd
  refine min_list_data (I.ok.hd hc) hl.isList (by simpa using rs) al (by omega) fun i u h' tk bs e1 rd kp => ?_
  have e1' : its[i]? = some u := by simpa using e1
  obtain ⟨v, hv, ru⟩ := vals_getV rv e1'
  obtain ⟨d, hdi, dv⟩ := dpAll_get da hv
  have I' : Inv X pins σ H { s with heap := h', toks := tk } := I.kept (t' := tk) kp
  obtain ⟨cs, rd2⟩ := Dp.reads I' d v u dv ru
  have hmem : d ∈ d0 :: ds := List.mem_of_getElem? hdi
  have e : d = minD d0 ds := alike_unique _ _ _ _ _ (al.1 d hmem _ (minD_mem ds d0)) rd2 rd
  exact ⟨v, H, I', ru, q i v hv (by rw [hdi, e])⟩
def gMinD : DOL := fun xs M P => match xs with
  | [.lst (y :: ys)] => ((∀ z ∈ y :: ys, dkn 60 z = true) ∧ AlikeAll (pyL (y :: ys))) ∧ P (leastD y ys) M
  | _ => False
theorem pyL_get : ∀ {l : List D} {i : Nat} {d : PyData}, (pyL l)[i]? = some d → ∃ y, l[i]? = some y ∧ py y = d
  | l, i, d, h => by
    rw [pyL_map, List.getElem?_map] at h
    cases e : l[i]? with
    | none => rw [e] at h; cases h
    | some y => rw [e] at h; cases h; exact ⟨y, rfl, rfl⟩
theorem ol_minD {K : Fg} : OpL K (rMinD K) gMinD := fun M F xs vs H P Q q dj mo rs fin => by
  unfold gMinD at q
  split at q
  · rename_i y ys
    match vs, rs with
    | [_], .cons (.lst hs hn hl) .nil =>
      obtain ⟨⟨k1, al⟩, q⟩ := q
      refine ⟨_, _, py y, pyL ys, rfl, .of hs, dpAll_of (xs := y :: ys) (fun z hz u ru => dkn_dp 60 z (k1 z hz) ru) hl, al, fun d hd => ?_, fun i v hv he => ?_⟩
      · have hd' : d ∈ pyL (y :: ys) := hd
        rw [pyL_map] at hd'
        obtain ⟨z, hz, rfl⟩ := List.mem_map.mp hd'
        exact (dkn_fit 60 z (k1 z hz)).2
      · obtain ⟨z, hz, ez⟩ := pyL_get (l := y :: ys) he
        obtain ⟨u, hu, ru⟩ := hl.get hz
        rw [hv] at hu
        cases hu
        have : z = leastD y ys := py_inj 60 z _ (k1 z (List.mem_of_getElem? hz)) (k1 _ (leastD_mem ys y)) (by rw [ez, leastD_py])
        rw [← this] at q
        exact fin.val dj mo q ru
  · exact q.elim
end DL

set_option Elab.async false
set_option linter.all false
set_option maxRecDepth 100000
set_option maxHeartbeats 4000000
namespace DL
open PySem PySem.Spec PyProof.Rows L2
/-! ### x[::-1] -/
section
variable {prog : Program} {w : World} {A : Around} {E : Value → Shared → Prop} {s : Shared}
theorem adjust_rev (n : Nat) : Builtin.Slice.sliceAdjust none none (-1) (n : Int) = ((n : Int) - 1, -1) := by
  unfold Builtin.Slice.sliceAdjust
  simp
theorem places_rev (n : Nat) : Builtin.Slice.slicePlaces ((n : Int) - 1) (-1) (-1) = n := by
  unfold Builtin.Slice.slicePlaces
  simp
  try omega
theorem sliceApplied_rev {sl : Addr} {vl vu vs : Value} {n : Nat} {Q : Int × Int × Nat → Shared → Prop} (hs : s.heap.IsSliceOf sl vl vu vs) (pl : IsPart vl none) (pu : IsPart vu none) (ps : IsPart vs (some (-1)))
    (h : Q ((n : Int) - 1, -1, n) s) : wpAny (model prog w) A (Builtin.Slice.sliceApplied (.ref sl) (pure (n : Int))) Q E s := by
  obtain ⟨os, hos, hcs, hds⟩ := id hs
  unfold Builtin.Slice.sliceApplied Builtin.Slice.sliceFields
  refine wpAny_bind (wpAny_bind (wpAny_field hos hds (x := vl) rfl (wpAny_bind (wpAny_field hos hds (x := vu) rfl (wpAny_bind (wpAny_field hos hds (x := vs) rfl (wpAny_pure ?_)))))))
  refine wpAny_bind (HT.slicePart_ ps ?_)
  show wpAny _ _ (if ((-1 : Int) == 0) = true then _ else _) _ _ s
  rw [if_neg (by decide)]
  refine wpAny_bind (HT.slicePart_ pl (wpAny_bind (HT.slicePart_ pu (wpAny_bind (wpAny_pure ?_)))))
  show wpAny _ _ (match Builtin.Slice.sliceAdjust none none (-1) (n : Int) with | (lo, hi) => pure (lo, (-1 : Int), Builtin.Slice.slicePlaces lo hi (-1))) _ _ s
  rw [adjust_rev n]
  show wpAny _ _ (pure ((n : Int) - 1, (-1 : Int), Builtin.Slice.slicePlaces ((n : Int) - 1) (-1) (-1))) _ _ s
  rw [places_rev]
  exact wpAny_pure h
theorem pick_rev (xs : Array Value) : ((List.range xs.size).filterMap fun (m : Nat) => xs[(((xs.size : Int) - 1) + (m : Int) * (-1)).toNat]?).toArray = xs.toList.reverse.toArray := by
  congr 1
  have h1 : (List.range xs.size).filterMap (fun (m : Nat) => xs[(((xs.size : Int) - 1) + (m : Int) * (-1)).toNat]?) = (List.range xs.size).map fun m => xs.getD (xs.size - 1 - m) .none := by
    have go : ∀ l : List Nat, (∀ m ∈ l, m < xs.size) → l.filterMap (fun (m : Nat) => xs[(((xs.size : Int) - 1) + (m : Int) * (-1)).toNat]?) = l.map fun m => xs.getD (xs.size - 1 - m) .none := by
      intro l
      induction l with
      | nil => intro _; rfl
      | cons m l ih =>
        intro h
        have hm := h m List.mem_cons_self
        have e1 : (((xs.size : Int) - 1) + (m : Int) * (-1)).toNat = xs.size - 1 - m := by omega
        have e2 : xs[xs.size - 1 - m]? = some (xs.getD (xs.size - 1 - m) .none) := by
          rw [Array.getElem?_eq_getElem (by omega), Array.getD_eq_getD_getElem?, Array.getElem?_eq_getElem (by omega)]; rfl
        rw [List.filterMap_cons, e1, e2, List.map_cons]
        dsimp only
        rw [ih fun k hk => h k (List.mem_cons_of_mem _ hk)]
    exact go _ fun m hm => List.mem_range.mp hm
  rw [h1]
  apply List.ext_getElem
  · simp
  · intro i h1 h2
    simp only [List.length_map, List.length_range] at h1
    rw [List.getElem_map, List.getElem_range, List.getElem_reverse, Array.getElem_toList, Array.getD_eq_getD_getElem?, Array.getElem?_eq_getElem (by omega)]
    simp
theorem getItem_tuple_rev {t sl : Addr} {items : Array Value} {vl vu vs : Value} {Q : Value → Shared → Prop} (ht : IsTup s.heap t items) (hs : s.heap.IsSliceOf sl vl vu vs) (pl : IsPart vl none) (pu : IsPart vu none) (ps : IsPart vs (some (-1)))
    (h : Q (.ref s.heap.objs.size) { s with heap := s.heap.push { cls := .type "tuple", data := .seq items.toList.reverse.toArray } })
    (hsz : items.size ≤ sizeLine) : wpAny (model prog w) A (getItem (.ref t) (.ref sl)) Q E s := by
  have htake : sizeOk (.seq items.toList.reverse.toArray) := by
    show items.toList.reverse.toArray.size ≤ sizeLine
    rw [List.size_toArray, List.length_reverse, Array.length_toList]
    exact hsz
  obtain ⟨os, hos, hcs, hds⟩ := id hs
  have hTs : s.TypeIs (.ref sl) "slice" := ⟨os, hos, hcs⟩
  unfold getItem
  try with_reducible refine wpAny_holding ?_
  first | refine wpAny_bind (wpAny_pure ?_) | skip
  refine wpAny_bind (wpAny_sequenceKey ht.typeIs (by decide) ?_)
  refine wpAny_bind (wpAny_callSpecial?_slot (name := Str.ofString "__getitem__") ht.typeIs PyProof.Rows.slot_tuple_getitem
    (wpAny_call_entry PyProof.Rows.slot_tuple_getitem ht.typeIs entry_tuple_getitem ?_ (args_tuple_getitem _ _)))
  show wpAny _ _ (Builtin.Tuple.tupleItemsOf (.ref t) >>= _) _ _ s
  refine wpAny_bind (tupleItemsOf_ ht ?_)
  refine wpAny_bind (wpAny_typeOf hTs ?_)
  rw [if_pos (by decide)]
  refine wpAny_bind (sliceApplied_rev hs pl pu ps ?_)
  have hno : ¬ ((((items.size : Int) - 1) == 0 && (-1 : Int) == 1 && items.size == items.size) = true) := by
    have : ((-1 : Int) == 1) = false := by decide
    rw [this, Bool.and_false, Bool.false_and]
    decide
  show wpAny _ _ (if (((items.size : Int) - 1) == 0 && (-1 : Int) == 1 && items.size == items.size) = true then _ else _) _ _ s
  rw [if_neg hno, pick_rev]
  first
    | exact wpAny_bind (m := Builtin.Tuple.tupleExact _) (wpAny_newObj_type (wpAny_pure ⟨_, rfl, wpAny_pure h⟩) htake)
    | exact wpAny_bind (m := Builtin.Tuple.tupleExact _) (wpAny_newObj_type (wpAny_bind (wpAny_pure (wpAny_pure ⟨_, rfl, wpAny_pure h⟩))) htake)
    | exact wpAny_bind (wpAny_bind (m := Builtin.Tuple.tupleExact _) (wpAny_newObj_type (wpAny_pure (wpAny_pure ⟨_, rfl, wpAny_pure h⟩)) htake))
    | exact wpAny_bind (wpAny_bind (m := Builtin.Tuple.tupleExact _) (wpAny_newObj_type (wpAny_pure ⟨_, rfl, wpAny_pure h⟩) htake))
end
def tRevA (K : Fg) (te : TE) : TE := fun σ H Q => te σ H fun x H1 => ∃ a xs, x = .ref a ∧ ((SqL K H1 a xs ∧ ∀ p, H1 p = none → Q (.ref p) (upd H1 p (.lst xs.reverse))) ∨ (SqT K H1 a xs ∧ ∀ p, H1 p = none → Q (.ref p) (upd H1 p (.tup xs.reverse))))
theorem pe_revA {X : Cx} {e : Expr} {te : TE} {k : Nat} {p1 p2 p3 pos : Pos} (he : PE X e te) : PE X (.Subscript e (.Slice none none (some (.UnaryOp .USub (.Constant (.int 1) k p1) p2)) p3) pos) (tRevA X.K te) := by
  refine ⟨fun pins s σ H Q I h => ?_⟩
  refine Subscript_ (thn (he.run pins s σ H _ I h) fun v s1 ⟨x, H1, I1, r1, q1⟩ => ?_)
  obtain ⟨a, xs, ex, q⟩ := q1
  subst ex
  cases r1
  have hst : PO X (some (.UnaryOp .USub (.Constant (.int 1) k p1) p2)) (tPart (tUn (rU fun i => .int (-i)) (tC (.int 1)))) := po_some (pe_un un_neg pe_int)
  refine wpAny_Slice (thn (po_none.run pins s1 σ H1 (fun o H2 => o = none ∧ H2 = H1) I1 ⟨rfl, rfl⟩) fun vl s2 ⟨l, H2, I2, pl, el, e2⟩ => ?_)
  subst el e2
  refine thn (po_none.run pins s2 σ H2 (fun o H3 => o = none ∧ H3 = H2) I2 ⟨rfl, rfl⟩) fun vu s3 ⟨u, H3, I3, pu, eu, e3⟩ => ?_
  subst eu e3
  refine thn (hst.run pins s3 σ H3 (fun o H4 => o = some (-1) ∧ H4 = H3) I3 ⟨1, rfl, -1, rfl, rfl, rfl⟩) fun vs s4 ⟨o, H4, I4, ps, eo, e4⟩ => ?_
  subst eo e4
  have I5 : Inv X pins σ H4 { s4 with heap := s4.heap.push { cls := .type "slice", data := .fields #[vl, vu, vs] } } := I4.kept (t' := s4.toks) fun b ob q => Heap.get?_push_of_some _ q
  show wpAny (model X.prog X.w) X.A (subscriptTail e (.Slice none none (some (.UnaryOp .USub (.Constant (.int 1) k p1) p2)) p3) (.ref a) (.ref s4.heap.objs.size)) (EP X pins σ Q) X.xe { s4 with heap := s4.heap.push { cls := .type "slice", data := .fields #[vl, vu, vs] } }
  rcases q with ⟨hx, q⟩ | ⟨hx, q⟩
  · obtain ⟨its, r, ht, hz⟩ := I5.list hx
    have hlen := r.length
    refine tail_any (ops := [.ref a, .ref s4.heap.objs.size]) ht.isList.typeIs (PySem.slot_list_getitem.lookup) ?_ (by with_unfolding_all rfl)
    refine wpAny_getItem_list_slice ht.isList (Heap.IsSliceOf.new _ vl vu vs) pl pu ps (by decide) ?_ (by rw [List.size_toArray]; omega)
    rw [PySem.W.krv_pick]
    refine ⟨.ref _, _, I5.laid (t' := s4.toks) (o := .lst xs.reverse) (fun b ob q => Heap.get?_push_of_some _ q) (Nat.le_refl _) ?_, rfl, q _ (I5.hok.fresh (Nat.le_refl _))⟩
    exact ⟨by rw [List.length_reverse]; exact hz, _, 0, r.reverse, Heap.get?_push_size _ rfl⟩
  · obtain ⟨its, r, ht, hz⟩ := I5.tuple hx
    have hlen := r.length
    refine tail_any (ops := [.ref a, .ref s4.heap.objs.size]) ht.typeIs (PyProof.Rows.slot_tuple_getitem.lookup) ?_ (by with_unfolding_all rfl)
    refine getItem_tuple_rev ht (Heap.IsSliceOf.new _ vl vu vs) pl pu ps ?_ (by rw [List.size_toArray]; omega)
    refine ⟨.ref _, _, I5.laid (t' := s4.toks) (o := .tup xs.reverse) (fun b ob q => Heap.get?_push_of_some _ q) (Nat.le_refl _) ?_, rfl, q _ (I5.hok.fresh (Nat.le_refl _))⟩
    exact ⟨by rw [List.length_reverse]; exact hz, _, r.reverse, IsTup.new _ _⟩
def dRev (te : DTE) : DTE := fun ds M P => te ds M fun x M1 => match x with
  | .lst xs => P (.lst xs.reverse) M1
  | .tup xs => P (.tup xs.reverse) M1
  | _ => False
theorem d_rev {X : Cx} {c : DC} {e : Expr} {te : DTE} {k : Nat} {p1 p2 p3 pos : Pos} (he : DE X c e te) : DE X c (.Subscript e (.Slice none none (some (.UnaryOp .USub (.Constant (.int 1) k p1) p2)) p3) pos) (dRev te) := (pe_revA he).imp fun σ H Q ⟨ds, M, F, P, at', ht, fin⟩ => by
  refine ⟨ds, M, F, _, at', ht, fun x M1 v H1 q dj ev mo rp => ?_⟩
  split at q
  · cases rp with
    | lst hs hn hl => exact ⟨_, _, rfl, .inl ⟨.of hs, fin_lst (fin.ev ev) dj mo hl.reverse q⟩⟩
  · cases rp with
    | tup hs hl => exact ⟨_, _, rfl, .inr ⟨hs, fin_tup (fin.ev ev) dj mo hl.reverse q⟩⟩
  · exact q.elim
/-! ### isinstance(x, (S, T)) -/
def dIsiT (n m : String) (te : DTE) : DTE := fun ds M P => te ds M fun x M1 => match x with
  | .ref _ => False
  | .ty _ => False
  | x => (isiN n = true ∧ isiN m = true) ∧ P (.bl (isiB n x || isiB m x)) M1
theorem d_isiT {X : Cx} {c : DC} {e : Expr} {te : DTE} {y z : Str} {p py pz pt pos : Pos} {kt : Nat} (n m : String) (he : DE X c e te) (hg : Gl X "isinstance") (hm : X.mg "isinstance" = none)
    (hy : Gl X y) (hmy : X.mg y = none) (hvy : bootBuiltins y = some (.type n)) (hny : y ≠ "__name__") (hz : Gl X z) (hmz : X.mg z = none) (hvz : bootBuiltins z = some (.type m)) (hnz : z ≠ "__name__")
    (hdy : (y == ("__debug__" : Str)) = false := by decide) (hdz : (z == ("__debug__" : Str)) = false := by decide)
    (na : starEach [e, Expr.Tuple [.Name y py, .Name z pz] kt pt] X.env = (false, eval e X.env) :: starEach [Expr.Tuple [.Name y py, .Name z pz] kt pt] X.env := by rfl)
    (nb : starEach [Expr.Tuple [.Name y py, .Name z pz] kt pt] X.env = (false, eval (Expr.Tuple [.Name y py, .Name z pz] kt pt) X.env) :: starEach [] X.env := by rfl)
    (nc : starEach [Expr.Name y py, .Name z pz] X.env = (false, eval (.Name y py) X.env) :: starEach [Expr.Name z pz] X.env := by rfl) (nd : starEach [Expr.Name z pz] X.env = (false, eval (.Name z pz) X.env) :: starEach [] X.env := by rfl) :
    DE X c (.Call (.Name "isinstance" p) [e, .Tuple [.Name y py, .Name z pz] kt pt] [] pos) (dIsiT n m te) :=
  (pe_callB call_isiT hg hm (by rfl) (pa_cons he (pa_cons (pe_tup (pa_cons (pe_bltn hy hmy hvy (show RelV (.ty n) (.type n) from rfl) hny hdy) (pa_cons (pe_bltn hz hmz hvz (show RelV (.ty m) (.type m) from rfl) hnz hdz) pa_nil nd) nc)) pa_nil nb) na) (by decide) (by decide) na (by rfl)).imp fun σ H Q ⟨ds, M, F, P, at', ht, fin⟩ => by
    refine ⟨ds, M, F, _, at', ht, fun x M1 v H1 q dj ev mo rp => ?_⟩
    have nr : (∀ a, x ≠ .ref a) ∧ (∀ u, x ≠ .ty u) := ⟨fun a h => by subst h; exact q, fun u h => by subst h; exact q⟩
    have q' : (isiN n = true ∧ isiN m = true) ∧ P (.bl (isiB n x || isiB m x)) M1 := by
      cases x <;> first | exact q | exact q.elim
    obtain ⟨t, h1, h2⟩ := rp_ty rp nr.1 nr.2
    refine ⟨by rw [sizeLine_eq]; simp, fun w hw => ?_⟩
    have evN : Ev M1 H1 M1 (upd H1 w (.tup [.ty n, .ty m])) := Ev.new hw
    obtain ⟨t2, h3, h4⟩ := rp_ty (Rp.ev evN x rp) nr.1 nr.2
    show rIsiT X.K [v, .ref w] _ Q
    refine ⟨v, w, [.ty n, .ty m], _, [.type n, .type m], isiB n x || isiB m x, rfl, upd_same, .cons (.ty n) (.cons (.ty m) .nil), h3, ?_, (fin.ev (ev.trans evN)).val dj (mo.new hw) q'.2 (.bl _)⟩
    have k1 := kit_ty (K := X.K) (h4 n q'.1.1)
    have k2 := kit_ty (K := X.K) (h4 m q'.1.2)
    unfold PySem.W.kitAny
    rw [k1]
    cases isiB n x with
    | true => rfl
    | false =>
      dsimp only
      unfold PySem.W.kitAny
      rw [k2]
      cases isiB m x <;> rfl
/-! ### a list that is made by two fors, for a user who changes it -/
def dComp2H (vs vs1 : List Nat) (ti : DTI) (g : DTG) (tt : DTT) (ti1 : DTI) (g1 : DTG) (tt1 : DTT) (te : DTE) : DTE := fun ds M P => ti ds M fun xs M1 => compL2 vs vs1 g tt ti1 g1 tt1 te ds (fun ys M2 => ∀ p, M2 p = none → P (.ref p) (mput M2 p (some (.lst ys)))) xs [] M1
section
variable {X : Cx} {c : DC} {pos : Pos} {vs vs1 : List Nat} {ti ti1 : DTI} {g g1 : DTG} {tt tt1 : DTT} {te : DTE}
theorem lc2_hot {K : Fg} {σ : L2.St} {H : Hp} {Q : VK} : Lf K c (dComp2H vs vs1 ti g tt ti1 g1 tt1 te) σ H Q → tLc2 (Li K c ti) (Lg K c.mute vs g) (Lt K c.mute tt) (Li K c.mute ti1) (Lg K c.mute vs1 g1) (Lt K c.mute tt1) (Lf K c.mute te) vs vs1 σ H Q := fun ⟨ds, M, F, P, at', ht, fin⟩ =>
  lc2_read at' ht fun D ys M' ws H' p dj ev mo nM nF hD hD0 r => by
    have cold : (mj M' F) D = none := by rw [mj_r nM]; exact nF
    have e1 : ∀ a, mput (mj M' F) D (some .hid) a = none → mput (mj M' F) D (some (.lst ys)) a = none := fun a h => by
      by_cases e : a = D
      · subst e; rw [mput_same] at h; cases h
      · rw [mput_ne e] at h ⊢; exact h
    refine fin (.ref D) _ (.ref D) H' (p D nM) (dj_put dj nF) ⟨ev.keep, fun a o h t n => ?_, ev.dom⟩ ?_ (.ref D)
    · rw [mput_ne (fun e => hD0 o (by rw [← e]; exact h) t)]; exact ev.mono a o h t n
    · rw [mj_put]
      intro a o h
      by_cases e : a = D
      · subst e
        rw [mput_same] at h; cases h
        exact ⟨ws, hD, RpL.less e1 ys r⟩
      · rw [mput_ne e] at h
        exact MoOk.less e1 (mo a o (by rw [mput_ne e]; exact h))
variable {tg iter tg1 iter1 elt : Expr} {ifs ifs1 : List Expr} {scope : Scope} {own : List (Str × Nat)}
theorem d_setLc2H {i : Nat} {y : Str} {py : Pos} {spos : Pos} (hc : X.calm = true) (hN : X.N.Nodup) (hy : X.N[i]? = some y) (hyl : X.env.scope.names.lookup y = some .local)
    (hsw : swapsWith (.ListComp elt [⟨tg, iter, ifs, 0⟩, ⟨tg1, iter1, ifs1, 0⟩] scope pos) (some (.Name y py)) spos.line X.env = pure true) (hi : DI X c tg iter ti) (ok : BlkOk X.N X.env.scope scope own) (hv : ∀ i ∈ vs1, i ∈ own.map (·.2))
    (hg : ∀ (s : Shared) (H : Hp) (C : Addr) (cl : List (Str × Addr)) (fp : List Addr), DG (X.blk s H scope (compEnvC scope cl C X.env) fp) c.mute (own.map (·.2)) tg g) (ht : ∀ (s : Shared) (H : Hp) (C : Addr) (cl : List (Str × Addr)) (fp : List Addr), DTs (X.blk s H scope (compEnvC scope cl C X.env) fp) c.mute ifs tt)
    (hi1 : ∀ (s : Shared) (H : Hp) (C : Addr) (cl : List (Str × Addr)) (fp : List Addr), DI (X.blk s H scope (compEnvC scope cl C X.env) fp) c.mute tg1 iter1 ti1)
    (hg1 : ∀ (s : Shared) (H : Hp) (C : Addr) (cl : List (Str × Addr)) (fp : List Addr), DG (X.blk s H scope (compEnvC scope cl C X.env) fp) c.mute vs1 tg1 g1) (ht1 : ∀ (s : Shared) (H : Hp) (C : Addr) (cl : List (Str × Addr)) (fp : List Addr), DTs (X.blk s H scope (compEnvC scope cl C X.env) fp) c.mute ifs1 tt1)
    (he : ∀ (s : Shared) (H : Hp) (C : Addr) (cl : List (Str × Addr)) (fp : List Addr), DE (X.blk s H scope (compEnvC scope cl C X.env) fp) c.mute elt te) (hs : ∀ x, foldedSetIterable iter X.env x = pure x := by intro _; rfl) (hs1 : ∀ env x, foldedSetIterable iter1 env x = pure x := by intro _ _; rfl) :
    DS X c (.Assign [.Name y py] (.ListComp elt [⟨tg, iter, ifs, 0⟩, ⟨tg1, iter1, ifs1, 0⟩] scope pos) spos) (dSet i (dComp2H (own.map (·.2)) vs1 ti g tt ti1 g1 tt1 te)) := (ps_setLc2 (g := Lg X.K c.mute (own.map fun (x : Str × Nat) => x.2) g) (tt := Lt X.K c.mute tt) (wi1 := Li X.K c.mute ti1) (g1 := Lg X.K c.mute vs1 g1) (tt1 := Lt X.K c.mute tt1) (te := Lf X.K c.mute te) hc hN hy hyl hsw hi ok hv hg ht hi1 hg1 ht1 he hs hs1).imp fun W σ H ⟨ds, M, F, DD, at', ht, f⟩ =>
  lc2_hot (Q := fun v H' => W.nx (σ.set i (some v)) H') ⟨ds, M, F, fun d M1 => DD.nx (ds.set i (some d)) M1, at', ht, fun d M' v H' p dj ev mo rp => f.nx _ M' _ H' p dj ev mo ((at'.sl.kp ev.kpF).set i rp)⟩
end
end DL

set_option Elab.async false
set_option linter.all false
set_option maxRecDepth 100000
set_option maxHeartbeats 4000000
namespace DL
open PySem PySem.Spec PyProof.Rows L2
def t_is_within (PX : DX) : DTS :=
  (dRet (dAndV (dApp gIsi (dCons (dVar 0) (dCons (dC (.ty "int")) dNil))) (dAndV (dNotV (dApp gIsi (dCons (dVar 0) (dCons (dC (.ty "bool")) dNil)))) (dChain gLe gLe (dVar 1) (dVar 0) (dVar 2)))))
def t_has_items (PX : DX) : DTS :=
  (dRet (dAndV (dApp gIsi (dCons (dVar 0) (dCons (dC (.ty "tuple")) dNil))) (dChain gLe gLe (dVar 1) (dApp gLen (dCons (dVar 0) dNil)) (dVar 2))))
def t_is_tooth (c_TEETH : D) (PX : DX) : DTS :=
  (dRet (dAndV (dApp gIsi (dCons (dVar 0) (dCons (dC (.ty "str")) dNil))) (dBin (gIn false) (dVar 0) (dC c_TEETH))))
def t_are_teeth (c_TEETH : D) (PX : DX) : DTS :=
  (dRet (dAndV (dApp gIsi (dCons (dVar 0) (dCons (dC (.ty "str")) dNil))) (dBin gEq (dVar 0) (dJoin (dC (.str "")) (dComp [1] (dIter (dC c_TEETH)) (dgN 1) (dB (dBin (gIn false) (dVar 1) (dVar 0))) (dVar 1))))))
def t_is_barrel (s_has_items : DSp) (s_are_teeth : DSp) (PX : DX) : DTS :=
  (dRet (dAndV (dCall s_has_items PX (dCons (dVar 0) (dCons (dC (.int 1)) (dCons (dC (.int 7)) dNil)))) (dApp gAll (dCons (dComp [1] (dIter (dVar 0)) (dgN 1) dYes (dCall s_are_teeth DX0 (dCons (dVar 1) dNil))) dNil))))
def t_is_box_value (s_has_items : DSp) (s_is_within : DSp) (s_is_barrel : DSp) (PX : DX) : DTS :=
  (dSeq (dIf (dOr (dNot (dB (dCall s_has_items PX (dCons (dVar 0) (dCons (dC (.int 2)) (dCons (dC (.int 2)) dNil)))))) (dNot (dB (dCall s_is_within PX (dCons (dBin gIx (dVar 0) (dC (.int 0))) (dCons (dC (.int 0)) (dCons (dC (.int 3)) dNil))))))) (dRet (dC (.bl false))) dSkip) (dRet (dAndV (dCall s_has_items PX (dCons (dBin gIx (dVar 0) (dC (.int 1))) (dCons (dC (.int 1)) (dCons (dC (.int 3)) dNil)))) (dApp gAll (dCons (dComp [1] (dIter (dBin gIx (dVar 0) (dC (.int 1)))) (dgN 1) dYes (dCall s_is_barrel DX0 (dCons (dVar 1) dNil))) dNil)))))
def t_is_fact (s_has_items : DSp) (s_is_within : DSp) (s_are_teeth : DSp) (s_is_tooth : DSp) (c_GREAT : D) (PX : DX) : DTS :=
  (dSeq (dIf (dOr (dNot (dB (dCall s_has_items PX (dCons (dVar 0) (dCons (dC (.int 3)) (dCons (dC (.int 3)) dNil)))))) (dOr (dNot (dB (dApp gIsi (dCons (dBin gIx (dVar 0) (dC (.int 0))) (dCons (dC (.ty "str")) dNil))))) (dNot (dB (dCall s_is_within PX (dCons (dBin gIx (dVar 0) (dC (.int 1))) (dCons (dC (.int 0)) (dCons (dC c_GREAT) dNil)))))))) (dRet (dC (.bl false))) dSkip) (dSeq (dIf (dB (dBin gEq (dBin gIx (dVar 0) (dC (.int 0))) (dC (.str "chord")))) (dRet (dCall s_are_teeth PX (dCons (dBin gIx (dVar 0) (dC (.int 2))) dNil))) dSkip) (dRet (dAndV (dBin (gIn false) (dBin gIx (dVar 0) (dC (.int 0))) (dTup (dCons (dC (.str "sounds")) (dCons (dC (.str "silent")) dNil)))) (dCall s_is_tooth PX (dCons (dBin gIx (dVar 0) (dC (.int 2))) dNil))))))
def t_are_facts_value (s_has_items : DSp) (s_is_fact : DSp) (PX : DX) : DTS :=
  (dRet (dAndV (dCall s_has_items PX (dCons (dVar 0) (dCons (dC (.int 0)) (dCons (dC (.int 6)) dNil)))) (dApp gAll (dCons (dComp [1] (dIter (dVar 0)) (dgN 1) dYes (dCall s_is_fact DX0 (dCons (dVar 1) dNil))) dNil))))
def t_begins (s_has_items : DSp) (s_is_within : DSp) (PX : DX) : DTS :=
  (dSeq (dIf (dNot (dB (dCall s_has_items PX (dCons (dVar 1) (dCons (dApp gLen (dCons (dBin gIx (dVar 0) (dC (.int 1))) dNil)) (dCons (dApp gLen (dCons (dBin gIx (dVar 0) (dC (.int 1))) dNil)) dNil)))))) (dRet (dC (.bl false))) dSkip) (dRet (dApp gAll (dCons (dComp [2, 3] (dZip (dCons (dVar 1) (dCons (dBin gIx (dVar 0) (dC (.int 1))) dNil))) (dgT 2 (dgCons (dgN 2) (dgCons (dgN 3) dgNil))) dYes (dCall s_is_within DX0 (dCons (dVar 2) (dCons (dC (.int 0)) (dCons (dBin gSub (dApp gLen (dCons (dVar 3) dNil)) (dC (.int 1))) dNil))))) dNil))))
def t_need_box (s_is_box_value : DSp) (e_InvalidBox : Addr) (PX : DX) : DTS :=
  (dIf (dNot (dB (dCall s_is_box_value PX (dCons (dVar 0) dNil)))) (dRaise PX (.ref e_InvalidBox)) dSkip)
def t_gcd (PX : DX) : DTS :=
  (dSeq (dWhile (dB (dBin gGt (dVar 1) (dC (.int 0)))) (dPar 0 1 (dCons (dVar 1) (dCons (dBin gMod (dVar 0) (dVar 1)) dNil)))) (dRet (dVar 0)))
def t_period_of (s_gcd : DSp) (PX : DX) : DTS :=
  (dSeq (dSet 1 (dC (.int 1))) (dSeq (dFor (dIter (dBin gIx (dVar 0) (dC (.int 1)))) (dgN 2) (dSet 1 (dBin gDiv (dBin gMul (dVar 1) (dApp gLen (dCons (dVar 2) dNil))) (dCall s_gcd PX (dCons (dVar 1) (dCons (dApp gLen (dCons (dVar 2) dNil)) dNil)))))) (dRet (dVar 1))))
def t_all_beginnings (PX : DX) : DTS :=
  (dSeq (dSet 1 (dLst (dCons (dTup dNil) dNil))) (dSeq (dFor (dIter (dBin gIx (dVar 0) (dC (.int 1)))) (dgN 2) (dSet 1 (dComp2 [3, 4] [4] (dIter (dVar 1)) (dgN 3) dYes (dRng1 (dCons (dApp gLen (dCons (dVar 2) dNil)) dNil)) (dgN 4) dYes (dBin gAdd (dVar 3) (dTup (dCons (dVar 4) dNil)))))) (dRet (dVar 1))))
def t_law_deck (PX : DX) : DTS :=
  (dSeq (dIf (dB (dBin gGe (dVar 0) (dBin gPow (dC (.int 10)) (dC (.int 18))))) (dRet (dLstH (dCons (dBin gSub (dVar 0) (dBin gPow (dC (.int 10)) (dC (.int 18)))) (dCons (dBin gMod (dVar 0) (dC (.int 2147483579))) (dCons (dVar 1) dNil))))) dSkip) (dRet (dLstH (dCons (dC (.int 0)) (dCons (dBin gMod (dVar 0) (dC (.int 2147483579))) (dCons (dVar 1) dNil))))))
def t_law_pick (PX : DX) : DTS :=
  (dSeq (dIf (dB (dBin gGt (dBin gIx (dVar 0) (dC (.int 0))) (dC (.int 1)))) (dSeq (dSet 2 (dBin gMod (dApp gInt1 (dCons (dBin gIx (dVar 0) (dC (.int 0))) dNil)) (dVar 1))) (dSeq (dAsg (dBin gDiv (dBin gIx (dVar 0) (dC (.int 0))) (dVar 1)) (dgSub (dVar 0) (dC (.int 0)))) (dRet (dVar 2)))) dSkip) (dSeq (dAsg (dBin gAdd (dBin gIx (dVar 0) (dC (.int 2))) (dC (.int 1))) (dgSub (dVar 0) (dC (.int 2)))) (dSeq (dSet 3 (dBin gMod (dBin gPow (dBin gAdd (dBin gIx (dVar 0) (dC (.int 1))) (dBin gMul (dC (.int 15485867)) (dBin gIx (dVar 0) (dC (.int 2))))) (dC (.int 5))) (dC (.int 2147483647)))) (dSeq (dSet 2 (dBin gDiv (dBin gMod (dBin gPow (dBin gAdd (dVar 3) (dBin gMul (dC (.int 7919)) (dBin gIx (dVar 0) (dC (.int 2))))) (dC (.int 3))) (dC (.int 2147483629))) (dC (.int 32)))) (dRet (dBin gMod (dApp gInt1 (dCons (dVar 2) dNil)) (dVar 1)))))))
def t_law_whole (PX : DX) : DTS :=
  (dRet (dAndV (dApp gIsi (dCons (dVar 0) (dCons (dC (.ty "int")) dNil))) (dNotV (dApp gIsi (dCons (dVar 0) (dCons (dC (.ty "bool")) dNil))))))
def t_law_one (s_law_pick : DSp) (PX : DX) : DTS :=
  (dRet (dBin gIx (dVar 1) (dCall s_law_pick PX (dCons (dVar 0) (dCons (dApp gLen (dCons (dVar 1) dNil)) dNil)))))
def t_law_sort (PX : DX) : DTS :=
  (dSeq (dIf (dB (dApp gIsi (dCons (dVar 0) (dCons (dC (.ty "bool")) dNil)))) (dRet (dC (.int 1))) dSkip) (dSeq (dIf (dB (dApp gIsi (dCons (dVar 0) (dCons (dC (.ty "int")) dNil)))) (dRet (dC (.int 2))) dSkip) (dSeq (dIf (dB (dApp gIsi (dCons (dVar 0) (dCons (dC (.ty "str")) dNil)))) (dRet (dC (.int 3))) dSkip) (dSeq (dIf (dB (dApp gIsi (dCons (dVar 0) (dCons (dC (.ty "list")) dNil)))) (dRet (dC (.int 4))) dSkip) (dRet (dIfE (dB (dApp gIsi (dCons (dVar 0) (dCons (dC (.ty "tuple")) dNil)))) (dC (.int 5)) (dC (.int 6))))))))
def t_law_same (s_law_sort : DSp) (s_law_same : DSp) (PX : DX) : DTS :=
  (dSeq (dIf (dB (dBin gNe (dCall s_law_sort PX (dCons (dVar 0) dNil)) (dCall s_law_sort PX (dCons (dVar 1) dNil)))) (dRet (dC (.bl false))) dSkip) (dSeq (dIf (dAnd (dB (dBin gGt (dCall s_law_sort PX (dCons (dVar 0) dNil)) (dC (.int 3)))) (dB (dBin gLt (dCall s_law_sort PX (dCons (dVar 0) dNil)) (dC (.int 6))))) (dSeq (dIf (dB (dBin gNe (dApp gLen (dCons (dVar 0) dNil)) (dApp gLen (dCons (dVar 1) dNil)))) (dRet (dC (.bl false))) dSkip) (dRet (dBin gEq (dComp [2, 3] (dEnum (dCons (dVar 0) dNil)) (dgT 2 (dgCons (dgN 2) (dgCons (dgN 3) dgNil))) (dNot (dB (dCall s_law_same DX0 (dCons (dVar 3) (dCons (dBin gIx (dVar 1) (dVar 2)) dNil))))) (dVar 2)) (dLst dNil)))) dSkip) (dRet (dBin gEq (dVar 0) (dVar 1)))))
def t_law_kin (c_InvalidTick : D) (c_InvalidBeginning : D) (c_InvalidBox : D) (c_InvalidNumber : D) (c_InvalidFacts : D) (c_InvalidTooth : D) (c_Unlike : D) (c_NoBeginning : D) (c_InvalidIndex : D) (c_InvalidText : D) (c_TooMany : D) (c_NothingToUndo : D) (gI : DOL) : DTS :=
  (dSeq (dSet 1 (dLst (dCons (dApp gI (dCons (dVar 0) (dCons (dC c_InvalidBox) dNil))) (dCons (dApp gI (dCons (dVar 0) (dCons (dC c_InvalidBeginning) dNil))) (dCons (dApp gI (dCons (dVar 0) (dCons (dC c_InvalidTick) dNil))) dNil))))) (dSeq (dSet 1 (dBin gAdd (dVar 1) (dLst (dCons (dApp gI (dCons (dVar 0) (dCons (dC c_InvalidTooth) dNil))) (dCons (dApp gI (dCons (dVar 0) (dCons (dC c_InvalidFacts) dNil))) (dCons (dApp gI (dCons (dVar 0) (dCons (dC c_InvalidNumber) dNil))) dNil)))))) (dSeq (dSet 1 (dBin gAdd (dVar 1) (dLst (dCons (dApp gI (dCons (dVar 0) (dCons (dC c_InvalidIndex) dNil))) (dCons (dApp gI (dCons (dVar 0) (dCons (dC c_NoBeginning) dNil))) (dCons (dApp gI (dCons (dVar 0) (dCons (dC c_Unlike) dNil))) dNil)))))) (dSeq (dSet 1 (dBin gAdd (dVar 1) (dLst (dCons (dApp gI (dCons (dVar 0) (dCons (dC c_NothingToUndo) dNil))) (dCons (dApp gI (dCons (dVar 0) (dCons (dC c_TooMany) dNil))) (dCons (dApp gI (dCons (dVar 0) (dCons (dC c_InvalidText) dNil))) dNil)))))) (dSeq (dSet 1 (dBin gAdd (dVar 1) (dLst (dCons (dApp gI (dCons (dVar 0) (dCons (dC (.ty "ValueError")) dNil))) dNil)))) (dSeq (dSet 2 (dC (.str "box beginning tick tooth facts number index none unlike undo many text +"))) (dRet (dJoin (dC (.str " ")) (dComp [3, 4] (dZipE (dCons (dSplit (dVar 2) (dC (.str " "))) (dCons (dVar 1) dNil))) (dgT 2 (dgCons (dgN 3) (dgCons (dgN 4) dgNil))) (dB (dVar 4)) (dVar 3))))))))))
def t_law_known (PX : DX) : DTS :=
  (dSeq (dAsg (dTup (dCons (dTup (dCons (dC (.int 0)) (dCons (dTup (dCons (dTup (dCons (dC (.str "a")) (dCons (dC (.str "b")) dNil))) dNil)) dNil))) (dCons (dTup (dCons (dC (.int 1)) (dCons (dTup (dCons (dTup (dCons (dC (.str "a")) (dCons (dC (.str "")) (dCons (dC (.str "b")) dNil)))) (dCons (dTup (dCons (dC (.str "b")) (dCons (dC (.str "")) dNil))) dNil))) dNil))) dNil))) (dgT 2 (dgCons (dgN 0) (dgCons (dgN 1) dgNil)))) (dRet (dTup (dCons (dVar 0) (dCons (dVar 1) (dCons (dTup (dCons (dC (.int 0)) (dCons (dTup (dCons (dTup (dCons (dC (.str "ab")) dNil)) (dCons (dTup (dCons (dC (.str "c")) (dCons (dC (.str "")) (dCons (dC (.str "c")) (dCons (dC (.str "")) dNil))))) dNil))) dNil))) (dCons (dTup (dCons (dC (.int 0)) (dCons (dTup (dCons (dTup (dCons (dC (.str "")) (dCons (dC (.str "")) dNil))) dNil)) dNil))) dNil)))))))
def t_law_some_teeth (s_law_one : DSp) (PX : DX) : DTS :=
  (dSeq (dSet 1 (dCall s_law_one PX (dCons (dVar 0) (dCons (dLst (dCons (dC (.int 0)) (dCons (dC (.int 0)) (dCons (dC (.int 1)) (dCons (dC (.int 1)) (dCons (dC (.int 1)) (dCons (dC (.int 2)) (dCons (dC (.int 3)) dNil)))))))) dNil)))) (dRet (dJoin (dC (.str "")) (dSrtSet (dComp [2] (dRng1 (dCons (dVar 1) dNil)) (dgN 2) dYes (dCall s_law_one DX0 (dCons (dVar 0) (dCons (dLst (dCons (dC (.str "a")) (dCons (dC (.str "b")) (dCons (dC (.str "c")) (dCons (dC (.str "d")) dNil))))) dNil))))))))
def t_law_a_box (s_law_pick : DSp) (s_law_some_teeth : DSp) (s_law_one : DSp) (PX : DX) : DTS :=
  (dSeq (dSet 2 (dLstH dNil)) (dSeq (dFor (dRng1 (dCons (dBin gAdd (dC (.int 1)) (dCall s_law_pick PX (dCons (dVar 0) (dCons (dC (.int 3)) dNil)))) dNil)) (dgN 3) (dSeq (dSet 4 (dApp gTuple (dCons (dComp [5] (dRng1 (dCons (dBin gAdd (dC (.int 1)) (dCall s_law_pick PX (dCons (dVar 0) (dCons (dVar 1) dNil)))) dNil)) (dgN 5) dYes (dCall s_law_some_teeth DX0 (dCons (dVar 0) dNil))) dNil))) (dSeq (dIf (dAnd (dB (dBin gEq (dCall s_law_pick PX (dCons (dVar 0) (dCons (dC (.int 6)) dNil))) (dC (.int 0)))) (dB (dBin gLt (dApp gLen (dCons (dVar 4) dNil)) (dC (.int 4))))) (dSet 4 (dSlice (dBin gAdd (dVar 4) (dVar 4)) dNoPart (dPart (dVar 1)))) dSkip) (dExpr (dAppend (dVar 2) (dVar 4)))))) (dRet (dTup (dCons (dCall s_law_one PX (dCons (dVar 0) (dCons (dLst (dCons (dC (.int 0)) (dCons (dC (.int 0)) (dCons (dC (.int 1)) (dCons (dC (.int 2)) (dCons (dC (.int 3)) dNil)))))) dNil))) (dCons (dApp gTuple (dCons (dVar 2) dNil)) dNil))))))
def t_law_starts (PX : DX) : DTS :=
  (dSeq (dSet 1 (dLst (dCons (dTup dNil) dNil))) (dSeq (dFor (dIter (dBin gIx (dVar 0) (dC (.int 1)))) (dgN 2) (dSeq (dSet 3 (dLst dNil)) (dSeq (dFor (dIter (dVar 1)) (dgN 4) (dSet 3 (dBin gAdd (dVar 3) (dComp [5] (dRng1 (dCons (dApp gLen (dCons (dVar 2) dNil)) dNil)) (dgN 5) dYes (dBin gAdd (dVar 4) (dTup (dCons (dVar 5) dNil))))))) (dSet 1 (dVar 3))))) (dRet (dVar 1))))
def t_law_a_start (s_law_pick : DSp) (PX : DX) : DTS :=
  (dRet (dApp gTuple (dCons (dComp [2] (dIter (dBin gIx (dVar 1) (dC (.int 1)))) (dgN 2) dYes (dCall s_law_pick DX0 (dCons (dVar 0) (dCons (dApp gLen (dCons (dVar 2) dNil)) dNil)))) dNil)))
def t_law_size (PX : DX) : DTS :=
  (dSeq (dSet 1 (dC (.int 1))) (dSeq (dWhile (dB (dBin gNe (dComp [2] (dIter (dBin gIx (dVar 0) (dC (.int 1)))) (dgN 2) (dB (dBin gNe (dBin gMod (dApp gInt1 (dCons (dVar 1) dNil)) (dApp gLen (dCons (dVar 2) dNil))) (dC (.int 0)))) (dC (.int 1))) (dLst dNil))) (dSet 1 (dBin gAdd (dVar 1) (dC (.int 1))))) (dRet (dVar 1))))
def t_law_k04 (s_law_deck : DSp) (s_law_good : DSp) (s_law_a_box : DSp) (s_law_known : DSp) (s_first_clash : DSp) (s_clash_share : DSp) (s_clean : DSp) (s_least_share : DSp) (c_clash_share : D) (c_first_clash : D) (c_least_share : D) (c_clean : D) (fv : Addr → DSp → Prop) (try_ : (DX → DTE) → DTE) (scr : DTE) (PX : DX) : DTS :=
  (dSeq (dFor (dIter (dSlice scr dNoPart (dPart (dC (.int 8))))) (dgN 1) (dSeq (dSet 2 (dCall s_law_deck PX (dCons (dVar 1) (dCons (dC (.int 4)) dNil)))) (dSeq (dFor (dRng1 (dCons (dC (.int 3)) dNil)) (dgN 3) (dIf (dNot (dB (dCall s_law_good PX (dCons (dCall s_law_a_box PX (dCons (dVar 2) (dCons (dC (.int 4)) dNil))) dNil)))) (dRet (dC (.bl false))) dSkip)) (dSeq (dAsg (dCall s_law_known PX dNil) (dgT 4 (dgCons (dgN 4) (dgCons (dgN 5) (dgCons (dgN 6) (dgCons (dgN 7) dgNil)))))) (dSeq (dFor (dIter (dTup (dCons (dC c_first_clash) (dCons (dC c_clash_share) dNil)))) (dgN 8) (dSeq (dIf (dB (dBin gNe (try_ (fun PX => (dCallV 8 fv PX (dCons (dC .non) (dCons (dC .non) dNil))))) (dC (.str "box +")))) (dRet (dC (.bl false))) dSkip) (dIf (dB (dBin gNe (try_ (fun PX => (dCallV 8 fv PX (dCons (dVar 5) (dCons (dTup (dCons (dC (.int 0)) dNil)) dNil))))) (dC (.str "beginning +")))) (dRet (dC (.bl false))) dSkip))) (dFor (dIter (dTup (dCons (dC c_clean) (dCons (dC c_least_share) dNil)))) (dgN 8) (dIf (dB (dBin gNe (try_ (fun PX => (dCallV 8 fv PX (dCons (dSlice (dVar 5) dNoPart (dPart (dC (.int 1)))) dNil)))) (dC (.str "box +")))) (dRet (dC (.bl false))) dSkip))))))) (dSeq (dIf (dB (dBin gNe (dComp [10] (dIter (dTup (dCons (dTup (dCons (dC (.int 0)) (dCons (dC (.int 0)) dNil))) (dCons (dTup (dCons (dC (.int 2)) (dCons (dC (.int 0)) dNil))) (dCons (dTup (dCons (dC (.int 2)) (dCons (dC (.int 1)) dNil))) dNil))))) (dgN 10) dYes (dCall s_first_clash DX0 (dCons (dVar 5) (dCons (dVar 10) dNil)))) (dLst (dCons (dC (.int 2)) (dCons (dC (.int 0)) (dCons (dC (.int 1)) dNil)))))) (dRet (dC (.bl false))) dSkip) (dSeq (dIf (dB (dBin gNe (dCall s_clash_share PX (dCons (dVar 5) (dCons (dTup (dCons (dC (.int 0)) (dCons (dC (.int 0)) dNil))) dNil))) (dTup (dCons (dC (.int 1)) (dCons (dC (.int 2)) dNil))))) (dRet (dC (.bl false))) dSkip) (dSeq (dIf (dOr (dB (dBin gNe (dCall s_clean PX (dCons (dVar 5) dNil)) (dLst dNil))) (dOr (dB (dBin gNe (dCall s_clean PX (dCons (dVar 4) dNil)) (dLst (dCons (dTup (dCons (dC (.int 0)) dNil)) (dCons (dTup (dCons (dC (.int 1)) dNil)) dNil))))) (dB (dBin gNe (dCall s_clash_share PX (dCons (dVar 4) (dCons (dTup (dCons (dC (.int 0)) dNil)) dNil))) (dTup (dCons (dC (.int 0)) (dCons (dC (.int 1)) dNil))))))) (dRet (dC (.bl false))) dSkip) (dSeq (dIf (dB (dBin gNe (dCall s_least_share PX (dCons (dVar 6) dNil)) (dTup (dCons (dTup (dCons (dC (.int 0)) (dCons (dC (.int 1)) dNil))) (dCons (dLst (dCons (dTup (dCons (dC (.int 0)) (dCons (dC (.int 0)) dNil))) (dCons (dTup (dCons (dC (.int 0)) (dCons (dC (.int 1)) dNil))) (dCons (dTup (dCons (dC (.int 0)) (dCons (dC (.int 2)) dNil))) (dCons (dTup (dCons (dC (.int 0)) (dCons (dC (.int 3)) dNil))) dNil))))) dNil))))) (dRet (dC (.bl false))) dSkip) (dSeq (dSet 9 (dTup (dCons (dC (.int 2)) (dCons (dTup (dCons (dTup (dCons (dC (.str "a")) (dCons (dC (.str "")) (dCons (dC (.str "")) (dCons (dC (.str "b")) dNil))))) dNil)) dNil)))) (dRet (dAndV (dBin gEq (dCall s_clean PX (dCons (dVar 9) dNil)) (dLst (dCons (dTup (dCons (dC (.int 0)) dNil)) (dCons (dTup (dCons (dC (.int 1)) dNil)) (dCons (dTup (dCons (dC (.int 2)) dNil)) (dCons (dTup (dCons (dC (.int 3)) dNil)) dNil)))))) (dBin gEq (dCall s_first_clash PX (dCons (dTup (dCons (dC (.int 3)) (dCons (dTup (dCons (dTup (dCons (dC (.str "a")) (dCons (dC (.str "b")) (dCons (dC (.str "a")) dNil)))) dNil)) dNil))) (dCons (dTup (dCons (dC (.int 1)) dNil)) dNil))) (dC (.int 2)))))))))))
def t_law_k05 (s_law_known : DSp) (s_law_deck : DSp) (s_law_a_box : DSp) (s_law_good : DSp) (s_silence : DSp) (s_longest_silence : DSp) (s_fullest : DSp) (c_fullest : D) (c_longest_silence : D) (fv : Addr → DSp → Prop) (try_ : (DX → DTE) → DTE) (scr : DTE) (PX : DX) : DTS :=
  (dSeq (dAsg (dCall s_law_known PX dNil) (dgT 4 (dgCons (dgN 1) (dgCons (dgN 2) (dgCons (dgN 3) (dgCons (dgN 4) dgNil)))))) (dSeq (dFor (dIter (dSlice scr dNoPart (dPart (dC (.int 8))))) (dgN 5) (dSeq (dSet 6 (dCall s_law_deck PX (dCons (dVar 5) (dCons (dC (.int 5)) dNil)))) (dSeq (dFor (dIter (dLst (dCons (dCall s_law_a_box PX (dCons (dVar 6) (dCons (dC (.int 4)) dNil))) (dCons (dCall s_law_a_box PX (dCons (dVar 6) (dCons (dC (.int 5)) dNil))) (dCons (dCall s_law_a_box PX (dCons (dVar 6) (dCons (dC (.int 3)) dNil))) dNil))))) (dgN 7) (dIf (dNot (dB (dCall s_law_good PX (dCons (dVar 7) dNil)))) (dRet (dC (.bl false))) dSkip)) (dSeq (dFor (dIter (dTup (dCons (dC c_longest_silence) (dCons (dC c_fullest) dNil)))) (dgN 8) (dIf (dB (dBin gNe (try_ (fun PX => (dCallV 8 fv PX (dCons (dApp gList (dCons (dVar 2) dNil)) dNil)))) (dC (.str "box +")))) (dRet (dC (.bl false))) dSkip)) (dSeq (dIf (dB (dBin gNe (try_ (fun PX => (dCall s_silence PX (dCons (dC .non) (dCons (dC .non) dNil))))) (dC (.str "box +")))) (dRet (dC (.bl false))) dSkip) (dIf (dB (dBin gNe (try_ (fun PX => (dCall s_silence PX (dCons (dVar 2) (dCons (dTup (dCons (dC (.int 0)) (dCons (dC (.int 2)) dNil))) dNil))))) (dC (.str "beginning +")))) (dRet (dC (.bl false))) dSkip)))))) (dSeq (dIf (dB (dBin gNe (dLst (dCons (dCall s_silence PX (dCons (dVar 2) (dCons (dTup (dCons (dC (.int 0)) (dCons (dC (.int 1)) dNil))) dNil))) (dCons (dCall s_silence PX (dCons (dVar 1) (dCons (dTup (dCons (dC (.int 0)) dNil)) dNil))) dNil))) (dLst (dCons (dC (.int 1)) (dCons (dC (.int 0)) dNil))))) (dRet (dC (.bl false))) dSkip) (dSeq (dIf (dOr (dB (dBin gNotN (dCall s_silence PX (dCons (dVar 4) (dCons (dTup (dCons (dC (.int 0)) dNil)) dNil))) (dC .non))) (dB (dBin gNotN (dCall s_longest_silence PX (dCons (dVar 4) dNil)) (dC .non)))) (dRet (dC (.bl false))) dSkip) (dSeq (dSet 9 (dLst (dCons (dTup (dCons (dC (.int 0)) (dCons (dC (.int 0)) dNil))) (dCons (dTup (dCons (dC (.int 0)) (dCons (dC (.int 1)) dNil))) (dCons (dTup (dCons (dC (.int 1)) (dCons (dC (.int 0)) dNil))) (dCons (dTup (dCons (dC (.int 1)) (dCons (dC (.int 1)) dNil))) (dCons (dTup (dCons (dC (.int 2)) (dCons (dC (.int 0)) dNil))) (dCons (dTup (dCons (dC (.int 2)) (dCons (dC (.int 1)) dNil))) dNil)))))))) (dSeq (dIf (dOr (dB (dBin gNe (dCall s_longest_silence PX (dCons (dTup (dCons (dC (.int 0)) (dCons (dTup (dCons (dTup (dCons (dC (.str "a")) (dCons (dC (.str "")) (dCons (dC (.str "")) dNil)))) (dCons (dTup (dCons (dC (.str "b")) (dCons (dC (.str "")) dNil))) dNil))) dNil))) dNil)) (dTup (dCons (dC (.int 1)) (dCons (dVar 9) dNil))))) (dB (dBin gNe (dCall s_fullest PX (dCons (dVar 2) dNil)) (dTup (dCons (dC (.int 2)) (dCons (dTup (dCons (dC (.int 0)) (dCons (dC (.int 0)) dNil))) dNil)))))) (dRet (dC (.bl false))) dSkip) (dSeq (dSet 10 (dTup (dCons (dC (.int 0)) (dCons (dTup (dCons (dTup (dCons (dC (.str "")) (dCons (dC (.str "")) (dCons (dC (.str "")) (dCons (dC (.str "a")) (dCons (dC (.str "")) (dCons (dC (.str "")) dNil))))))) dNil)) dNil)))) (dSeq (dIf (dOr (dB (dBin gNe (dComp [11] (dRng1 (dCons (dC (.int 6)) dNil)) (dgN 11) dYes (dCall s_silence DX0 (dCons (dVar 10) (dCons (dTup (dCons (dVar 11) dNil)) dNil)))) (dBin gMul (dLst (dCons (dC (.int 5)) dNil)) (dC (.int 6))))) (dB (dBin gNe (dCall s_fullest PX (dCons (dVar 4) dNil)) (dTup (dCons (dC (.int 0)) (dCons (dTup (dCons (dC (.int 0)) dNil)) dNil)))))) (dRet (dC (.bl false))) dSkip) (dRet (dBin gEq (dCall s_longest_silence PX (dCons (dTup (dCons (dC (.int 0)) (dCons (dTup (dCons (dTup (dCons (dC (.str "a")) (dCons (dC (.str "")) dNil))) (dCons (dTup (dCons (dC (.str "a")) (dCons (dC (.str "")) dNil))) dNil))) dNil))) dNil)) (dTup (dCons (dC (.int 1)) (dCons (dLst (dCons (dTup (dCons (dC (.int 0)) (dCons (dC (.int 0)) dNil))) (dCons (dTup (dCons (dC (.int 1)) (dCons (dC (.int 1)) dNil))) dNil))) dNil)))))))))))))
def t_law_k06 (s_law_deck : DSp) (s_law_a_box : DSp) (s_law_a_start : DSp) (s_law_pick : DSp) (s_law_a_fact : DSp) (s_law_starts : DSp) (s_law_goes : DSp) (s_law_same : DSp) (s_left : DSp) (s_law_lots : DSp) (s_classes : DSp) (s_law_known : DSp) (c_classes : D) (c_left : D) (fv : Addr → DSp → Prop) (try_ : (DX → DTE) → DTE) (scr : DTE) (PX : DX) : DTS :=
  (dSeq (dFor (dIter (dSlice scr dNoPart (dPart (dC (.int 10))))) (dgN 1) (dSeq (dSet 2 (dCall s_law_deck PX (dCons (dVar 1) (dCons (dC (.int 6)) dNil)))) (dSeq (dFor (dRng1 (dCons (dC (.int 3)) dNil)) (dgN 3) (dSeq (dSet 4 (dCall s_law_a_box PX (dCons (dVar 2) (dCons (dC (.int 5)) dNil)))) (dSeq (dSet 5 (dCall s_law_a_start PX (dCons (dVar 2) (dCons (dVar 4) dNil)))) (dSeq (dSet 6 (dCall s_law_pick PX (dCons (dVar 2) (dCons (dC (.int 4)) dNil)))) (dSeq (dSet 7 (dApp gTuple (dCons (dComp [17] (dRng1 (dCons (dVar 6) dNil)) (dgN 17) dYes (dCall s_law_a_fact DX0 (dCons (dVar 2) (dCons (dVar 4) (dCons (dVar 5) dNil))))) dNil))) (dSeq (dSet 8 (dComp [12] (dIter (dCall s_law_starts PX (dCons (dVar 4) dNil))) (dgN 12) (dB (dCall s_law_goes DX0 (dCons (dVar 4) (dCons (dVar 12) (dCons (dVar 7) dNil))))) (dVar 12))) (dSeq (dIf (dNot (dB (dCall s_law_same PX (dCons (dCall s_left PX (dCons (dVar 4) (dCons (dVar 7) dNil))) (dCons (dVar 8) dNil))))) (dRet (dC (.bl false))) dSkip) (dIf (dNot (dB (dCall s_law_same PX (dCons (dCall s_classes PX (dCons (dVar 4) (dCons (dVar 7) dNil))) (dCons (dCall s_law_lots PX (dCons (dVar 4) (dCons (dVar 8) dNil))) dNil))))) (dRet (dC (.bl false))) dSkip)))))))) (dFor (dIter (dTup (dCons (dC c_left) (dCons (dC c_classes) dNil)))) (dgN 9) (dSeq (dIf (dB (dBin gNe (try_ (fun PX => (dCallV 9 fv PX (dCons (dTup (dCons (dC (.int 0)) (dCons (dTup dNil) dNil))) (dCons (dC .non) dNil))))) (dC (.str "box +")))) (dRet (dC (.bl false))) dSkip) (dSeq (dSet 10 (dLst (dCons (dC .non) (dCons (dLst dNil) (dCons (dTup (dCons (dC (.str "chord")) (dCons (dC (.int 0)) (dCons (dC (.str "a")) dNil)))) (dCons (dTup (dCons (dTup (dCons (dC (.str "chord")) (dCons (dC (.int 0)) (dCons (dC (.str "ba")) dNil)))) dNil)) (dCons (dTup (dCons (dTup (dCons (dC (.str "silent")) (dCons (dC (.int 0)) (dCons (dC (.str "")) dNil)))) dNil)) dNil))))))) (dFor (dIter (dBin gAdd (dVar 10) (dLst (dCons (dTup (dCons (dTup (dCons (dC (.str "sounds")) (dCons (dUn gNeg (dC (.int 1))) (dCons (dC (.str "a")) dNil)))) dNil)) dNil)))) (dgN 11) (dIf (dB (dBin gNe (try_ (fun PX => (dCallV 9 fv PX (dCons (dVar 4) (dCons (dVar 11) dNil))))) (dC (.str "facts +")))) (dRet (dC (.bl false))) dSkip)))))))) (dSeq (dAsg (dCall s_law_known PX dNil) (dgT 4 (dgCons (dgN 12) (dgCons (dgN 13) (dgCons (dgN 14) (dgCons (dgN 15) dgNil)))))) (dSeq (dIf (dB (dBin gNe (dCall s_left PX (dCons (dVar 13) (dCons (dTup (dCons (dTup (dCons (dC (.str "chord")) (dCons (dC (.int 1)) (dCons (dC (.str "b")) dNil)))) dNil)) dNil))) (dLst (dCons (dTup (dCons (dC (.int 0)) (dCons (dC (.int 1)) dNil))) (dCons (dTup (dCons (dC (.int 1)) (dCons (dC (.int 0)) dNil))) (dCons (dTup (dCons (dC (.int 1)) (dCons (dC (.int 1)) dNil))) dNil)))))) (dRet (dC (.bl false))) dSkip) (dSeq (dIf (dB (dBin gNe (dCall s_left PX (dCons (dVar 12) (dCons (dTup (dCons (dTup (dCons (dC (.str "silent")) (dCons (dC (.int 7)) (dCons (dC (.str "a")) dNil)))) dNil)) dNil))) (dLst (dCons (dTup (dCons (dC (.int 0)) dNil)) dNil)))) (dRet (dC (.bl false))) dSkip) (dSeq (dIf (dB (dBin gNe (dCall s_classes PX (dCons (dVar 14) (dCons (dTup dNil) dNil))) (dLst (dCons (dTup (dCons (dTup (dCons (dC (.int 0)) (dCons (dC (.int 0)) dNil))) (dCons (dTup (dCons (dC (.int 0)) (dCons (dC (.int 2)) dNil))) dNil))) (dCons (dTup (dCons (dTup (dCons (dC (.int 0)) (dCons (dC (.int 1)) dNil))) (dCons (dTup (dCons (dC (.int 0)) (dCons (dC (.int 3)) dNil))) dNil))) dNil))))) (dRet (dC (.bl false))) dSkip) (dSeq (dIf (dB (dBin gNe (dCall s_left PX (dCons (dVar 12) (dCons (dTup (dCons (dTup (dCons (dC (.str "chord")) (dCons (dC (.int 0)) (dCons (dC (.str "c")) dNil)))) dNil)) dNil))) (dLst dNil))) (dRet (dC (.bl false))) dSkip) (dSeq (dSet 16 (dTup (dCons (dC (.int 0)) (dCons (dTup (dCons (dTup (dCons (dC (.str "a")) (dCons (dC (.str "")) (dCons (dC (.str "")) (dCons (dC (.str "a")) (dCons (dC (.str "")) (dCons (dC (.str "")) (dCons (dC (.str "b")) dNil)))))))) dNil)) dNil)))) (dRet (dAndV (dBin gEq (dApp gLen (dCons (dCall s_classes PX (dCons (dVar 16) (dCons (dTup dNil) dNil))) dNil)) (dC (.int 7))) (dBin gEq (dCall s_classes PX (dCons (dVar 14) (dCons (dTup (dCons (dTup (dCons (dC (.str "sounds")) (dCons (dC (.int 0)) (dCons (dC (.str "c")) dNil)))) dNil)) dNil))) (dLst (dCons (dTup (dCons (dTup (dCons (dC (.int 0)) (dCons (dC (.int 0)) dNil))) (dCons (dTup (dCons (dC (.int 0)) (dCons (dC (.int 2)) dNil))) dNil))) dNil))))))))))))
def t_law_k07 (s_law_deck : DSp) (s_law_a_box : DSp) (s_law_pick : DSp) (s_law_a_fact : DSp) (s_left : DSp) (s_law_truth : DSp) (s_law_one : DSp) (s_how : DSp) (s_teeth_at : DSp) (s_law_heard : DSp) (s_law_both : DSp) (s_law_known : DSp) (c_teeth_at : D) (c_how : D) (fv : Addr → DSp → Prop) (try_ : (DX → DTE) → DTE) (scr : DTE) (PX : DX) : DTS :=
  (dSeq (dFor (dIter (dSlice scr dNoPart (dPart (dC (.int 10))))) (dgN 1) (dSeq (dSet 2 (dCall s_law_deck PX (dCons (dVar 1) (dCons (dC (.int 7)) dNil)))) (dSeq (dFor (dRng1 (dCons (dC (.int 4)) dNil)) (dgN 3) (dSeq (dSet 4 (dCall s_law_a_box PX (dCons (dVar 2) (dCons (dC (.int 5)) dNil)))) (dSeq (dSet 5 (dApp gTuple (dCons (dComp [22] (dRng1 (dCons (dCall s_law_pick PX (dCons (dVar 2) (dCons (dC (.int 3)) dNil))) dNil)) (dgN 22) dYes (dCall s_law_a_fact DX0 (dCons (dVar 2) (dCons (dVar 4) dNil)))) dNil))) (dSeq (dAsg (dTup (dCons (dCall s_left PX (dCons (dVar 4) (dCons (dVar 5) dNil))) (dCons (dCall s_law_a_fact PX (dCons (dVar 2) (dCons (dVar 4) dNil))) dNil))) (dgT 2 (dgCons (dgN 6) (dgCons (dgN 7) dgNil)))) (dSeq (dSet 8 (dComp [23] (dIter (dVar 6)) (dgN 23) dYes (dCall s_law_truth DX0 (dCons (dVar 4) (dCons (dVar 23) (dCons (dVar 7) dNil)))))) (dSeq (dSet 9 (dCall s_law_one PX (dCons (dVar 2) (dCons (dLst (dCons (dCall s_law_pick PX (dCons (dVar 2) (dCons (dC (.int 12)) dNil))) (dCons (dBin gSub (dBin gPow (dC (.int 10)) (dC (.int 30))) (dCall s_law_pick PX (dCons (dVar 2) (dCons (dC (.int 99)) dNil)))) dNil))) dNil)))) (dSeq (dSet 10 (try_ (fun PX => (dCall s_how PX (dCons (dVar 4) (dCons (dVar 5) (dCons (dVar 7) dNil))))))) (dSeq (dSet 11 (try_ (fun PX => (dCall s_teeth_at PX (dCons (dVar 4) (dCons (dVar 5) (dCons (dVar 9) dNil))))))) (dIf (dB (dBin gEq (dVar 6) (dLst dNil))) (dIf (dOr (dB (dBin gNe (dVar 10) (dC (.str "none +")))) (dB (dBin gNe (dVar 11) (dC (.str "none +"))))) (dRet (dC (.bl false))) dSkip) (dSeq (dSet 12 (dIfE (dB (dBin (gIn true) (dC (.bl false)) (dVar 8))) (dC (.str "sure")) (dIfE (dB (dBin (gIn false) (dC (.bl true)) (dVar 8))) (dC (.str "open")) (dC (.str "never"))))) (dSeq (dSet 13 (dComp [23] (dIter (dVar 6)) (dgN 23) dYes (dCall s_law_heard DX0 (dCons (dVar 4) (dCons (dVar 23) (dCons (dVar 9) dNil)))))) (dIf (dOr (dB (dBin gNe (dVar 10) (dTup (dCons (dC (.str "told")) (dCons (dVar 12) dNil))))) (dB (dBin gNe (dVar 11) (dTup (dCons (dC (.str "told")) (dCons (dCall s_law_both PX (dCons (dVar 13) dNil)) dNil)))))) (dRet (dC (.bl false))) dSkip)))))))))))) (dSeq (dSet 14 (dTup (dCons (dTup (dCons (dC (.str "sounds")) (dCons (dC (.int 0)) (dCons (dC (.str "a")) dNil)))) (dCons (dTup (dCons (dC (.str "silent")) (dCons (dC (.int 0)) (dCons (dC (.str "a")) dNil)))) dNil)))) (dSeq (dFor (dIter (dLst (dCons (dC .non) (dCons (dTup dNil) (dCons (dTup (dCons (dC (.str "chord")) (dCons (dC (.int 0)) dNil))) (dCons (dTup (dCons (dC (.str "sounds")) (dCons (dC (.int 0)) (dCons (dC (.str "ab")) dNil)))) (dCons (dTup (dCons (dTup (dCons (dC (.str "chord")) (dCons (dC (.int 0)) (dCons (dC (.str "a")) dNil)))) dNil)) dNil))))))) (dgN 15) (dIf (dB (dBin gNe (try_ (fun PX => (dCall s_how PX (dCons (dVar 4) (dCons (dVar 14) (dCons (dVar 15) dNil)))))) (dC (.str "facts +")))) (dRet (dC (.bl false))) dSkip)) (dSeq (dFor (dIter (dLst (dCons (dC .non) (dCons (dUn gNeg (dC (.int 1))) (dCons (dBin gAdd (dBin gPow (dC (.int 10)) (dC (.int 30))) (dC (.int 1))) (dCons (dC (.bl true)) dNil)))))) (dgN 15) (dIf (dB (dBin gNe (try_ (fun PX => (dCall s_teeth_at PX (dCons (dVar 4) (dCons (dVar 14) (dCons (dVar 15) dNil)))))) (dC (.str "tick +")))) (dRet (dC (.bl false))) dSkip)) (dFor (dIter (dTup (dCons (dC c_how) (dCons (dC c_teeth_at) dNil)))) (dgN 16) (dSeq (dIf (dB (dBin gNe (try_ (fun PX => (dCallV 16 fv PX (dCons (dC .non) (dCons (dC .non) (dCons (dC .non) dNil)))))) (dC (.str "box +")))) (dRet (dC (.bl false))) dSkip) (dIf (dB (dBin gNe (try_ (fun PX => (dCallV 16 fv PX (dCons (dVar 4) (dCons (dLst dNil) (dCons (dC .non) dNil)))))) (dC (.str "facts +")))) (dRet (dC (.bl false))) dSkip))))))))) (dSeq (dAsg (dCall s_law_known PX dNil) (dgT 4 (dgCons (dgN 17) (dgCons (dgN 18) (dgCons (dgN 19) (dgCons (dgN 20) dgNil)))))) (dSeq (dSet 21 (dTup (dCons (dTup (dCons (dC (.str "chord")) (dCons (dC (.int 1)) (dCons (dC (.str "b")) dNil)))) dNil))) (dSeq (dSet 6 (dLst (dCons (dTup (dCons (dC (.str "sounds")) (dCons (dC (.int 0)) (dCons (dC (.str "a")) dNil)))) (dCons (dTup (dCons (dC (.str "silent")) (dCons (dC (.int 0)) (dCons (dC (.str "c")) dNil)))) (dCons (dTup (dCons (dC (.str "chord")) (dCons (dC (.int 1)) (dCons (dC (.str "")) dNil)))) (dCons (dTup (dCons (dC (.str "sounds")) (dCons (dC (.int 1)) (dCons (dC (.str "b")) dNil)))) dNil)))))) (dSeq (dIf (dB (dBin gNe (dComp [7] (dIter (dVar 6)) (dgN 7) dYes (dCall s_how DX0 (dCons (dVar 18) (dCons (dVar 21) (dCons (dVar 7) dNil))))) (dLst (dCons (dC (.str "open")) (dCons (dC (.str "sure")) (dCons (dC (.str "never")) (dCons (dC (.str "sure")) dNil))))))) (dRet (dC (.bl false))) dSkip) (dRet (dAndV (dBin gEq (dCall s_teeth_at PX (dCons (dVar 18) (dCons (dVar 21) (dCons (dC (.int 2)) dNil)))) (dTup (dCons (dC (.str "")) (dCons (dC (.str "ab")) dNil)))) (dBin gEq (dCall s_teeth_at PX (dCons (dVar 19) (dCons (dTup dNil) (dCons (dC (.int 5)) dNil)))) (dTup (dCons (dC (.str "ab")) (dCons (dC (.str "abc")) dNil)))))))))))
def t_need_beginning (s_begins : DSp) (e_InvalidBeginning : Addr) (PX : DX) : DTS :=
  (dIf (dNot (dB (dCall s_begins PX (dCons (dVar 0) (dCons (dVar 1) dNil))))) (dRaise PX (.ref e_InvalidBeginning)) dSkip)
def t_need_tick (s_is_within : DSp) (c_GREAT : D) (e_InvalidTick : Addr) (PX : DX) : DTS :=
  (dIf (dNot (dB (dCall s_is_within PX (dCons (dVar 0) (dCons (dC (.int 0)) (dCons (dC c_GREAT) dNil)))))) (dRaise PX (.ref e_InvalidTick)) dSkip)
def t_items_at (PX : DX) : DTS :=
  (dRet (dComp [3, 4] (dZip (dCons (dVar 1) (dCons (dBin gIx (dVar 0) (dC (.int 1))) dNil))) (dgT 2 (dgCons (dgN 3) (dgCons (dgN 4) dgNil))) dYes (dBin gIx (dVar 4) (dBin gMod (dBin gAdd (dVar 3) (dVar 2)) (dApp gLen (dCons (dVar 4) dNil))))))
def t_chord_at (s_items_at : DSp) (c_TEETH : D) (PX : DX) : DTS :=
  (dSeq (dSet 3 (dJoin (dC (.str "")) (dCall s_items_at PX (dCons (dVar 0) (dCons (dVar 1) (dCons (dVar 2) dNil)))))) (dRet (dJoin (dC (.str "")) (dComp [4] (dIter (dC c_TEETH)) (dgN 4) (dB (dBin (gIn false) (dVar 4) (dVar 3))) (dVar 4)))))
def t_need_number (s_is_within : DSp) (e_InvalidNumber : Addr) (PX : DX) : DTS :=
  (dIf (dNot (dB (dCall s_is_within PX (dCons (dVar 0) (dCons (dC (.int 0)) (dCons (dVar 1) dNil)))))) (dRaise PX (.ref e_InvalidNumber)) dSkip)
def t_chord (s_need_box : DSp) (s_need_beginning : DSp) (s_need_tick : DSp) (s_chord_at : DSp) (PX : DX) : DTS :=
  (dSeq (dExpr (dCall s_need_box PX (dCons (dVar 0) dNil))) (dSeq (dExpr (dCall s_need_beginning PX (dCons (dVar 0) (dCons (dVar 1) dNil)))) (dSeq (dExpr (dCall s_need_tick PX (dCons (dVar 2) dNil))) (dRet (dCall s_chord_at PX (dCons (dVar 0) (dCons (dVar 1) (dCons (dVar 2) dNil))))))))
def t_chords (s_need_box : DSp) (s_need_beginning : DSp) (s_need_tick : DSp) (s_need_number : DSp) (s_chord_at : DSp) (PX : DX) : DTS :=
  (dSeq (dExpr (dCall s_need_box PX (dCons (dVar 0) dNil))) (dSeq (dExpr (dCall s_need_beginning PX (dCons (dVar 0) (dCons (dVar 1) dNil)))) (dSeq (dExpr (dCall s_need_tick PX (dCons (dVar 2) dNil))) (dSeq (dExpr (dCall s_need_number PX (dCons (dVar 3) (dCons (dC (.int 100)) dNil)))) (dRet (dComp [4] (dRng1 (dCons (dVar 3) dNil)) (dgN 4) dYes (dCall s_chord_at DX0 (dCons (dVar 0) (dCons (dVar 1) (dCons (dBin gAdd (dVar 2) (dVar 4)) dNil))))))))))
def t_law_plucks (PX : DX) : DTS :=
  (dSeq (dSet 3 (dLst dNil)) (dSeq (dFor (dRng1 (dCons (dApp gLen (dCons (dVar 1) dNil)) dNil)) (dgN 4) (dSeq (dSet 5 (dBin gIx (dBin gIx (dVar 0) (dC (.int 1))) (dVar 4))) (dSet 3 (dBin gAdd (dVar 3) (dApp gList (dCons (dBin gIx (dVar 5) (dBin gMod (dApp gInt1 (dCons (dBin gAdd (dBin gIx (dVar 1) (dVar 4)) (dVar 2)) dNil)) (dApp gLen (dCons (dVar 5) dNil)))) dNil)))))) (dRet (dApp gSorted (dCons (dVar 3) dNil)))))
def t_law_heard (s_law_plucks : DSp) (PX : DX) : DTS :=
  (dRet (dJoin (dC (.str "")) (dSrtSet (dCall s_law_plucks PX (dCons (dVar 0) (dCons (dVar 1) (dCons (dVar 2) dNil)))))))
def t_need_tooth (s_is_tooth : DSp) (e_InvalidTooth : Addr) (PX : DX) : DTS :=
  (dIf (dNot (dB (dCall s_is_tooth PX (dCons (dVar 0) dNil)))) (dRaise PX (.ref e_InvalidTooth)) dSkip)
def t_tune_of (s_period_of : DSp) (s_chord_at : DSp) (PX : DX) : DTS :=
  (dRet (dApp gTuple (dCons (dComp [2] (dRng1 (dCons (dCall s_period_of PX (dCons (dVar 0) dNil)) dNil)) (dgN 2) dYes (dCall s_chord_at DX0 (dCons (dVar 0) (dCons (dVar 1) (dCons (dVar 2) dNil))))) dNil)))
def t_tune_of_H (s_period_of : DSp) (s_chord_at : DSp) (PX : DX) : DTS :=
  (dRet (dApp gTupleT (dCons (dComp [2] (dRng1 (dCons (dCall s_period_of PX (dCons (dVar 0) dNil)) dNil)) (dgN 2) dYes (dCall s_chord_at DX0 (dCons (dVar 0) (dCons (dVar 1) (dCons (dVar 2) dNil))))) dNil)))
def t_ticks_of (s_tune_of : DSp) (PX : DX) : DTS :=
  (dRet (dComp [3, 4] (dEnum (dCons (dCall s_tune_of PX (dCons (dVar 0) (dCons (dVar 1) dNil))) dNil)) (dgT 2 (dgCons (dgN 3) (dgCons (dgN 4) dgNil))) (dB (dBin (gIn false) (dVar 2) (dVar 4))) (dVar 3)))
def t_count_sounds (s_need_box : DSp) (s_need_beginning : DSp) (s_need_tooth : DSp) (s_need_number : DSp) (s_period_of : DSp) (s_ticks_of : DSp) (c_GREAT : D) (PX : DX) : DTS :=
  (dSeq (dExpr (dCall s_need_box PX (dCons (dVar 0) dNil))) (dSeq (dExpr (dCall s_need_beginning PX (dCons (dVar 0) (dCons (dVar 1) dNil)))) (dSeq (dExpr (dCall s_need_tooth PX (dCons (dVar 2) dNil))) (dSeq (dExpr (dCall s_need_number PX (dCons (dVar 3) (dCons (dC c_GREAT) dNil)))) (dSeq (dAsg (dTup (dCons (dCall s_ticks_of PX (dCons (dVar 0) (dCons (dVar 1) (dCons (dVar 2) dNil)))) (dCons (dCall s_period_of PX (dCons (dVar 0) dNil)) dNil))) (dgT 2 (dgCons (dgN 4) (dgCons (dgN 5) dgNil)))) (dRet (dBin gAdd (dBin gMul (dBin gDiv (dVar 3) (dVar 5)) (dApp gLen (dCons (dVar 4) dNil))) (dApp gLen (dCons (dComp [6] (dIter (dVar 4)) (dgN 6) (dB (dBin gLt (dVar 6) (dBin gMod (dVar 3) (dVar 5)))) (dVar 6)) dNil)))))))))
def t_nth_sound (s_need_box : DSp) (s_need_beginning : DSp) (s_need_tooth : DSp) (s_need_number : DSp) (s_ticks_of : DSp) (s_period_of : DSp) (c_GREAT : D) (PX : DX) : DTS :=
  (dSeq (dExpr (dCall s_need_box PX (dCons (dVar 0) dNil))) (dSeq (dExpr (dCall s_need_beginning PX (dCons (dVar 0) (dCons (dVar 1) dNil)))) (dSeq (dExpr (dCall s_need_tooth PX (dCons (dVar 2) dNil))) (dSeq (dExpr (dCall s_need_number PX (dCons (dVar 3) (dCons (dC c_GREAT) dNil)))) (dSeq (dSet 4 (dCall s_ticks_of PX (dCons (dVar 0) (dCons (dVar 1) (dCons (dVar 2) dNil))))) (dSeq (dIf (dB (dBin gEq (dVar 4) (dLst dNil))) (dRet (dC .non)) dSkip) (dRet (dBin gAdd (dBin gMul (dBin gDiv (dVar 3) (dApp gLen (dCons (dVar 4) dNil))) (dCall s_period_of PX (dCons (dVar 0) dNil))) (dBin gIx (dVar 4) (dBin gMod (dVar 3) (dApp gLen (dCons (dVar 4) dNil))))))))))))
def t_law_ticks (s_law_heard : DSp) (PX : DX) : DTS :=
  (dRet (dComp [4] (dRng1 (dCons (dVar 3) dNil)) (dgN 4) (dB (dBin (gIn false) (dVar 2) (dCall s_law_heard DX0 (dCons (dVar 0) (dCons (dVar 1) (dCons (dVar 4) dNil)))))) (dVar 4)))
def t_law_good_k04 (s_law_starts : DSp) (s_law_clashes : DSp) (s_law_size : DSp) (s_law_same : DSp) (s_first_clash : DSp) (s_law_share : DSp) (s_clash_share : DSp) (s_clean : DSp) (s_least_share : DSp) (PX : DX) : DTS :=
  (dSeq (dPar 1 2 (dCons (dLst dNil) (dCons (dLstH dNil) dNil))) (dSeq (dFor (dIter (dCall s_law_starts PX (dCons (dVar 0) dNil))) (dgN 3) (dSeq (dSet 4 (dCall s_law_clashes PX (dCons (dVar 0) (dCons (dVar 3) (dCons (dBin gAdd (dBin gMul (dC (.int 2)) (dCall s_law_size PX (dCons (dVar 0) dNil))) (dC (.int 3))) dNil))))) (dSeq (dSet 1 (dBin gAdd (dVar 1) (dIfE (dB (dBin gEq (dVar 4) (dLst dNil))) (dLst (dCons (dVar 3) dNil)) (dLst dNil)))) (dSeq (dIf (dNot (dB (dCall s_law_same PX (dCons (dCall s_first_clash PX (dCons (dVar 0) (dCons (dVar 3) dNil))) (dCons (dIfE (dB (dBin gNe (dVar 4) (dLst dNil))) (dBin gIx (dVar 4) (dC (.int 0))) (dC .non)) dNil))))) (dRet (dC (.bl false))) dSkip) (dSeq (dSet 5 (dCall s_law_share PX (dCons (dVar 0) (dCons (dVar 3) dNil)))) (dSeq (dExpr (dAppend (dVar 2) (dTup (dCons (dBin gDiv (dBin gMul (dBin gIx (dVar 5) (dC (.int 0))) (dCall s_law_size PX (dCons (dVar 0) dNil))) (dBin gIx (dVar 5) (dC (.int 1)))) (dCons (dVar 3) (dCons (dVar 5) dNil)))))) (dIf (dNot (dB (dCall s_law_same PX (dCons (dCall s_clash_share PX (dCons (dVar 0) (dCons (dVar 3) dNil))) (dCons (dVar 5) dNil))))) (dRet (dC (.bl false))) dSkip))))))) (dSeq (dFrz 2 (dSet 6 (dApp gMinD (dCons (dVar 2) dNil)))) (dSeq (dSet 7 (dTup (dCons (dBin gIx (dVar 6) (dC (.int 2))) (dCons (dComp [8] (dIter (dVar 2)) (dgN 8) (dB (dBin gEq (dBin gIx (dVar 8) (dC (.int 0))) (dBin gIx (dVar 6) (dC (.int 0))))) (dBin gIx (dVar 8) (dC (.int 1)))) dNil)))) (dRet (dAndV (dCall s_law_same PX (dCons (dCall s_clean PX (dCons (dVar 0) dNil)) (dCons (dVar 1) dNil))) (dCall s_law_same PX (dCons (dCall s_least_share PX (dCons (dVar 0) dNil)) (dCons (dVar 7) dNil)))))))))
def t_law_good_k05 (s_law_starts : DSp) (s_law_quiet : DSp) (s_law_same : DSp) (s_silence : DSp) (s_law_heard : DSp) (s_fullest : DSp) (s_longest_silence : DSp) (PX : DX) : DTS :=
  (dSeq (dPar3 1 2 3 (dCons (dLstH dNil) (dCons (dC (.int 0)) (dCons (dC .non) dNil)))) (dSeq (dFor (dIter (dCall s_law_starts PX (dCons (dVar 0) dNil))) (dgN 4) (dSeq (dSet 5 (dCall s_law_quiet PX (dCons (dVar 0) (dCons (dVar 4) dNil)))) (dSeq (dIf (dNot (dB (dCall s_law_same PX (dCons (dCall s_silence PX (dCons (dVar 0) (dCons (dVar 4) dNil))) (dCons (dVar 5) dNil))))) (dRet (dC (.bl false))) dSkip) (dSeq (dExpr (dAppend (dVar 1) (dTup (dCons (dVar 5) (dCons (dVar 4) dNil))))) (dSeq (dSet 6 (dApp gLen (dCons (dCall s_law_heard PX (dCons (dVar 0) (dCons (dVar 4) (dCons (dC (.int 0)) dNil)))) dNil))) (dIf (dOr (dB (dBin gIsN (dVar 3) (dC .non))) (dB (dBin gGt (dVar 6) (dVar 2)))) (dPar 2 3 (dCons (dVar 6) (dCons (dVar 4) dNil))) dSkip)))))) (dSeq (dIf (dNot (dB (dCall s_law_same PX (dCons (dCall s_fullest PX (dCons (dVar 0) dNil)) (dCons (dTup (dCons (dVar 2) (dCons (dVar 3) dNil))) dNil))))) (dRet (dC (.bl false))) dSkip) (dSeq (dSet 7 (dC .non)) (dSeq (dFrz 1 (dIf (dB (dBin gNotN (dBin gIx (dBin gIx (dVar 1) (dC (.int 0))) (dC (.int 0))) (dC .non))) (dSeq (dSet 8 (dApp gMax (dCons (dComp [5, 4] (dIter (dVar 1)) (dgT 2 (dgCons (dgN 5) (dgCons (dgN 4) dgNil))) dYes (dVar 5)) dNil))) (dSet 7 (dTup (dCons (dVar 8) (dCons (dComp [5, 4] (dIter (dVar 1)) (dgT 2 (dgCons (dgN 5) (dgCons (dgN 4) dgNil))) (dB (dBin gEq (dVar 5) (dVar 8))) (dVar 4)) dNil))))) dSkip)) (dRet (dCall s_law_same PX (dCons (dCall s_longest_silence PX (dCons (dVar 0) dNil)) (dCons (dVar 7) dNil)))))))))
def t_is_clash (s_items_at : DSp) (s_chord_at : DSp) (PX : DX) : DTS :=
  (dSeq (dSet 3 (dJoin (dC (.str "")) (dCall s_items_at PX (dCons (dVar 0) (dCons (dVar 1) (dCons (dVar 2) dNil)))))) (dSeq (dIf (dB (dBin gGt (dApp gLen (dCons (dVar 3) dNil)) (dLenSet (dVar 3)))) (dRet (dC (.bl true))) dSkip) (dSeq (dSet 4 (dComp [5] (dRng2 (dCons (dApp gMax2 (dCons (dC (.int 0)) (dCons (dBin gSub (dVar 2) (dBin gIx (dVar 0) (dC (.int 0)))) dNil))) (dCons (dVar 2) dNil))) (dgN 5) dYes (dCall s_chord_at DX0 (dCons (dVar 0) (dCons (dVar 1) (dCons (dVar 5) dNil)))))) (dRet (dApp gAny (dCons (dComp2 [6, 7] [7] (dIter (dVar 3)) (dgN 6) dYes (dIter (dVar 4)) (dgN 7) dYes (dBin (gIn false) (dVar 6) (dVar 7))) dNil))))))
def t_first_of (s_period_of : DSp) (s_is_clash : DSp) (PX : DX) : DTS :=
  (dSeq (dFor (dRng1 (dCons (dBin gAdd (dCall s_period_of PX (dCons (dVar 0) dNil)) (dBin gIx (dVar 0) (dC (.int 0)))) dNil)) (dgN 2) (dIf (dB (dCall s_is_clash PX (dCons (dVar 0) (dCons (dVar 1) (dCons (dVar 2) dNil))))) (dRet (dVar 2)) dSkip)) (dRet (dC .non)))
def t_share_of (s_period_of : DSp) (s_is_clash : DSp) (s_gcd : DSp) (PX : DX) : DTS :=
  (dSeq (dSet 2 (dCall s_period_of PX (dCons (dVar 0) dNil))) (dSeq (dSet 3 (dApp gLen (dCons (dComp [5] (dRng1 (dCons (dVar 2) dNil)) (dgN 5) (dB (dCall s_is_clash DX0 (dCons (dVar 0) (dCons (dVar 1) (dCons (dBin gAdd (dBin gAdd (dBin gMul (dC (.int 3)) (dVar 2)) (dC (.int 3))) (dVar 5)) dNil))))) (dC (.int 1))) dNil))) (dSeq (dSet 4 (dCall s_gcd PX (dCons (dVar 3) (dCons (dVar 2) dNil)))) (dRet (dTup (dCons (dBin gDiv (dVar 3) (dVar 4)) (dCons (dBin gDiv (dVar 2) (dVar 4)) dNil)))))))
def t_first_clash (s_need_box : DSp) (s_need_beginning : DSp) (s_first_of : DSp) (PX : DX) : DTS :=
  (dSeq (dExpr (dCall s_need_box PX (dCons (dVar 0) dNil))) (dSeq (dExpr (dCall s_need_beginning PX (dCons (dVar 0) (dCons (dVar 1) dNil)))) (dRet (dCall s_first_of PX (dCons (dVar 0) (dCons (dVar 1) dNil))))))
def t_clean_ones (s_all_beginnings : DSp) (s_first_of : DSp) (PX : DX) : DTS :=
  (dRet (dComp [1] (dIter (dCall s_all_beginnings PX (dCons (dVar 0) dNil))) (dgN 1) (dB (dBin gIsN (dCall s_first_of DX0 (dCons (dVar 0) (dCons (dVar 1) dNil))) (dC .non))) (dVar 1)))
def t_clean (s_need_box : DSp) (s_clean_ones : DSp) (PX : DX) : DTS :=
  (dSeq (dExpr (dCall s_need_box PX (dCons (dVar 0) dNil))) (dRet (dCall s_clean_ones PX (dCons (dVar 0) dNil))))
def t_clash_share (s_need_box : DSp) (s_need_beginning : DSp) (s_share_of : DSp) (PX : DX) : DTS :=
  (dSeq (dExpr (dCall s_need_box PX (dCons (dVar 0) dNil))) (dSeq (dExpr (dCall s_need_beginning PX (dCons (dVar 0) (dCons (dVar 1) dNil)))) (dRet (dCall s_share_of PX (dCons (dVar 0) (dCons (dVar 1) dNil))))))
def t_least_share (s_need_box : DSp) (s_period_of : DSp) (s_all_beginnings : DSp) (s_share_of : DSp) (PX : DX) : DTS :=
  (dSeq (dExpr (dCall s_need_box PX (dCons (dVar 0) dNil))) (dSeq (dSet 1 (dCall s_period_of PX (dCons (dVar 0) dNil))) (dSeq (dSet 2 (dComp [5] (dIter (dCall s_all_beginnings PX (dCons (dVar 0) dNil))) (dgN 5) dYes (dTup (dCons (dCall s_share_of DX0 (dCons (dVar 0) (dCons (dVar 5) dNil))) (dCons (dVar 5) dNil))))) (dSeq (dSet 3 (dApp gMin (dCons (dComp [6, 7, 5] (dIter (dVar 2)) (dgT 2 (dgCons (dgT 2 (dgCons (dgN 6) (dgCons (dgN 7) dgNil))) (dgCons (dgN 5) dgNil))) dYes (dBin gDiv (dBin gMul (dVar 6) (dVar 1)) (dVar 7))) dNil))) (dSeq (dSet 4 (dComp [8] (dIter (dVar 2)) (dgN 8) (dB (dBin gEq (dBin gDiv (dBin gMul (dBin gIx (dBin gIx (dVar 8) (dC (.int 0))) (dC (.int 0))) (dVar 1)) (dBin gIx (dBin gIx (dVar 8) (dC (.int 0))) (dC (.int 1)))) (dVar 3))) (dVar 8))) (dRet (dTup (dCons (dBin gIx (dBin gIx (dVar 4) (dC (.int 0))) (dC (.int 0))) (dCons (dComp [9, 5] (dIter (dVar 4)) (dgT 2 (dgCons (dgN 9) (dgCons (dgN 5) dgNil))) dYes (dVar 5)) dNil)))))))))
def t_law_clashes (s_law_plucks : DSp) (PX : DX) : DTS :=
  (dSeq (dAsg (dTup (dCons (dLstH dNil) (dCons dNewK dNil))) (dgT 2 (dgCons (dgN 3) (dgCons (dgN 4) dgNil)))) (dSeq (dFor (dRng1 (dCons (dVar 2) dNil)) (dgN 5) (dSeq (dSet 6 (dCall s_law_plucks PX (dCons (dVar 0) (dCons (dVar 1) (dCons (dVar 5) dNil))))) (dSeq (dSet 7 (dComp [8] (dIter (dVar 6)) (dgN 8) (dOr (dB (dBin gGt (dCount (dVar 6) (dVar 8)) (dC (.int 1)))) (dB (dBin gLe (dBin gSub (dVar 5) (dGet2 (dVar 4) (dVar 8) (dUn gNeg (dC (.int 9))))) (dBin gIx (dVar 0) (dC (.int 0)))))) (dVar 8))) (dSeq (dIf (dB (dBin gNe (dVar 7) (dLst dNil))) (dExpr (dAppend (dVar 3) (dVar 5))) dSkip) (dFor (dIter (dVar 6)) (dgN 8) (dDPut (dVar 4) (dVar 8) (dVar 5))))))) (dFrz 3 (dRetD (dVar 3)))))
def t_law_share (s_law_size : DSp) (s_law_clashes : DSp) (PX : DX) : DTS :=
  (dSeq (dSet 2 (dCall s_law_size PX (dCons (dVar 0) dNil))) (dSeq (dSet 3 (dApp gLen (dCons (dComp [4] (dIter (dCall s_law_clashes PX (dCons (dVar 0) (dCons (dVar 1) (dCons (dBin gAdd (dBin gMul (dC (.int 6)) (dVar 2)) (dC (.int 6))) dNil))))) (dgN 4) (dB (dBin gLt (dBin gAdd (dBin gMul (dC (.int 5)) (dVar 2)) (dC (.int 5))) (dVar 4))) (dVar 4)) dNil))) (dSeq (dPar 4 5 (dCons (dVar 3) (dCons (dVar 2) dNil))) (dSeq (dWhile (dB (dBin gNe (dVar 5) (dC (.int 0)))) (dPar 4 5 (dCons (dVar 5) (dCons (dBin gMod (dVar 4) (dVar 5)) dNil)))) (dRet (dTup (dCons (dBin gDiv (dVar 3) (dVar 4)) (dCons (dBin gDiv (dVar 2) (dVar 4)) dNil))))))))
def t_silence_of (s_tune_of : DSp) (PX : DX) : DTS :=
  (dSeq (dSet 2 (dCall s_tune_of PX (dCons (dVar 0) (dCons (dVar 1) dNil)))) (dSeq (dIf (dB (dBin gEq (dJoin (dC (.str "")) (dVar 2)) (dC (.str "")))) (dRet (dC .non)) dSkip) (dSeq (dAsg (dTup (dCons (dC (.int 0)) (dCons (dC (.int 0)) dNil))) (dgT 2 (dgCons (dgN 3) (dgCons (dgN 4) dgNil)))) (dSeq (dFor (dIter (dBin gAdd (dVar 2) (dVar 2))) (dgN 5) (dSeq (dSet 4 (dIfE (dB (dBin gEq (dVar 5) (dC (.str "")))) (dBin gAdd (dVar 4) (dC (.int 1))) (dC (.int 0)))) (dSet 3 (dApp gMax2 (dCons (dVar 3) (dCons (dVar 4) dNil)))))) (dRet (dVar 3))))))
def t_silence (s_need_box : DSp) (s_need_beginning : DSp) (s_silence_of : DSp) (PX : DX) : DTS :=
  (dSeq (dExpr (dCall s_need_box PX (dCons (dVar 0) dNil))) (dSeq (dExpr (dCall s_need_beginning PX (dCons (dVar 0) (dCons (dVar 1) dNil)))) (dRet (dCall s_silence_of PX (dCons (dVar 0) (dCons (dVar 1) dNil))))))
def t_longest_silence (s_need_box : DSp) (s_all_beginnings : DSp) (s_silence_of : DSp) (PX : DX) : DTS :=
  (dSeq (dExpr (dCall s_need_box PX (dCons (dVar 0) dNil))) (dSeq (dSet 1 (dComp [3] (dIter (dCall s_all_beginnings PX (dCons (dVar 0) dNil))) (dgN 3) dYes (dTup (dCons (dCall s_silence_of DX0 (dCons (dVar 0) (dCons (dVar 3) dNil))) (dCons (dVar 3) dNil))))) (dSeq (dIf (dB (dBin gIsN (dBin gIx (dBin gIx (dVar 1) (dC (.int 0))) (dC (.int 0))) (dC .non))) (dRet (dC .non)) dSkip) (dSeq (dSet 2 (dApp gMax (dCons (dComp [4, 3] (dIter (dVar 1)) (dgT 2 (dgCons (dgN 4) (dgCons (dgN 3) dgNil))) dYes (dVar 4)) dNil))) (dRet (dTup (dCons (dVar 2) (dCons (dComp [4, 3] (dIter (dVar 1)) (dgT 2 (dgCons (dgN 4) (dgCons (dgN 3) dgNil))) (dB (dBin gEq (dVar 4) (dVar 2))) (dVar 3)) dNil))))))))
def t_fullest (s_need_box : DSp) (s_all_beginnings : DSp) (s_chord_at : DSp) (PX : DX) : DTS :=
  (dSeq (dExpr (dCall s_need_box PX (dCons (dVar 0) dNil))) (dSeq (dSet 1 (dComp [3] (dIter (dCall s_all_beginnings PX (dCons (dVar 0) dNil))) (dgN 3) dYes (dTup (dCons (dApp gLen (dCons (dCall s_chord_at DX0 (dCons (dVar 0) (dCons (dVar 3) (dCons (dC (.int 0)) dNil)))) dNil)) (dCons (dVar 3) dNil))))) (dSeq (dSet 2 (dApp gMax (dCons (dComp [4, 3] (dIter (dVar 1)) (dgT 2 (dgCons (dgN 4) (dgCons (dgN 3) dgNil))) dYes (dVar 4)) dNil))) (dRet (dTup (dCons (dVar 2) (dCons (dBin gIx (dComp [4, 3] (dIter (dVar 1)) (dgT 2 (dgCons (dgN 4) (dgCons (dgN 3) dgNil))) (dB (dBin gEq (dVar 4) (dVar 2))) (dVar 3)) (dC (.int 0))) dNil)))))))
def t_law_tune (s_law_heard : DSp) (PX : DX) : DTS :=
  (dRet (dApp gTuple (dCons (dComp [3] (dRng1 (dCons (dVar 2) dNil)) (dgN 3) dYes (dCall s_law_heard DX0 (dCons (dVar 0) (dCons (dVar 1) (dCons (dVar 3) dNil))))) dNil)))
def t_law_quiet (s_law_tune : DSp) (s_law_size : DSp) (PX : DX) : DTS :=
  (dSeq (dSet 2 (dCall s_law_tune PX (dCons (dVar 0) (dCons (dVar 1) (dCons (dBin gMul (dC (.int 3)) (dCall s_law_size PX (dCons (dVar 0) dNil))) dNil))))) (dSeq (dSet 3 (dJoin (dC (.str "")) (dComp [4] (dIter (dVar 2)) (dgN 4) dYes (dIfE (dB (dBin gEq (dVar 4) (dC (.str "")))) (dC (.str ".")) (dC (.str "#")))))) (dSeq (dIf (dB (dBin (gIn true) (dC (.str "#")) (dVar 3))) (dRet (dC .non)) dSkip) (dRet (dApp gMax (dCons (dComp [5] (dIter (dSplit (dVar 3) (dC (.str "#")))) (dgN 5) dYes (dApp gLen (dCons (dVar 5) dNil))) dNil))))))
def t_need_facts (s_are_facts_value : DSp) (e_InvalidFacts : Addr) (PX : DX) : DTS :=
  (dIf (dNot (dB (dCall s_are_facts_value PX (dCons (dVar 0) dNil)))) (dRaise PX (.ref e_InvalidFacts)) dSkip)
def t_is_so (s_chord_at : DSp) (PX : DX) : DTS :=
  (dSeq (dAsg (dVar 2) (dgT 3 (dgCons (dgN 3) (dgCons (dgN 4) (dgCons (dgN 5) dgNil))))) (dSeq (dSet 6 (dCall s_chord_at PX (dCons (dVar 0) (dCons (dVar 1) (dCons (dVar 4) dNil))))) (dSeq (dIf (dB (dBin gEq (dVar 3) (dC (.str "chord")))) (dRet (dBin gEq (dVar 6) (dVar 5))) dSkip) (dRet (dBin gEq (dBin (gIn false) (dVar 5) (dVar 6)) (dBin gEq (dVar 3) (dC (.str "sounds"))))))))
def t_left_ones (s_all_beginnings : DSp) (s_is_so : DSp) (PX : DX) : DTS :=
  (dRet (dComp [2] (dIter (dCall s_all_beginnings PX (dCons (dVar 0) dNil))) (dgN 2) (dB (dApp gAll (dCons (dComp [3] (dIter (dVar 1)) (dgN 3) dYes (dCall s_is_so DX0 (dCons (dVar 0) (dCons (dVar 2) (dCons (dVar 3) dNil))))) dNil))) (dVar 2)))
def t_classes_of (s_tune_of_H : DSp) (PX : DX) : DTS :=
  (dSeq (dSet 2 dNewT) (dSeq (dFor (dIter (dVar 1)) (dgN 3) (dSeq (dSet 4 (dCall s_tune_of_H PX (dCons (dVar 0) (dCons (dVar 3) dNil)))) (dDPut (dVar 2) (dVar 4) (dBin gAdd (dGet2 (dVar 2) (dVar 4) (dTup dNil)) (dTup (dCons (dVar 3) dNil)))))) (dRetD (dSrtVals (dVar 2)))))
def t_left (s_need_box : DSp) (s_need_facts : DSp) (s_left_ones : DSp) (PX : DX) : DTS :=
  (dSeq (dExpr (dCall s_need_box PX (dCons (dVar 0) dNil))) (dSeq (dExpr (dCall s_need_facts PX (dCons (dVar 1) dNil))) (dRet (dCall s_left_ones PX (dCons (dVar 0) (dCons (dVar 1) dNil))))))
def t_classes (s_need_box : DSp) (s_need_facts : DSp) (s_classes_of : DSp) (s_left_ones : DSp) (PX : DX) : DTS :=
  (dSeq (dExpr (dCall s_need_box PX (dCons (dVar 0) dNil))) (dSeq (dExpr (dCall s_need_facts PX (dCons (dVar 1) dNil))) (dRet (dCall s_classes_of PX (dCons (dVar 0) (dCons (dCall s_left_ones PX (dCons (dVar 0) (dCons (dVar 1) dNil))) dNil))))))
def t_law_a_fact_k06 (s_law_one : DSp) (s_law_pick : DSp) (s_law_heard : DSp) (s_law_some_teeth : DSp) (PX : DX) : DTS :=
  (dSeq (dSet 3 (dCall s_law_one PX (dCons (dVar 0) (dCons (dLst (dCons (dCall s_law_pick PX (dCons (dVar 0) (dCons (dC (.int 9)) dNil))) (dCons (dBin gSub (dBin gPow (dC (.int 10)) (dC (.int 30))) (dCall s_law_pick PX (dCons (dVar 0) (dCons (dC (.int 99)) dNil)))) dNil))) dNil)))) (dSeq (dSet 4 (dCall s_law_heard PX (dCons (dVar 1) (dCons (dVar 2) (dCons (dVar 3) dNil))))) (dSeq (dIf (dB (dBin gEq (dCall s_law_pick PX (dCons (dVar 0) (dCons (dC (.int 6)) dNil))) (dC (.int 0)))) (dRet (dTup (dCons (dC (.str "chord")) (dCons (dVar 3) (dCons (dCall s_law_some_teeth PX (dCons (dVar 0) dNil)) dNil))))) dSkip) (dSeq (dSet 5 (dCall s_law_one PX (dCons (dVar 0) (dCons (dLst (dCons (dC (.str "a")) (dCons (dC (.str "b")) (dCons (dC (.str "c")) (dCons (dC (.str "d")) dNil))))) dNil)))) (dSeq (dIf (dB (dBin gEq (dCall s_law_pick PX (dCons (dVar 0) (dCons (dC (.int 2)) dNil))) (dC (.int 0)))) (dRet (dTup (dCons (dC (.str "chord")) (dCons (dVar 3) (dCons (dVar 4) dNil))))) dSkip) (dRet (dTup (dCons (dIfE (dB (dBin (gIn false) (dVar 5) (dVar 4))) (dC (.str "sounds")) (dC (.str "silent"))) (dCons (dVar 3) (dCons (dVar 5) dNil))))))))))
def t_law_a_fact_k07 (s_law_one : DSp) (s_law_pick : DSp) (s_law_heard : DSp) (s_law_a_start : DSp) (PX : DX) : DTS :=
  (dSeq (dSet 2 (dCall s_law_one PX (dCons (dVar 0) (dCons (dLst (dCons (dC (.str "chord")) (dCons (dC (.str "sounds")) (dCons (dC (.str "silent")) dNil)))) dNil)))) (dSeq (dSet 3 (dCall s_law_one PX (dCons (dVar 0) (dCons (dLst (dCons (dCall s_law_pick PX (dCons (dVar 0) (dCons (dC (.int 9)) dNil))) (dCons (dBin gPow (dC (.int 10)) (dC (.int 30))) dNil))) dNil)))) (dSeq (dIf (dB (dBin gEq (dVar 2) (dC (.str "chord")))) (dRet (dTup (dCons (dVar 2) (dCons (dVar 3) (dCons (dCall s_law_heard PX (dCons (dVar 1) (dCons (dCall s_law_a_start PX (dCons (dVar 0) (dCons (dVar 1) dNil))) (dCons (dVar 3) dNil)))) dNil))))) dSkip) (dRet (dTup (dCons (dVar 2) (dCons (dVar 3) (dCons (dCall s_law_one PX (dCons (dVar 0) (dCons (dLst (dCons (dC (.str "a")) (dCons (dC (.str "b")) (dCons (dC (.str "c")) (dCons (dC (.str "d")) dNil))))) dNil))) dNil))))))))
def t_law_goes (s_law_heard : DSp) (PX : DX) : DTS :=
  (dSeq (dFor (dIter (dVar 2)) (dgT 3 (dgCons (dgN 3) (dgCons (dgN 4) (dgCons (dgN 5) dgNil)))) (dSeq (dSet 6 (dCall s_law_heard PX (dCons (dVar 0) (dCons (dVar 1) (dCons (dVar 4) dNil))))) (dSeq (dIf (dAnd (dB (dBin gEq (dVar 3) (dC (.str "chord")))) (dB (dBin gNe (dVar 6) (dVar 5)))) (dRet (dC (.bl false))) dSkip) (dIf (dOr (dAnd (dB (dBin gEq (dVar 3) (dC (.str "sounds")))) (dB (dBin (gIn true) (dVar 5) (dVar 6)))) (dAnd (dB (dBin gEq (dVar 3) (dC (.str "silent")))) (dB (dBin (gIn false) (dVar 5) (dVar 6))))) (dRet (dC (.bl false))) dSkip)))) (dRet (dC (.bl true))))
def t_law_lots (s_law_size : DSp) (s_law_tune : DSp) (PX : DX) : DTS :=
  (dSeq (dAsg (dTup (dCons (dLstH dNil) (dCons (dCall s_law_size PX (dCons (dVar 0) dNil)) dNil))) (dgT 2 (dgCons (dgN 2) (dgCons (dgN 3) dgNil)))) (dSeq (dFor (dIter (dVar 1)) (dgN 4) (dSeq (dSet 5 (dCall s_law_tune PX (dCons (dVar 0) (dCons (dVar 4) (dCons (dVar 3) dNil))))) (dSeq (dSet 6 (dComp [7] (dRng1 (dCons (dApp gLen (dCons (dVar 2) dNil)) dNil)) (dgN 7) (dB (dBin gEq (dBin gIx (dBin gIx (dVar 2) (dVar 7)) (dC (.int 0))) (dVar 5))) (dVar 7))) (dIf (dB (dBin gEq (dVar 6) (dLst dNil))) (dExpr (dAppend (dVar 2) (dLstH (dCons (dVar 5) (dCons (dTup (dCons (dVar 4) dNil)) dNil))))) (dAsg (dBin gAdd (dBin gIx (dBin gIx (dVar 2) (dBin gIx (dVar 6) (dC (.int 0)))) (dC (.int 1))) (dTup (dCons (dVar 4) dNil))) (dgSub (dBin gIx (dVar 2) (dBin gIx (dVar 6) (dC (.int 0)))) (dC (.int 1)))))))) (dFrz 2 (dRetD (dComp [8] (dIter (dVar 2)) (dgN 8) dYes (dBin gIx (dVar 8) (dC (.int 1))))))))
def t_need_left (s_left_ones : DSp) (e_NoBeginning : Addr) (PX : DX) : DTS :=
  (dSeq (dSet 2 (dCall s_left_ones PX (dCons (dVar 0) (dCons (dVar 1) dNil)))) (dSeq (dIf (dB (dBin gEq (dVar 2) (dLst dNil))) (dRaise PX (.ref e_NoBeginning)) dSkip) (dRet (dVar 2))))
def t_how (s_need_box : DSp) (s_need_facts : DSp) (s_is_fact : DSp) (s_need_left : DSp) (s_is_so : DSp) (e_InvalidFacts : Addr) (PX : DX) : DTS :=
  (dSeq (dExpr (dCall s_need_box PX (dCons (dVar 0) dNil))) (dSeq (dExpr (dCall s_need_facts PX (dCons (dVar 1) dNil))) (dSeq (dIf (dNot (dB (dCall s_is_fact PX (dCons (dVar 2) dNil)))) (dRaise PX (.ref e_InvalidFacts)) dSkip) (dSeq (dSet 3 (dComp [4] (dIter (dCall s_need_left PX (dCons (dVar 0) (dCons (dVar 1) dNil)))) (dgN 4) dYes (dCall s_is_so DX0 (dCons (dVar 0) (dCons (dVar 4) (dCons (dVar 2) dNil)))))) (dSeq (dIf (dB (dApp gAll (dCons (dVar 3) dNil))) (dRet (dC (.str "sure"))) dSkip) (dRet (dIfE (dB (dApp gAny (dCons (dVar 3) dNil))) (dC (.str "open")) (dC (.str "never")))))))))
def t_teeth_at (s_need_box : DSp) (s_need_facts : DSp) (s_need_tick : DSp) (s_need_left : DSp) (s_chord_at : DSp) (c_TEETH : D) (PX : DX) : DTS :=
  (dSeq (dExpr (dCall s_need_box PX (dCons (dVar 0) dNil))) (dSeq (dExpr (dCall s_need_facts PX (dCons (dVar 1) dNil))) (dSeq (dExpr (dCall s_need_tick PX (dCons (dVar 2) dNil))) (dSeq (dSet 3 (dComp [5] (dIter (dCall s_need_left PX (dCons (dVar 0) (dCons (dVar 1) dNil)))) (dgN 5) dYes (dCall s_chord_at DX0 (dCons (dVar 0) (dCons (dVar 5) (dCons (dVar 2) dNil)))))) (dSeq (dSet 4 (dJoin (dC (.str "")) (dComp [6] (dIter (dC c_TEETH)) (dgN 6) (dB (dApp gAll (dCons (dComp [7] (dIter (dVar 3)) (dgN 7) dYes (dBin (gIn false) (dVar 6) (dVar 7))) dNil))) (dVar 6)))) (dRet (dTup (dCons (dVar 4) (dCons (dJoin (dC (.str "")) (dComp [6] (dIter (dC c_TEETH)) (dgN 6) (dB (dApp gAny (dCons (dComp [7] (dIter (dVar 3)) (dgN 7) dYes (dBin (gIn false) (dVar 6) (dVar 7))) dNil))) (dVar 6))) dNil)))))))))
def t_law_truth (s_law_heard : DSp) (PX : DX) : DTS :=
  (dSeq (dSet 3 (dCall s_law_heard PX (dCons (dVar 0) (dCons (dVar 1) (dCons (dBin gIx (dVar 2) (dC (.int 1))) dNil))))) (dRet (dIfE (dB (dBin gEq (dBin gIx (dVar 2) (dC (.int 0))) (dC (.str "chord")))) (dBin gEq (dVar 3) (dBin gIx (dVar 2) (dC (.int 2)))) (dBin gEq (dBin (gIn false) (dBin gIx (dVar 2) (dC (.int 2))) (dVar 3)) (dBin gEq (dBin gIx (dVar 2) (dC (.int 0))) (dC (.str "sounds")))))))
def t_law_both (PX : DX) : DTS :=
  (dSeq (dAsg (dTup (dCons (dC (.str "")) (dCons (dC (.str "")) dNil))) (dgT 2 (dgCons (dgN 1) (dgCons (dgN 2) dgNil)))) (dSeq (dFor (dIter (dC (.str "abcd"))) (dgN 3) (dSeq (dSet 4 (dApp gLen (dCons (dComp [5] (dIter (dVar 0)) (dgN 5) (dB (dBin (gIn false) (dVar 3) (dVar 5))) (dC (.int 1))) dNil))) (dSeq (dSet 1 (dBin gAdd (dVar 1) (dIfE (dB (dBin gEq (dVar 4) (dApp gLen (dCons (dVar 0) dNil)))) (dVar 3) (dC (.str ""))))) (dSet 2 (dBin gAdd (dVar 2) (dIfE (dB (dBin gGt (dVar 4) (dC (.int 0)))) (dVar 3) (dC (.str "")))))))) (dRet (dTup (dCons (dVar 1) (dCons (dVar 2) dNil))))))
end DL

set_option Elab.async false
set_option linter.all false
set_option maxRecDepth 100000
set_option maxHeartbeats 4000000
namespace DL
open PySem PySem.Spec PyProof.Rows L2
def topS (i : Nat) : Stmt := PySem.Challenge.pw_barrelsuntold_k04_whole_clashes.main.body.getD i (.Pass ⟨0, 0, 0, 0⟩)
section
variable {P : Program} {w : World} {K : Fg} {mg : Str → Option Value} {base : Heap}
abbrev st_is_within : Stmt := topS 16
theorem sc_is_within : FnScope ["value", "low", "high"] ["value", "low", "high"] (defScope st_is_within) := ⟨rfl, rfl, rfl, by decide +kernel, rfl, by decide +kernel, by decide +kernel⟩
theorem ok_is_within {sp : DSp} (df : DefAt K mg "is_within" ["value", "low", "high"] st_is_within) (B : Blt mg) (len : ∀ ds M P PX, sp ds M P PX → ds.length = 3)
    (law : ∀ ds M P PX, sp ds M P PX → t_is_within PX (dEnds P) (dst 3 ds) M) : Cal P w K mg base 1 "is_within" ["value", "low", "high"] sp :=
  have sc := sc_is_within
  dcal (t := t_is_within) df sc len (fun f cdv A outer s H E c cx => by
    exact (d_last (d_ret (d_andV (d_fn call_isi ol_isi (by rfl) B.b_isinstance (by decide +kernel) (d_acons (d_var 0 (pv 0)) (d_acons (d_tyname "int" (by rfl) B.b_int (by decide +kernel) (by decide)) d_anil))) (d_andV (d_notV (d_fn call_isi ol_isi (by rfl) B.b_isinstance (by decide +kernel) (d_acons (d_var 0 (pv 0)) (d_acons (d_tyname "bool" (by rfl) B.b_bool (by decide +kernel) (by decide)) d_anil)))) (d_one (d_chain op_le op_le og_le og_le (d_var 1 (pv 1)) (d_var 0 (pv 0)) (d_var 2 (pv 2)) (fun a b e => pe_chain op_le op_le a b e)))))))) law
abbrev st_has_items : Stmt := topS 17
theorem sc_has_items : FnScope ["value", "low", "high"] ["value", "low", "high"] (defScope st_has_items) := ⟨rfl, rfl, rfl, by decide +kernel, rfl, by decide +kernel, by decide +kernel⟩
theorem ok_has_items {sp : DSp} (df : DefAt K mg "has_items" ["value", "low", "high"] st_has_items) (B : Blt mg) (len : ∀ ds M P PX, sp ds M P PX → ds.length = 3)
    (law : ∀ ds M P PX, sp ds M P PX → t_has_items PX (dEnds P) (dst 3 ds) M) : Cal P w K mg base 1 "has_items" ["value", "low", "high"] sp :=
  have sc := sc_has_items
  dcal (t := t_has_items) df sc len (fun f cdv A outer s H E c cx => by
    exact (d_last (d_ret (d_andV (d_fn call_isi ol_isi (by rfl) B.b_isinstance (by decide +kernel) (d_acons (d_var 0 (pv 0)) (d_acons (d_tyname "tuple" (by rfl) B.b_tuple (by decide +kernel) (by decide)) d_anil))) (d_one (d_chain op_le op_le og_le og_le (d_var 1 (pv 1)) (d_fn call_len ol_len (by rfl) B.b_len (by decide +kernel) (d_acons (d_var 0 (pv 0)) d_anil)) (d_var 2 (pv 2)) (fun a b e => pe_chain op_le op_le a b e))))))) law
abbrev st_are_teeth : Stmt := topS 18
theorem sc_are_teeth : FnScope ["value", "tooth"] ["value"] (defScope st_are_teeth) := ⟨rfl, rfl, rfl, by decide +kernel, rfl, by decide +kernel, by decide +kernel⟩
theorem ok_are_teeth {c_TEETH : D} {sp : DSp} (df : DefAt K mg "are_teeth" ["value"] st_are_teeth) (g_TEETH : GCon K mg "TEETH" c_TEETH) (B : Blt mg) (len : ∀ ds M P PX, sp ds M P PX → ds.length = 1)
    (law : ∀ ds M P PX, sp ds M P PX → t_are_teeth c_TEETH PX (dEnds P) (dst 2 ds) M) : Cal P w K mg base 1 "are_teeth" ["value"] sp :=
  have sc := sc_are_teeth
  dcal (t := t_are_teeth c_TEETH) df sc len (fun f cdv A outer s H E c cx => by
    exact (d_last (d_ret (d_andV (d_fn call_isi ol_isi (by rfl) B.b_isinstance (by decide +kernel) (d_acons (d_var 0 (pv 0)) (d_acons (d_tyname "str" (by rfl) B.b_str (by decide +kernel) (by decide)) d_anil))) (d_one (d_cmp (op_eqD cx.hr.units) og_eq (d_var 0 (pv 0)) (d_join d_str (d_lc (own := [("tooth", 1)]) rfl sc.nd (d_iter (d_glob (by rfl) g_TEETH)) (blkOk_by (N := ["value", "tooth"]) (sc := (defScope st_are_teeth)) (by decide +kernel)) (fun _ _ _ _ _ => (d_gn (i := 1) sc.nd rfl (.inl rfl) (by decide))) (fun _ _ _ _ _ => (d_tsone (d_tcmp (op_inA (hu65 cx.hr)) og_in (d_var 1 (pv 1)) (d_var 0 (pv 0)) (by rfl)))) (fun _ _ _ _ _ => (d_var 1 (pv 1))))) (nomark _))))))) law
abbrev st_is_barrel : Stmt := topS 19
theorem sc_is_barrel : FnScope ["value", "item"] ["value"] (defScope st_is_barrel) := ⟨rfl, rfl, rfl, by decide +kernel, rfl, by decide +kernel, by decide +kernel⟩
theorem ok_is_barrel {s_has_items : DSp} {s_are_teeth : DSp} {sp : DSp} (df : DefAt K mg "is_barrel" ["value"] st_is_barrel) (h_has_items : Cal P w K mg base 1 "has_items" ["value", "low", "high"] s_has_items) (h_are_teeth : Cal P w K mg base 1 "are_teeth" ["value"] s_are_teeth) (B : Blt mg) (len : ∀ ds M P PX, sp ds M P PX → ds.length = 1)
    (law : ∀ ds M P PX, sp ds M P PX → t_is_barrel s_has_items s_are_teeth PX (dEnds P) (dst 2 ds) M) : Cal P w K mg base 2 "is_barrel" ["value"] sp :=
  have sc := sc_is_barrel
  dcal (t := t_is_barrel s_has_items s_are_teeth) df sc len (fun f cdv A outer s H E c cx => by
    exact (d_last (d_ret (d_andV (d_call h_has_items cx.hr (by omega) (by rfl) cx.tk (d_acons (d_var 0 (pv 0)) (d_acons d_int (d_acons d_int d_anil)))) (d_one (d_fn (cr_all rfl) ol_all (by rfl) B.b_all (by decide +kernel) (d_acons (d_lc (own := [("item", 1)]) rfl sc.nd (d_iter (d_var 0 (pv 0))) (blkOk_by (N := ["value", "item"]) (sc := (defScope st_is_barrel)) (by decide +kernel)) (fun _ _ _ _ _ => (d_gn (i := 1) sc.nd rfl (.inl rfl) (by decide))) (fun _ _ _ _ _ => d_tsnil) (fun _ _ _ _ _ => (d_call h_are_teeth cx.hr (by omega) (by rfl) takes_mute (d_acons (d_var 1 (pv 1)) d_anil)))) d_anil))))))) law
abbrev st_is_box_value : Stmt := topS 20
theorem sc_is_box_value : FnScope ["value", "barrel"] ["value"] (defScope st_is_box_value) := ⟨rfl, rfl, rfl, by decide +kernel, rfl, by decide +kernel, by decide +kernel⟩
theorem ok_is_box_value {s_has_items : DSp} {s_is_within : DSp} {s_is_barrel : DSp} {sp : DSp} (df : DefAt K mg "is_box_value" ["value"] st_is_box_value) (h_has_items : Cal P w K mg base 1 "has_items" ["value", "low", "high"] s_has_items) (h_is_within : Cal P w K mg base 1 "is_within" ["value", "low", "high"] s_is_within) (h_is_barrel : Cal P w K mg base 2 "is_barrel" ["value"] s_is_barrel) (B : Blt mg) (len : ∀ ds M P PX, sp ds M P PX → ds.length = 1)
    (law : ∀ ds M P PX, sp ds M P PX → t_is_box_value s_has_items s_is_within s_is_barrel PX (dEnds P) (dst 2 ds) M) : Cal P w K mg base 3 "is_box_value" ["value"] sp :=
  have sc := sc_is_box_value
  dcal (t := t_is_box_value s_has_items s_is_within s_is_barrel) df sc len (fun f cdv A outer s H E c cx => by
    exact (d_seq (d_if (d_wt (d_or (d_not (d_tval (d_call h_has_items cx.hr (by omega) (by rfl) cx.tk (d_acons (d_var 0 (pv 0)) (d_acons d_int (d_acons d_int d_anil)))))) (d_or1 (d_not (d_tval (d_call h_is_within cx.hr (by omega) (by rfl) cx.tk (d_acons (d_index (d_var 0 (pv 0)) d_int (fun _ _ => rfl)) (d_acons d_int (d_acons d_int d_anil))))))))) (d_last (d_ret d_bl)) d_nil) (d_last (d_ret (d_andV (d_call h_has_items cx.hr (by omega) (by rfl) cx.tk (d_acons (d_index (d_var 0 (pv 0)) d_int (fun _ _ => rfl)) (d_acons d_int (d_acons d_int d_anil)))) (d_one (d_fn (cr_all rfl) ol_all (by rfl) B.b_all (by decide +kernel) (d_acons (d_lc (own := [("barrel", 1)]) rfl sc.nd (d_iter (d_index (d_var 0 (pv 0)) d_int (fun _ _ => rfl))) (blkOk_by (N := ["value", "barrel"]) (sc := (defScope st_is_box_value)) (by decide +kernel)) (fun _ _ _ _ _ => (d_gn (i := 1) sc.nd rfl (.inl rfl) (by decide))) (fun _ _ _ _ _ => d_tsnil) (fun _ _ _ _ _ => (d_call h_is_barrel cx.hr (by omega) (by rfl) takes_mute (d_acons (d_var 1 (pv 1)) d_anil)))) d_anil)))))))) law
abbrev st_begins : Stmt := topS 21
theorem sc_begins : FnScope ["box", "value", "number", "barrel"] ["box", "value"] (defScope st_begins) := ⟨rfl, rfl, rfl, by decide +kernel, rfl, by decide +kernel, by decide +kernel⟩
theorem ok_begins {s_has_items : DSp} {s_is_within : DSp} {sp : DSp} (df : DefAt K mg "begins" ["box", "value"] st_begins) (h_has_items : Cal P w K mg base 1 "has_items" ["value", "low", "high"] s_has_items) (h_is_within : Cal P w K mg base 1 "is_within" ["value", "low", "high"] s_is_within) (B : Blt mg) (len : ∀ ds M P PX, sp ds M P PX → ds.length = 2)
    (law : ∀ ds M P PX, sp ds M P PX → t_begins s_has_items s_is_within PX (dEnds P) (dst 4 ds) M) : Cal P w K mg base 2 "begins" ["box", "value"] sp :=
  have sc := sc_begins
  dcal (t := t_begins s_has_items s_is_within) df sc len (fun f cdv A outer s H E c cx => by
    exact (d_seq (d_if (d_not (d_tval (d_call h_has_items cx.hr (by omega) (by rfl) cx.tk (d_acons (d_var 1 (pv 1)) (d_acons (d_fn call_len ol_len (by rfl) B.b_len (by decide +kernel) (d_acons (d_index (d_var 0 (pv 0)) d_int (fun _ _ => rfl)) d_anil)) (d_acons (d_fn call_len ol_len (by rfl) B.b_len (by decide +kernel) (d_acons (d_index (d_var 0 (pv 0)) d_int (fun _ _ => rfl)) d_anil)) d_anil)))))) (d_last (d_ret d_bl)) d_nil) (d_last (d_ret (d_fn (cr_all rfl) ol_all (by rfl) B.b_all (by decide +kernel) (d_acons (d_lc (own := [("number", 2), ("barrel", 3)]) rfl sc.nd (d_zip (by rfl) B.b_zip (d_acons (d_var 1 (pv 1)) (d_acons (d_index (d_var 0 (pv 0)) d_int (fun _ _ => rfl)) d_anil))) (blkOk_by (N := ["box", "value", "number", "barrel"]) (sc := (defScope st_begins)) (by decide +kernel)) (fun _ _ _ _ _ => (d_gt rfl (d_gcons (d_gn (i := 2) sc.nd rfl (.inl rfl) (by decide)) (d_gcons (d_gn (i := 3) sc.nd rfl (.inl rfl) (by decide)) d_gnil)))) (fun _ _ _ _ _ => d_tsnil) (fun _ _ _ _ _ => (d_call h_is_within cx.hr (by omega) (by rfl) takes_mute (d_acons (d_var 2 (pv 2)) (d_acons d_int (d_acons (d_sub (d_fn call_len ol_len (by rfl) B.b_len (by decide +kernel) (d_acons (d_var 3 (pv 3)) d_anil)) d_int) d_anil)))))) d_anil)))))) law
abbrev st_need_box : Stmt := topS 22
theorem sc_need_box : FnScope ["value"] ["value"] (defScope st_need_box) := ⟨rfl, rfl, rfl, by decide +kernel, rfl, by decide +kernel, by decide +kernel⟩
theorem ok_need_box {s_is_box_value : DSp} {e_InvalidBox : Addr} {sp : DSp} (df : DefAt K mg "need_box" ["value"] st_need_box) (h_is_box_value : Cal P w K mg base 3 "is_box_value" ["value"] s_is_box_value) (x_InvalidBox : ErrAt K mg "InvalidBox" e_InvalidBox) (len : ∀ ds M P PX, sp ds M P PX → ds.length = 1)
    (law : ∀ ds M P PX, sp ds M P PX → t_need_box s_is_box_value e_InvalidBox PX (dEnds P) (dst 1 ds) M) : Cal P w K mg base 4 "need_box" ["value"] sp :=
  have sc := sc_need_box
  dcal (t := t_need_box s_is_box_value e_InvalidBox) df sc len (fun f cdv A outer s H E c cx => by
    exact (d_last (d_if (d_not (d_tval (d_call h_is_box_value cx.hr (by omega) (by rfl) cx.tk (d_acons (d_var 0 (pv 0)) d_anil)))) (d_last (d_raiseE rfl cx.tk x_InvalidBox (by rfl))) d_nil))) law
abbrev st_need_beginning : Stmt := topS 23
theorem sc_need_beginning : FnScope ["box", "value"] ["box", "value"] (defScope st_need_beginning) := ⟨rfl, rfl, rfl, by decide +kernel, rfl, by decide +kernel, by decide +kernel⟩
theorem ok_need_beginning {s_begins : DSp} {e_InvalidBeginning : Addr} {sp : DSp} (df : DefAt K mg "need_beginning" ["box", "value"] st_need_beginning) (h_begins : Cal P w K mg base 2 "begins" ["box", "value"] s_begins) (x_InvalidBeginning : ErrAt K mg "InvalidBeginning" e_InvalidBeginning) (len : ∀ ds M P PX, sp ds M P PX → ds.length = 2)
    (law : ∀ ds M P PX, sp ds M P PX → t_need_beginning s_begins e_InvalidBeginning PX (dEnds P) (dst 2 ds) M) : Cal P w K mg base 3 "need_beginning" ["box", "value"] sp :=
  have sc := sc_need_beginning
  dcal (t := t_need_beginning s_begins e_InvalidBeginning) df sc len (fun f cdv A outer s H E c cx => by
    exact (d_last (d_if (d_not (d_tval (d_call h_begins cx.hr (by omega) (by rfl) cx.tk (d_acons (d_var 0 (pv 0)) (d_acons (d_var 1 (pv 1)) d_anil))))) (d_last (d_raiseE rfl cx.tk x_InvalidBeginning (by rfl))) d_nil))) law
abbrev st_gcd : Stmt := topS 24
theorem sc_gcd : FnScope ["one", "other"] ["one", "other"] (defScope st_gcd) := ⟨rfl, rfl, rfl, by decide +kernel, rfl, by decide +kernel, by decide +kernel⟩
theorem ok_gcd {sp : DSp} (df : DefAt K mg "gcd" ["one", "other"] st_gcd)  (len : ∀ ds M P PX, sp ds M P PX → ds.length = 2)
    (law : ∀ ds M P PX, sp ds M P PX → t_gcd PX (dEnds P) (dst 2 ds) M) : Cal P w K mg base 1 "gcd" ["one", "other"] sp :=
  have sc := sc_gcd
  dcal (t := t_gcd) df sc len (fun f cdv A outer s H E c cx => by
    exact (d_seq (d_while cx.hp (d_tcmp op_gt og_gt (d_var 1 (pv 1)) d_int (nomark _)) (d_last (d_par (i := 0) (j := 1) rfl sc.nd rfl rfl (by decide) rfl rfl (d_acons (d_var 1 (pv 1)) (d_acons (d_mod (d_var 0 (pv 0)) (d_var 1 (pv 1))) d_anil)) (by rfl)))) (d_last (d_ret (d_var 0 (pv 0)))))) law
abbrev st_period_of : Stmt := topS 25
theorem sc_period_of : FnScope ["box", "found", "barrel"] ["box"] (defScope st_period_of) := ⟨rfl, rfl, rfl, by decide +kernel, rfl, by decide +kernel, by decide +kernel⟩
theorem ok_period_of {s_gcd : DSp} {sp : DSp} (df : DefAt K mg "period_of" ["box"] st_period_of) (h_gcd : Cal P w K mg base 1 "gcd" ["one", "other"] s_gcd) (B : Blt mg) (len : ∀ ds M P PX, sp ds M P PX → ds.length = 1)
    (law : ∀ ds M P PX, sp ds M P PX → t_period_of s_gcd PX (dEnds P) (dst 3 ds) M) : Cal P w K mg base 2 "period_of" ["box"] sp :=
  have sc := sc_period_of
  dcal (t := t_period_of s_gcd) df sc len (fun f cdv A outer s H E c cx => by
    exact (d_seq (d_set (i := 1) sc.nd rfl (.inl rfl) d_int) (d_seq (d_for (vs := [2]) cx.hp rfl (d_iter (d_index (d_var 0 (pv 0)) d_int (fun _ _ => rfl))) (d_gn (i := 2) sc.nd rfl (.inl rfl) (by decide)) (d_last (d_set (i := 1) sc.nd rfl (.inl rfl) (d_div (d_mul (d_var 1 (pv 1)) (d_fn call_len ol_len (by rfl) B.b_len (by decide +kernel) (d_acons (d_var 2 (pv 2)) d_anil))) (d_call h_gcd cx.hr (by omega) (by rfl) cx.tk (d_acons (d_var 1 (pv 1)) (d_acons (d_fn call_len ol_len (by rfl) B.b_len (by decide +kernel) (d_acons (d_var 2 (pv 2)) d_anil)) d_anil))))))) (d_last (d_ret (d_var 1 (pv 1))))))) law
abbrev st_all_beginnings : Stmt := topS 26
theorem sc_all_beginnings : FnScope ["box", "found", "barrel", "row", "number"] ["box"] (defScope st_all_beginnings) := ⟨rfl, rfl, rfl, by decide +kernel, rfl, by decide +kernel, by decide +kernel⟩
theorem ok_all_beginnings {sp : DSp} (df : DefAt K mg "all_beginnings" ["box"] st_all_beginnings) (B : Blt mg) (len : ∀ ds M P PX, sp ds M P PX → ds.length = 1)
    (law : ∀ ds M P PX, sp ds M P PX → t_all_beginnings PX (dEnds P) (dst 5 ds) M) : Cal P w K mg base 1 "all_beginnings" ["box"] sp :=
  have sc := sc_all_beginnings
  dcal (t := t_all_beginnings) df sc len (fun f cdv A outer s H E c cx => by
    exact (d_seq (d_set (i := 1) sc.nd rfl (.inl rfl) (d_lst (d_acons (d_tup d_anil) d_anil))) (d_seq (d_for (vs := [2]) cx.hp rfl (d_iter (d_index (d_var 0 (pv 0)) d_int (fun _ _ => rfl))) (d_gn (i := 2) sc.nd rfl (.inr rfl) (by decide)) (d_last (d_setLc2 (i := 1) (own := [("row", 3), ("number", 4)]) (vs1 := [4]) rfl sc.nd rfl rfl (sw_true rfl rfl rfl (by decide +kernel)) (d_iter (d_var 1 (pv 1))) (blkOk_by (N := ["box", "found", "barrel", "row", "number"]) (sc := (defScope st_all_beginnings)) (by decide +kernel)) (by decide) (fun _ _ _ _ _ => (d_gn (i := 3) sc.nd rfl (.inl rfl) (by decide))) (fun _ _ _ _ _ => d_tsnil) (fun _ _ _ _ _ => (d_rng1 (by rfl) B.b_range (d_acons (d_fn call_len ol_len (by rfl) B.b_len (by decide +kernel) (d_acons (d_var 2 (pv 2)) d_anil)) d_anil))) (fun _ _ _ _ _ => (d_gn (i := 4) sc.nd rfl (.inl rfl) (by decide))) (fun _ _ _ _ _ => d_tsnil) (fun _ _ _ _ _ => (d_add (d_var 3 (pv 3)) (d_tup (d_acons (d_var 4 (pv 4)) d_anil))))))) (d_last (d_ret (d_var 1 (pv 1))))))) law
abbrev st_items_at : Stmt := topS 28
theorem sc_items_at : FnScope ["box", "beginning", "tick", "begin", "barrel"] ["box", "beginning", "tick"] (defScope st_items_at) := ⟨rfl, rfl, rfl, by decide +kernel, rfl, by decide +kernel, by decide +kernel⟩
theorem ok_items_at {sp : DSp} (df : DefAt K mg "items_at" ["box", "beginning", "tick"] st_items_at) (B : Blt mg) (len : ∀ ds M P PX, sp ds M P PX → ds.length = 3)
    (law : ∀ ds M P PX, sp ds M P PX → t_items_at PX (dEnds P) (dst 5 ds) M) : Cal P w K mg base 1 "items_at" ["box", "beginning", "tick"] sp :=
  have sc := sc_items_at
  dcal (t := t_items_at) df sc len (fun f cdv A outer s H E c cx => by
    exact (d_last (d_ret (d_lc (own := [("begin", 3), ("barrel", 4)]) rfl sc.nd (d_zip (by rfl) B.b_zip (d_acons (d_var 1 (pv 1)) (d_acons (d_index (d_var 0 (pv 0)) d_int (fun _ _ => rfl)) d_anil))) (blkOk_by (N := ["box", "beginning", "tick", "begin", "barrel"]) (sc := (defScope st_items_at)) (by decide +kernel)) (fun _ _ _ _ _ => (d_gt rfl (d_gcons (d_gn (i := 3) sc.nd rfl (.inl rfl) (by decide)) (d_gcons (d_gn (i := 4) sc.nd rfl (.inl rfl) (by decide)) d_gnil)))) (fun _ _ _ _ _ => d_tsnil) (fun _ _ _ _ _ => (d_index (d_var 4 (pv 4)) (d_mod (d_add (d_var 3 (pv 3)) (d_var 2 (pv 2))) (d_fn call_len ol_len (by rfl) B.b_len (by decide +kernel) (d_acons (d_var 4 (pv 4)) d_anil))) (fun _ _ => rfl))))))) law
abbrev st_chord_at : Stmt := topS 29
theorem sc_chord_at : FnScope ["box", "beginning", "tick", "plucked", "tooth"] ["box", "beginning", "tick"] (defScope st_chord_at) := ⟨rfl, rfl, rfl, by decide +kernel, rfl, by decide +kernel, by decide +kernel⟩
theorem ok_chord_at {s_items_at : DSp} {c_TEETH : D} {sp : DSp} (df : DefAt K mg "chord_at" ["box", "beginning", "tick"] st_chord_at) (h_items_at : Cal P w K mg base 1 "items_at" ["box", "beginning", "tick"] s_items_at) (g_TEETH : GCon K mg "TEETH" c_TEETH) (len : ∀ ds M P PX, sp ds M P PX → ds.length = 3)
    (law : ∀ ds M P PX, sp ds M P PX → t_chord_at s_items_at c_TEETH PX (dEnds P) (dst 5 ds) M) : Cal P w K mg base 2 "chord_at" ["box", "beginning", "tick"] sp :=
  have sc := sc_chord_at
  dcal (t := t_chord_at s_items_at c_TEETH) df sc len (fun f cdv A outer s H E c cx => by
    exact (d_seq (d_set (i := 3) sc.nd rfl (.inr rfl) (d_join d_str (d_call h_items_at cx.hr (by omega) (by rfl) cx.tk (d_acons (d_var 0 (pv 0)) (d_acons (d_var 1 (pv 1)) (d_acons (d_var 2 (pv 2)) d_anil)))))) (d_last (d_ret (d_join d_str (d_lc (own := [("tooth", 4)]) rfl sc.nd (d_iter (d_glob (by rfl) g_TEETH)) (blkOk_by (N := ["box", "beginning", "tick", "plucked", "tooth"]) (sc := (defScope st_chord_at)) (by decide +kernel)) (fun _ _ _ _ _ => (d_gn (i := 4) sc.nd rfl (.inl rfl) (by decide))) (fun _ _ _ _ _ => (d_tsone (d_tcmp (op_inA (hu65 cx.hr)) og_in (d_var 4 (pv 4)) (d_var 3 (pv 3)) (by rfl)))) (fun _ _ _ _ _ => (d_var 4 (pv 4))))))))) law
abbrev st_is_clash : Stmt := topS 31
theorem sc_is_clash : FnScope ["box", "beginning", "tick", "plucked", "before", "early", "tooth", "teeth"] ["box", "beginning", "tick"] (defScope st_is_clash) := ⟨rfl, rfl, rfl, by decide +kernel, rfl, by decide +kernel, by decide +kernel⟩
theorem ok_is_clash {s_items_at : DSp} {s_chord_at : DSp} {sp : DSp} (df : DefAt K mg "is_clash" ["box", "beginning", "tick"] st_is_clash) (h_items_at : Cal P w K mg base 1 "items_at" ["box", "beginning", "tick"] s_items_at) (h_chord_at : Cal P w K mg base 2 "chord_at" ["box", "beginning", "tick"] s_chord_at) (B : Blt mg) (len : ∀ ds M P PX, sp ds M P PX → ds.length = 3)
    (law : ∀ ds M P PX, sp ds M P PX → t_is_clash s_items_at s_chord_at PX (dEnds P) (dst 8 ds) M) : Cal P w K mg base 3 "is_clash" ["box", "beginning", "tick"] sp :=
  have sc := sc_is_clash
  dcal (t := t_is_clash s_items_at s_chord_at) df sc len (fun f cdv A outer s H E c cx => by
    exact (d_seq (d_set (i := 3) sc.nd rfl (.inl rfl) (d_join d_str (d_call h_items_at cx.hr (by omega) (by rfl) cx.tk (d_acons (d_var 0 (pv 0)) (d_acons (d_var 1 (pv 1)) (d_acons (d_var 2 (pv 2)) d_anil)))))) (d_seq (d_if (d_tcmp op_gt og_gt (d_fn call_len ol_len (by rfl) B.b_len (by decide +kernel) (d_acons (d_var 3 (pv 3)) d_anil)) (d_lenSet rfl (d_var 3 (pv 3)) (by rfl) B.b_len (by decide +kernel) (by rfl) B.b_set (by decide +kernel)) (nomark _)) (d_last (d_ret d_bl)) d_nil) (d_seq (d_set (i := 4) sc.nd rfl (.inr rfl) (d_lc (own := [("early", 5)]) rfl sc.nd (d_rng2 (by rfl) B.b_range (d_acons (d_fn (call_max2 rfl) ol_max2 (by rfl) B.b_max (by decide +kernel) (d_acons d_int (d_acons (d_sub (d_var 2 (pv 2)) (d_index (d_var 0 (pv 0)) d_int (fun _ _ => rfl))) d_anil))) (d_acons (d_var 2 (pv 2)) d_anil))) (blkOk_by (N := ["box", "beginning", "tick", "plucked", "before", "early", "tooth", "teeth"]) (sc := (defScope st_is_clash)) (by decide +kernel)) (fun _ _ _ _ _ => (d_gn (i := 5) sc.nd rfl (.inl rfl) (by decide))) (fun _ _ _ _ _ => d_tsnil) (fun _ _ _ _ _ => (d_call h_chord_at cx.hr (by omega) (by rfl) takes_mute (d_acons (d_var 0 (pv 0)) (d_acons (d_var 1 (pv 1)) (d_acons (d_var 5 (pv 5)) d_anil))))))) (d_last (d_ret (d_fn (cr_any rfl) ol_any (by rfl) B.b_any (by decide +kernel) (d_acons (d_lc2 (own := [("tooth", 6), ("teeth", 7)]) (vs1 := [7]) rfl sc.nd (d_iter (d_var 3 (pv 3))) (blkOk_by (N := ["box", "beginning", "tick", "plucked", "before", "early", "tooth", "teeth"]) (sc := (defScope st_is_clash)) (by decide +kernel)) (by decide) (fun _ _ _ _ _ => (d_gn (i := 6) sc.nd rfl (.inl rfl) (by decide))) (fun _ _ _ _ _ => d_tsnil) (fun _ _ _ _ _ => (d_iter (d_var 4 (pv 4)))) (fun _ _ _ _ _ => (d_gn (i := 7) sc.nd rfl (.inl rfl) (by decide))) (fun _ _ _ _ _ => d_tsnil) (fun _ _ _ _ _ => (d_cmp (op_inA (hu65 cx.hr)) og_in (d_var 6 (pv 6)) (d_var 7 (pv 7)) (by rfl)))) d_anil)))))))) law
abbrev st_first_of : Stmt := topS 32
theorem sc_first_of : FnScope ["box", "beginning", "tick"] ["box", "beginning"] (defScope st_first_of) := ⟨rfl, rfl, rfl, by decide +kernel, rfl, by decide +kernel, by decide +kernel⟩
theorem ok_first_of {s_period_of : DSp} {s_is_clash : DSp} {sp : DSp} (df : DefAt K mg "first_of" ["box", "beginning"] st_first_of) (h_period_of : Cal P w K mg base 2 "period_of" ["box"] s_period_of) (h_is_clash : Cal P w K mg base 3 "is_clash" ["box", "beginning", "tick"] s_is_clash) (B : Blt mg) (len : ∀ ds M P PX, sp ds M P PX → ds.length = 2)
    (law : ∀ ds M P PX, sp ds M P PX → t_first_of s_period_of s_is_clash PX (dEnds P) (dst 3 ds) M) : Cal P w K mg base 4 "first_of" ["box", "beginning"] sp :=
  have sc := sc_first_of
  dcal (t := t_first_of s_period_of s_is_clash) df sc len (fun f cdv A outer s H E c cx => by
    exact (d_seq (d_for (vs := [2]) cx.hp rfl (d_rng1 (by rfl) B.b_range (d_acons (d_add (d_call h_period_of cx.hr (by omega) (by rfl) cx.tk (d_acons (d_var 0 (pv 0)) d_anil)) (d_index (d_var 0 (pv 0)) d_int (fun _ _ => rfl))) d_anil)) (d_gn (i := 2) sc.nd rfl (.inl rfl) (by decide)) (d_last (d_if (d_tval (d_call h_is_clash cx.hr (by omega) (by rfl) cx.tk (d_acons (d_var 0 (pv 0)) (d_acons (d_var 1 (pv 1)) (d_acons (d_var 2 (pv 2)) d_anil))))) (d_last (d_ret (d_var 2 (pv 2)))) d_nil))) (d_last (d_ret d_non)))) law
abbrev st_share_of : Stmt := topS 33
theorem sc_share_of : FnScope ["box", "beginning", "size", "many", "part", "tick"] ["box", "beginning"] (defScope st_share_of) := ⟨rfl, rfl, rfl, by decide +kernel, rfl, by decide +kernel, by decide +kernel⟩
theorem ok_share_of {s_period_of : DSp} {s_is_clash : DSp} {s_gcd : DSp} {sp : DSp} (df : DefAt K mg "share_of" ["box", "beginning"] st_share_of) (h_period_of : Cal P w K mg base 2 "period_of" ["box"] s_period_of) (h_is_clash : Cal P w K mg base 3 "is_clash" ["box", "beginning", "tick"] s_is_clash) (h_gcd : Cal P w K mg base 1 "gcd" ["one", "other"] s_gcd) (B : Blt mg) (len : ∀ ds M P PX, sp ds M P PX → ds.length = 2)
    (law : ∀ ds M P PX, sp ds M P PX → t_share_of s_period_of s_is_clash s_gcd PX (dEnds P) (dst 6 ds) M) : Cal P w K mg base 4 "share_of" ["box", "beginning"] sp :=
  have sc := sc_share_of
  dcal (t := t_share_of s_period_of s_is_clash s_gcd) df sc len (fun f cdv A outer s H E c cx => by
    exact (d_seq (d_set (i := 2) sc.nd rfl (.inr rfl) (d_call h_period_of cx.hr (by omega) (by rfl) cx.tk (d_acons (d_var 0 (pv 0)) d_anil))) (d_seq (d_set (i := 3) sc.nd rfl (.inl rfl) (d_fn call_len ol_len (by rfl) B.b_len (by decide +kernel) (d_acons (d_lc (own := [("tick", 5)]) rfl sc.nd (d_rng1 (by rfl) B.b_range (d_acons (d_var 2 (pv 2)) d_anil)) (blkOk_by (N := ["box", "beginning", "size", "many", "part", "tick"]) (sc := (defScope st_share_of)) (by decide +kernel)) (fun _ _ _ _ _ => (d_gn (i := 5) sc.nd rfl (.inl rfl) (by decide))) (fun _ _ _ _ _ => (d_tsone (d_tval (d_call h_is_clash cx.hr (by omega) (by rfl) takes_mute (d_acons (d_var 0 (pv 0)) (d_acons (d_var 1 (pv 1)) (d_acons (d_add (d_add (d_mul d_int (d_var 2 (pv 2))) d_int) (d_var 5 (pv 5))) d_anil))))))) (fun _ _ _ _ _ => d_int)) d_anil))) (d_seq (d_set (i := 4) sc.nd rfl (.inl rfl) (d_call h_gcd cx.hr (by omega) (by rfl) cx.tk (d_acons (d_var 3 (pv 3)) (d_acons (d_var 2 (pv 2)) d_anil)))) (d_last (d_ret (d_tup (d_acons (d_div (d_var 3 (pv 3)) (d_var 4 (pv 4))) (d_acons (d_div (d_var 2 (pv 2)) (d_var 4 (pv 4))) d_anil))))))))) law
abbrev st_first_clash : Stmt := topS 34
theorem sc_first_clash : FnScope ["box", "beginning"] ["box", "beginning"] (defScope st_first_clash) := ⟨rfl, rfl, rfl, by decide +kernel, rfl, by decide +kernel, by decide +kernel⟩
theorem ok_first_clash {s_need_box : DSp} {s_need_beginning : DSp} {s_first_of : DSp} {sp : DSp} (df : DefAt K mg "first_clash" ["box", "beginning"] st_first_clash) (h_need_box : Cal P w K mg base 4 "need_box" ["value"] s_need_box) (h_need_beginning : Cal P w K mg base 3 "need_beginning" ["box", "value"] s_need_beginning) (h_first_of : Cal P w K mg base 4 "first_of" ["box", "beginning"] s_first_of) (len : ∀ ds M P PX, sp ds M P PX → ds.length = 2)
    (law : ∀ ds M P PX, sp ds M P PX → t_first_clash s_need_box s_need_beginning s_first_of PX (dEnds P) (dst 2 ds) M) : Cal P w K mg base 5 "first_clash" ["box", "beginning"] sp :=
  have sc := sc_first_clash
  dcal (t := t_first_clash s_need_box s_need_beginning s_first_of) df sc len (fun f cdv A outer s H E c cx => by
    exact (d_seq (d_expr (d_call h_need_box cx.hr (by omega) (by rfl) cx.tk (d_acons (d_var 0 (pv 0)) d_anil))) (d_seq (d_expr (d_call h_need_beginning cx.hr (by omega) (by rfl) cx.tk (d_acons (d_var 0 (pv 0)) (d_acons (d_var 1 (pv 1)) d_anil)))) (d_last (d_ret (d_call h_first_of cx.hr (by omega) (by rfl) cx.tk (d_acons (d_var 0 (pv 0)) (d_acons (d_var 1 (pv 1)) d_anil)))))))) law
abbrev st_clean_ones : Stmt := topS 35
theorem sc_clean_ones : FnScope ["box", "beginning"] ["box"] (defScope st_clean_ones) := ⟨rfl, rfl, rfl, by decide +kernel, rfl, by decide +kernel, by decide +kernel⟩
theorem ok_clean_ones {s_all_beginnings : DSp} {s_first_of : DSp} {sp : DSp} (df : DefAt K mg "clean_ones" ["box"] st_clean_ones) (h_all_beginnings : Cal P w K mg base 1 "all_beginnings" ["box"] s_all_beginnings) (h_first_of : Cal P w K mg base 4 "first_of" ["box", "beginning"] s_first_of) (len : ∀ ds M P PX, sp ds M P PX → ds.length = 1)
    (law : ∀ ds M P PX, sp ds M P PX → t_clean_ones s_all_beginnings s_first_of PX (dEnds P) (dst 2 ds) M) : Cal P w K mg base 5 "clean_ones" ["box"] sp :=
  have sc := sc_clean_ones
  dcal (t := t_clean_ones s_all_beginnings s_first_of) df sc len (fun f cdv A outer s H E c cx => by
    exact (d_last (d_ret (d_lc (own := [("beginning", 1)]) rfl sc.nd (d_iter (d_call h_all_beginnings cx.hr (by omega) (by rfl) cx.tk (d_acons (d_var 0 (pv 0)) d_anil))) (blkOk_by (N := ["box", "beginning"]) (sc := (defScope st_clean_ones)) (by decide +kernel)) (fun _ _ _ _ _ => (d_gn (i := 1) sc.nd rfl (.inl rfl) (by decide))) (fun _ _ _ _ _ => (d_tsone (d_tcmp op_isN og_isN (d_call h_first_of cx.hr (by omega) (by rfl) takes_mute (d_acons (d_var 0 (pv 0)) (d_acons (d_var 1 (pv 1)) d_anil))) d_non (nomark _)))) (fun _ _ _ _ _ => (d_var 1 (pv 1))))))) law
abbrev st_clean : Stmt := topS 36
theorem sc_clean : FnScope ["box"] ["box"] (defScope st_clean) := ⟨rfl, rfl, rfl, by decide +kernel, rfl, by decide +kernel, by decide +kernel⟩
theorem ok_clean {s_need_box : DSp} {s_clean_ones : DSp} {sp : DSp} (df : DefAt K mg "clean" ["box"] st_clean) (h_need_box : Cal P w K mg base 4 "need_box" ["value"] s_need_box) (h_clean_ones : Cal P w K mg base 5 "clean_ones" ["box"] s_clean_ones) (len : ∀ ds M P PX, sp ds M P PX → ds.length = 1)
    (law : ∀ ds M P PX, sp ds M P PX → t_clean s_need_box s_clean_ones PX (dEnds P) (dst 1 ds) M) : Cal P w K mg base 6 "clean" ["box"] sp :=
  have sc := sc_clean
  dcal (t := t_clean s_need_box s_clean_ones) df sc len (fun f cdv A outer s H E c cx => by
    exact (d_seq (d_expr (d_call h_need_box cx.hr (by omega) (by rfl) cx.tk (d_acons (d_var 0 (pv 0)) d_anil))) (d_last (d_ret (d_call h_clean_ones cx.hr (by omega) (by rfl) cx.tk (d_acons (d_var 0 (pv 0)) d_anil)))))) law
abbrev st_clash_share : Stmt := topS 37
theorem sc_clash_share : FnScope ["box", "beginning"] ["box", "beginning"] (defScope st_clash_share) := ⟨rfl, rfl, rfl, by decide +kernel, rfl, by decide +kernel, by decide +kernel⟩
theorem ok_clash_share {s_need_box : DSp} {s_need_beginning : DSp} {s_share_of : DSp} {sp : DSp} (df : DefAt K mg "clash_share" ["box", "beginning"] st_clash_share) (h_need_box : Cal P w K mg base 4 "need_box" ["value"] s_need_box) (h_need_beginning : Cal P w K mg base 3 "need_beginning" ["box", "value"] s_need_beginning) (h_share_of : Cal P w K mg base 4 "share_of" ["box", "beginning"] s_share_of) (len : ∀ ds M P PX, sp ds M P PX → ds.length = 2)
    (law : ∀ ds M P PX, sp ds M P PX → t_clash_share s_need_box s_need_beginning s_share_of PX (dEnds P) (dst 2 ds) M) : Cal P w K mg base 5 "clash_share" ["box", "beginning"] sp :=
  have sc := sc_clash_share
  dcal (t := t_clash_share s_need_box s_need_beginning s_share_of) df sc len (fun f cdv A outer s H E c cx => by
    exact (d_seq (d_expr (d_call h_need_box cx.hr (by omega) (by rfl) cx.tk (d_acons (d_var 0 (pv 0)) d_anil))) (d_seq (d_expr (d_call h_need_beginning cx.hr (by omega) (by rfl) cx.tk (d_acons (d_var 0 (pv 0)) (d_acons (d_var 1 (pv 1)) d_anil)))) (d_last (d_ret (d_call h_share_of cx.hr (by omega) (by rfl) cx.tk (d_acons (d_var 0 (pv 0)) (d_acons (d_var 1 (pv 1)) d_anil)))))))) law
abbrev st_least_share : Stmt := topS 38
theorem sc_least_share : FnScope ["box", "size", "pairs", "least", "some", "beginning", "top", "below", "pair", "share"] ["box"] (defScope st_least_share) := ⟨rfl, rfl, rfl, by decide +kernel, rfl, by decide +kernel, by decide +kernel⟩
theorem ok_least_share {s_need_box : DSp} {s_period_of : DSp} {s_all_beginnings : DSp} {s_share_of : DSp} {sp : DSp} (df : DefAt K mg "least_share" ["box"] st_least_share) (h_need_box : Cal P w K mg base 4 "need_box" ["value"] s_need_box) (h_period_of : Cal P w K mg base 2 "period_of" ["box"] s_period_of) (h_all_beginnings : Cal P w K mg base 1 "all_beginnings" ["box"] s_all_beginnings) (h_share_of : Cal P w K mg base 4 "share_of" ["box", "beginning"] s_share_of) (B : Blt mg) (len : ∀ ds M P PX, sp ds M P PX → ds.length = 1)
    (law : ∀ ds M P PX, sp ds M P PX → t_least_share s_need_box s_period_of s_all_beginnings s_share_of PX (dEnds P) (dst 10 ds) M) : Cal P w K mg base 5 "least_share" ["box"] sp :=
  have sc := sc_least_share
  dcal (t := t_least_share s_need_box s_period_of s_all_beginnings s_share_of) df sc len (fun f cdv A outer s H E c cx => by
    exact (d_seq (d_expr (d_call h_need_box cx.hr (by omega) (by rfl) cx.tk (d_acons (d_var 0 (pv 0)) d_anil))) (d_seq (d_set (i := 1) sc.nd rfl (.inr rfl) (d_call h_period_of cx.hr (by omega) (by rfl) cx.tk (d_acons (d_var 0 (pv 0)) d_anil))) (d_seq (d_setLc (i := 2) (own := [("beginning", 5)]) rfl sc.nd rfl rfl (sw_true rfl rfl rfl (by decide +kernel)) (d_iter (d_call h_all_beginnings cx.hr (by omega) (by rfl) cx.tk (d_acons (d_var 0 (pv 0)) d_anil))) (blkOk_by (N := ["box", "size", "pairs", "least", "some", "beginning", "top", "below", "pair", "share"]) (sc := (defScope st_least_share)) (by decide +kernel)) (fun _ _ _ _ _ => (d_gn (i := 5) sc.nd rfl (.inl rfl) (by decide))) (fun _ _ _ _ _ => d_tsnil) (fun _ _ _ _ _ => (d_tup (d_acons (d_call h_share_of cx.hr (by omega) (by rfl) takes_mute (d_acons (d_var 0 (pv 0)) (d_acons (d_var 5 (pv 5)) d_anil))) (d_acons (d_var 5 (pv 5)) d_anil))))) (d_seq (d_set (i := 3) sc.nd rfl (.inr rfl) (d_fn (cr_min rfl) ol_min (by rfl) B.b_min (by decide +kernel) (d_acons (d_lc (own := [("top", 6), ("below", 7), ("beginning", 5)]) rfl sc.nd (d_iter (d_var 2 (pv 2))) (blkOk_by (N := ["box", "size", "pairs", "least", "some", "beginning", "top", "below", "pair", "share"]) (sc := (defScope st_least_share)) (by decide +kernel)) (fun _ _ _ _ _ => (d_gt rfl (d_gcons (d_gt rfl (d_gcons (d_gn (i := 6) sc.nd rfl (.inl rfl) (by decide)) (d_gcons (d_gn (i := 7) sc.nd rfl (.inl rfl) (by decide)) d_gnil))) (d_gcons (d_gn (i := 5) sc.nd rfl (.inl rfl) (by decide)) d_gnil)))) (fun _ _ _ _ _ => d_tsnil) (fun _ _ _ _ _ => (d_div (d_mul (d_var 6 (pv 6)) (d_var 1 (pv 1))) (d_var 7 (pv 7))))) d_anil))) (d_seq (d_setLc (i := 4) (own := [("pair", 8)]) rfl sc.nd rfl rfl (sw_true rfl rfl rfl (by decide +kernel)) (d_iter (d_var 2 (pv 2))) (blkOk_by (N := ["box", "size", "pairs", "least", "some", "beginning", "top", "below", "pair", "share"]) (sc := (defScope st_least_share)) (by decide +kernel)) (fun _ _ _ _ _ => (d_gn (i := 8) sc.nd rfl (.inl rfl) (by decide))) (fun _ _ _ _ _ => (d_tsone (d_tcmp (op_eqD cx.hr.units) og_eq (d_div (d_mul (d_index (d_index (d_var 8 (pv 8)) d_int (fun _ _ => rfl)) d_int (fun _ _ => rfl)) (d_var 1 (pv 1))) (d_index (d_index (d_var 8 (pv 8)) d_int (fun _ _ => rfl)) d_int (fun _ _ => rfl))) (d_var 3 (pv 3)) (nomark _)))) (fun _ _ _ _ _ => (d_var 8 (pv 8)))) (d_last (d_ret (d_tup (d_acons (d_index (d_index (d_var 4 (pv 4)) d_int (fun _ _ => rfl)) d_int (fun _ _ => rfl)) (d_acons (d_lc (own := [("share", 9), ("beginning", 5)]) rfl sc.nd (d_iter (d_var 4 (pv 4))) (blkOk_by (N := ["box", "size", "pairs", "least", "some", "beginning", "top", "below", "pair", "share"]) (sc := (defScope st_least_share)) (by decide +kernel)) (fun _ _ _ _ _ => (d_gt rfl (d_gcons (d_gn (i := 9) sc.nd rfl (.inl rfl) (by decide)) (d_gcons (d_gn (i := 5) sc.nd rfl (.inl rfl) (by decide)) d_gnil)))) (fun _ _ _ _ _ => d_tsnil) (fun _ _ _ _ _ => (d_var 5 (pv 5)))) d_anil))))))))))) law
abbrev st_law_deck : Stmt := topS 40
theorem sc_law_deck : FnScope ["_law_cell", "_law_turn"] ["_law_cell", "_law_turn"] (defScope st_law_deck) := ⟨rfl, rfl, rfl, by decide +kernel, rfl, by decide +kernel, by decide +kernel⟩
theorem ok_law_deck {sp : DSp} (df : DefAt K mg "_law_deck" ["_law_cell", "_law_turn"] st_law_deck)  (len : ∀ ds M P PX, sp ds M P PX → ds.length = 2)
    (law : ∀ ds M P PX, sp ds M P PX → t_law_deck PX (dEnds P) (dst 2 ds) M) : Cal P w K mg base 1 "_law_deck" ["_law_cell", "_law_turn"] sp :=
  have sc := sc_law_deck
  dcal (t := t_law_deck) df sc len (fun f cdv A outer s H E c cx => by
    exact (d_seq (d_if (d_tcmp op_ge og_ge (d_var 0 (pv 0)) (d_pow d_int d_int) (nomark _)) (d_last (d_ret (d_lstH (d_acons (d_sub (d_var 0 (pv 0)) (d_pow d_int d_int)) (d_acons (d_mod (d_var 0 (pv 0)) d_int) (d_acons (d_var 1 (pv 1)) d_anil)))))) d_nil) (d_last (d_ret (d_lstH (d_acons d_int (d_acons (d_mod (d_var 0 (pv 0)) d_int) (d_acons (d_var 1 (pv 1)) d_anil)))))))) law
abbrev st_law_pick : Stmt := topS 41
theorem sc_law_pick : FnScope ["_law_deck_here", "_law_size_here", "_law_found", "_law_number"] ["_law_deck_here", "_law_size_here"] (defScope st_law_pick) := ⟨rfl, rfl, rfl, by decide +kernel, rfl, by decide +kernel, by decide +kernel⟩
theorem ok_law_pick {sp : DSp} (df : DefAt K mg "_law_pick" ["_law_deck_here", "_law_size_here"] st_law_pick) (B : Blt mg) (len : ∀ ds M P PX, sp ds M P PX → ds.length = 2)
    (law : ∀ ds M P PX, sp ds M P PX → t_law_pick PX (dEnds P) (dst 4 ds) M) : Cal P w K mg base 1 "_law_pick" ["_law_deck_here", "_law_size_here"] sp :=
  have sc := sc_law_pick
  dcal (t := t_law_pick) df sc len (fun f cdv A outer s H E c cx => by
    exact (d_seq (d_if (d_tcmp op_gt og_gt (d_index (d_var 0 (pv 0)) d_int (fun _ _ => rfl)) d_int (nomark _)) (d_seq (d_set (i := 2) sc.nd rfl (.inl rfl) (d_mod (d_fty call_int1 ol_int1 (by rfl) B.b_int (by decide +kernel) (d_acons (d_index (d_var 0 (pv 0)) d_int (fun _ _ => rfl)) d_anil)) (d_var 1 (pv 1)))) (d_seq (d_asg (vs := []) (d_div (d_index (d_var 0 (pv 0)) d_int (fun _ _ => rfl)) (d_var 1 (pv 1))) (d_gsub (d_var 0 (pv 0)) d_int)) (d_last (d_ret (d_var 2 (pv 2)))))) d_nil) (d_seq (d_asg (vs := []) (d_add (d_index (d_var 0 (pv 0)) d_int (fun _ _ => rfl)) d_int) (d_gsub (d_var 0 (pv 0)) d_int)) (d_seq (d_set (i := 3) sc.nd rfl (.inl rfl) (d_mod (d_pow (d_add (d_index (d_var 0 (pv 0)) d_int (fun _ _ => rfl)) (d_mul d_int (d_index (d_var 0 (pv 0)) d_int (fun _ _ => rfl)))) d_int) d_int)) (d_seq (d_set (i := 2) sc.nd rfl (.inl rfl) (d_div (d_mod (d_pow (d_add (d_var 3 (pv 3)) (d_mul d_int (d_index (d_var 0 (pv 0)) d_int (fun _ _ => rfl)))) d_int) d_int) d_int)) (d_last (d_ret (d_mod (d_fty call_int1 ol_int1 (by rfl) B.b_int (by decide +kernel) (d_acons (d_var 2 (pv 2)) d_anil)) (d_var 1 (pv 1)))))))))) law
abbrev st_law_one : Stmt := topS 42
theorem sc_law_one : FnScope ["_law_deck_here", "_law_some"] ["_law_deck_here", "_law_some"] (defScope st_law_one) := ⟨rfl, rfl, rfl, by decide +kernel, rfl, by decide +kernel, by decide +kernel⟩
theorem ok_law_one {s_law_pick : DSp} {sp : DSp} (df : DefAt K mg "_law_one" ["_law_deck_here", "_law_some"] st_law_one) (h_law_pick : Cal P w K mg base 1 "_law_pick" ["_law_deck_here", "_law_size_here"] s_law_pick) (B : Blt mg) (len : ∀ ds M P PX, sp ds M P PX → ds.length = 2)
    (law : ∀ ds M P PX, sp ds M P PX → t_law_one s_law_pick PX (dEnds P) (dst 2 ds) M) : Cal P w K mg base 2 "_law_one" ["_law_deck_here", "_law_some"] sp :=
  have sc := sc_law_one
  dcal (t := t_law_one s_law_pick) df sc len (fun f cdv A outer s H E c cx => by
    exact (d_last (d_ret (d_index (d_var 1 (pv 1)) (d_call h_law_pick cx.hr (by omega) (by rfl) cx.tk (d_acons (d_var 0 (pv 0)) (d_acons (d_fn call_len ol_len (by rfl) B.b_len (by decide +kernel) (d_acons (d_var 1 (pv 1)) d_anil)) d_anil))) (fun _ _ => rfl))))) law
abbrev st_law_sort : Stmt := topS 43
theorem sc_law_sort : FnScope ["_law_thing"] ["_law_thing"] (defScope st_law_sort) := ⟨rfl, rfl, rfl, by decide +kernel, rfl, by decide +kernel, by decide +kernel⟩
theorem ok_law_sort {sp : DSp} (df : DefAt K mg "_law_sort" ["_law_thing"] st_law_sort) (B : Blt mg) (len : ∀ ds M P PX, sp ds M P PX → ds.length = 1)
    (law : ∀ ds M P PX, sp ds M P PX → t_law_sort PX (dEnds P) (dst 1 ds) M) : Cal P w K mg base 1 "_law_sort" ["_law_thing"] sp :=
  have sc := sc_law_sort
  dcal (t := t_law_sort) df sc len (fun f cdv A outer s H E c cx => by
    exact (d_seq (d_if (d_tval (d_fn call_isi ol_isi (by rfl) B.b_isinstance (by decide +kernel) (d_acons (d_var 0 (pv 0)) (d_acons (d_tyname "bool" (by rfl) B.b_bool (by decide +kernel) (by decide)) d_anil)))) (d_last (d_ret d_int)) d_nil) (d_seq (d_if (d_tval (d_fn call_isi ol_isi (by rfl) B.b_isinstance (by decide +kernel) (d_acons (d_var 0 (pv 0)) (d_acons (d_tyname "int" (by rfl) B.b_int (by decide +kernel) (by decide)) d_anil)))) (d_last (d_ret d_int)) d_nil) (d_seq (d_if (d_tval (d_fn call_isi ol_isi (by rfl) B.b_isinstance (by decide +kernel) (d_acons (d_var 0 (pv 0)) (d_acons (d_tyname "str" (by rfl) B.b_str (by decide +kernel) (by decide)) d_anil)))) (d_last (d_ret d_int)) d_nil) (d_seq (d_if (d_tval (d_fn call_isi ol_isi (by rfl) B.b_isinstance (by decide +kernel) (d_acons (d_var 0 (pv 0)) (d_acons (d_tyname "list" (by rfl) B.b_list (by decide +kernel) (by decide)) d_anil)))) (d_last (d_ret d_int)) d_nil) (d_last (d_ret (d_ifE (d_tval (d_fn call_isi ol_isi (by rfl) B.b_isinstance (by decide +kernel) (d_acons (d_var 0 (pv 0)) (d_acons (d_tyname "tuple" (by rfl) B.b_tuple (by decide +kernel) (by decide)) d_anil)))) d_int d_int)))))))) law
abbrev st_law_same : Stmt := topS 44
theorem sc_law_same : FnScope ["_law_told", "_law_due", "_law_k", "_law_part"] ["_law_told", "_law_due"] (defScope st_law_same) := ⟨rfl, rfl, rfl, by decide +kernel, rfl, by decide +kernel, by decide +kernel⟩
theorem ok_law_same {s_law_sort : DSp} {s_law_same : DSp} {L : Nat} {sp : DSp} (df : DefAt K mg "_law_same" ["_law_told", "_law_due"] st_law_same) (h_law_sort : Cal P w K mg base 1 "_law_sort" ["_law_thing"] s_law_sort) (h_law_same : Cal P w K mg base L "_law_same" ["_law_told", "_law_due"] s_law_same) (B : Blt mg) (hL : 1 ≤ L) (len : ∀ ds M P PX, sp ds M P PX → ds.length = 2)
    (law : ∀ ds M P PX, sp ds M P PX → t_law_same s_law_sort s_law_same PX (dEnds P) (dst 4 ds) M) : Cal P w K mg base (L + 1) "_law_same" ["_law_told", "_law_due"] sp :=
  have sc := sc_law_same
  dcal (t := t_law_same s_law_sort s_law_same) df sc len (fun f cdv A outer s H E c cx => by
    exact (d_seq (d_if (d_tcmp (op_neD cx.hr.units) og_ne (d_call h_law_sort cx.hr (by omega) (by rfl) cx.tk (d_acons (d_var 0 (pv 0)) d_anil)) (d_call h_law_sort cx.hr (by omega) (by rfl) cx.tk (d_acons (d_var 1 (pv 1)) d_anil)) (nomark _)) (d_last (d_ret d_bl)) d_nil) (d_seq (d_if (d_wt (d_and (d_tcmp op_gt og_gt (d_call h_law_sort cx.hr (by omega) (by rfl) cx.tk (d_acons (d_var 0 (pv 0)) d_anil)) d_int (nomark _)) (d_and1 (d_tcmp op_lt og_lt (d_call h_law_sort cx.hr (by omega) (by rfl) cx.tk (d_acons (d_var 0 (pv 0)) d_anil)) d_int (nomark _))))) (d_seq (d_if (d_tcmp (op_neD cx.hr.units) og_ne (d_fn call_len ol_len (by rfl) B.b_len (by decide +kernel) (d_acons (d_var 0 (pv 0)) d_anil)) (d_fn call_len ol_len (by rfl) B.b_len (by decide +kernel) (d_acons (d_var 1 (pv 1)) d_anil)) (nomark _)) (d_last (d_ret d_bl)) d_nil) (d_last (d_ret (d_cmp (op_eqD cx.hr.units) og_eq (d_lc (own := [("_law_k", 2), ("_law_part", 3)]) rfl sc.nd (d_enum (by rfl) B.b_enumerate (d_acons (d_var 0 (pv 0)) d_anil)) (blkOk_by (N := ["_law_told", "_law_due", "_law_k", "_law_part"]) (sc := (defScope st_law_same)) (by decide +kernel)) (fun _ _ _ _ _ => (d_gt rfl (d_gcons (d_gn (i := 2) sc.nd rfl (.inl rfl) (by decide)) (d_gcons (d_gn (i := 3) sc.nd rfl (.inl rfl) (by decide)) d_gnil)))) (fun _ _ _ _ _ => (d_tsone (d_not (d_tval (d_call h_law_same cx.hr (by omega) (by rfl) takes_mute (d_acons (d_var 3 (pv 3)) (d_acons (d_index (d_var 1 (pv 1)) (d_var 2 (pv 2)) (fun _ _ => rfl)) d_anil))))))) (fun _ _ _ _ _ => (d_var 2 (pv 2)))) (d_lst d_anil) (nomark _))))) d_nil) (d_last (d_ret (d_cmp (op_eqD cx.hr.units) og_eq (d_var 0 (pv 0)) (d_var 1 (pv 1)) (nomark _))))))) law
abbrev st_law_kin : Stmt := topS 45
theorem sc_law_kin : FnScope ["_law_e", "_law_sorts", "_law_labels", "_law_label", "_law_good_here"] ["_law_e"] (defScope st_law_kin) := ⟨rfl, rfl, rfl, by decide +kernel, rfl, by decide +kernel, by decide +kernel⟩
theorem ok_law_kin {c_InvalidTick : D} {c_InvalidBeginning : D} {c_InvalidBox : D} {c_InvalidNumber : D} {c_InvalidFacts : D} {c_InvalidTooth : D} {c_Unlike : D} {c_NoBeginning : D} {c_InvalidIndex : D} {c_InvalidText : D} {c_TooMany : D} {c_NothingToUndo : D} {sp : DSpE} (df : DefAt K mg "_law_kin" ["_law_e"] st_law_kin) (g_InvalidTick : GCon K mg "InvalidTick" c_InvalidTick) (g_InvalidBeginning : GCon K mg "InvalidBeginning" c_InvalidBeginning) (g_InvalidBox : GCon K mg "InvalidBox" c_InvalidBox) (g_InvalidNumber : GCon K mg "InvalidNumber" c_InvalidNumber) (g_InvalidFacts : GCon K mg "InvalidFacts" c_InvalidFacts) (g_InvalidTooth : GCon K mg "InvalidTooth" c_InvalidTooth) (g_Unlike : GCon K mg "Unlike" c_Unlike) (g_NoBeginning : GCon K mg "NoBeginning" c_NoBeginning) (g_InvalidIndex : GCon K mg "InvalidIndex" c_InvalidIndex) (g_InvalidText : GCon K mg "InvalidText" c_InvalidText) (g_TooMany : GCon K mg "TooMany" c_TooMany) (g_NothingToUndo : GCon K mg "NothingToUndo" c_NothingToUndo) (B : Blt mg) (hVE : mg "ValueError" = none) (len : ∀ g ds M P, sp g ds M P → ds.length = 1)
    (law : ∀ g ds M P, sp g ds M P → t_law_kin c_InvalidTick c_InvalidBeginning c_InvalidBox c_InvalidNumber c_InvalidFacts c_InvalidTooth c_Unlike c_NoBeginning c_InvalidIndex c_InvalidText c_TooMany c_NothingToUndo g (dEnds P) (dst 5 ds) M) : CalE P w K mg base 1 "_law_kin" ["_law_e"] sp :=
  have sc := sc_law_kin
  dcalE (k := 0) (t := fun gI => t_law_kin c_InvalidTick c_InvalidBeginning c_InvalidBox c_InvalidNumber c_InvalidFacts c_InvalidTooth c_Unlike c_NoBeginning c_InvalidIndex c_InvalidText c_TooMany c_NothingToUndo gI) df sc len (fun f cdv A outer s H E p Dc c hot hp hisi => by
    exact (d_seq (d_set (i := 1) sc.nd rfl (.inl rfl) (d_lst (d_acons (d_fn hisi ol_isE (by rfl) B.b_isinstance (by decide +kernel) (d_acons (d_var 0 (pv 0)) (d_acons (d_glob (by rfl) g_InvalidBox) d_anil))) (d_acons (d_fn hisi ol_isE (by rfl) B.b_isinstance (by decide +kernel) (d_acons (d_var 0 (pv 0)) (d_acons (d_glob (by rfl) g_InvalidBeginning) d_anil))) (d_acons (d_fn hisi ol_isE (by rfl) B.b_isinstance (by decide +kernel) (d_acons (d_var 0 (pv 0)) (d_acons (d_glob (by rfl) g_InvalidTick) d_anil))) d_anil))))) (d_seq (d_set (i := 1) sc.nd rfl (.inl rfl) (d_add (d_var 1 (pv 1)) (d_lst (d_acons (d_fn hisi ol_isE (by rfl) B.b_isinstance (by decide +kernel) (d_acons (d_var 0 (pv 0)) (d_acons (d_glob (by rfl) g_InvalidTooth) d_anil))) (d_acons (d_fn hisi ol_isE (by rfl) B.b_isinstance (by decide +kernel) (d_acons (d_var 0 (pv 0)) (d_acons (d_glob (by rfl) g_InvalidFacts) d_anil))) (d_acons (d_fn hisi ol_isE (by rfl) B.b_isinstance (by decide +kernel) (d_acons (d_var 0 (pv 0)) (d_acons (d_glob (by rfl) g_InvalidNumber) d_anil))) d_anil)))))) (d_seq (d_set (i := 1) sc.nd rfl (.inl rfl) (d_add (d_var 1 (pv 1)) (d_lst (d_acons (d_fn hisi ol_isE (by rfl) B.b_isinstance (by decide +kernel) (d_acons (d_var 0 (pv 0)) (d_acons (d_glob (by rfl) g_InvalidIndex) d_anil))) (d_acons (d_fn hisi ol_isE (by rfl) B.b_isinstance (by decide +kernel) (d_acons (d_var 0 (pv 0)) (d_acons (d_glob (by rfl) g_NoBeginning) d_anil))) (d_acons (d_fn hisi ol_isE (by rfl) B.b_isinstance (by decide +kernel) (d_acons (d_var 0 (pv 0)) (d_acons (d_glob (by rfl) g_Unlike) d_anil))) d_anil)))))) (d_seq (d_set (i := 1) sc.nd rfl (.inl rfl) (d_add (d_var 1 (pv 1)) (d_lst (d_acons (d_fn hisi ol_isE (by rfl) B.b_isinstance (by decide +kernel) (d_acons (d_var 0 (pv 0)) (d_acons (d_glob (by rfl) g_NothingToUndo) d_anil))) (d_acons (d_fn hisi ol_isE (by rfl) B.b_isinstance (by decide +kernel) (d_acons (d_var 0 (pv 0)) (d_acons (d_glob (by rfl) g_TooMany) d_anil))) (d_acons (d_fn hisi ol_isE (by rfl) B.b_isinstance (by decide +kernel) (d_acons (d_var 0 (pv 0)) (d_acons (d_glob (by rfl) g_InvalidText) d_anil))) d_anil)))))) (d_seq (d_set (i := 1) sc.nd rfl (.inl rfl) (d_add (d_var 1 (pv 1)) (d_lst (d_acons (d_fn hisi ol_isE (by rfl) B.b_isinstance (by decide +kernel) (d_acons (d_var 0 (pv 0)) (d_acons (d_tyname "ValueError" (by rfl) hVE (by decide +kernel) (by decide)) d_anil))) d_anil)))) (d_seq (d_set (i := 2) sc.nd rfl (.inl rfl) d_str) (d_last (d_ret (d_join d_str (d_lcE (own := [("_law_label", 3), ("_law_good_here", 4)]) sc.nd (d_zipE hot hp (by rfl) B.b_zip (d_acons (d_split (d_var 2 (pv 2)) d_str) (d_acons (d_var 1 (pv 1)) d_anil))) (blkOk_by (N := ["_law_e", "_law_sorts", "_law_labels", "_law_label", "_law_good_here"]) (sc := (defScope st_law_kin)) (by decide +kernel)) (fun _ _ _ _ _ hI => (d_gtE hI (d_gcons (d_gn (i := 3) sc.nd rfl (.inl rfl) (by decide)) (d_gcons (d_gn (i := 4) sc.nd rfl (.inl rfl) (by decide)) d_gnil)))) (fun _ _ _ _ _ => (d_tsone (d_tval (d_var 4 (pv 4))))) (fun _ _ _ _ _ => (d_var 3 (pv 3)))))))))))))) law
abbrev st_law_try : Stmt := topS 46
theorem sc_law_try : FnScope NgT ["_law_call_so"] (defScope st_law_try) := ⟨rfl, rfl, rfl, by decide +kernel, rfl, by decide +kernel, by decide +kernel⟩
theorem tryAt {X : Cx} {k : Nat} {sp : DSpE} {q : Str} {C1 C2 C3 : Addr} (df : DefAt X.K X.mg "_law_try" ["_law_call_so"] st_law_try) (kin : CalE X.prog X.w X.K X.mg X.base 1 "_law_kin" ["_law_e"] sp) (hk : 1 ≤ k) (m1 : X.mg "InvalidText" = some (.ref C1)) (m2 : X.mg "TooMany" = some (.ref C2)) (m3 : X.mg "BoxError" = some (.ref C3)) :
    TryAt X "_law_try" k (TTry X.K X.mg sp) q "_law_call_so" NgT := by
  obtain ⟨f, fd, F, hm, b⟩ := df.ex
  obtain ⟨oc, od, dV, kV, doc, pm, an, cdv, ct, osl, e, lk, hcd, _, _⟩ := F.ex
  subst e
  exact ⟨f, defArgs st_law_try, defBody st_law_try, defScope st_law_try, dV, kV, doc, pm, cdv, ct, oc, an, od, osl, hm, F.kp, lk, hcd, b, sc_law_try, rfl, .inl rfl, try_gives sc_law_try rfl rfl (.inl rfl) rfl rfl rfl rfl kin hk m1 m2 m3⟩
abbrev st_law_known : Stmt := topS 47
theorem sc_law_known : FnScope ["_law_one_here", "_law_two"] [] (defScope st_law_known) := ⟨rfl, rfl, rfl, by decide +kernel, rfl, by decide +kernel, by decide +kernel⟩
theorem ok_law_known {sp : DSp} (df : DefAt K mg "_law_known" [] st_law_known)  (len : ∀ ds M P PX, sp ds M P PX → ds.length = 0)
    (law : ∀ ds M P PX, sp ds M P PX → t_law_known PX (dEnds P) (dst 2 ds) M) : Cal P w K mg base 1 "_law_known" [] sp :=
  have sc := sc_law_known
  dcal (t := t_law_known) df sc len (fun f cdv A outer s H E c cx => by
    exact (d_seq (d_asg (vs := [0, 1]) (d_tup (d_acons (d_tup (d_acons d_int (d_acons (d_tup (d_acons (d_tup (d_acons d_str (d_acons d_str d_anil))) d_anil)) d_anil))) (d_acons (d_tup (d_acons d_int (d_acons (d_tup (d_acons (d_tup (d_acons d_str (d_acons d_str (d_acons d_str d_anil)))) (d_acons (d_tup (d_acons d_str (d_acons d_str d_anil))) d_anil))) d_anil))) d_anil))) (d_gt rfl (d_gcons (d_gn (i := 0) sc.nd rfl (.inl rfl) (by decide)) (d_gcons (d_gn (i := 1) sc.nd rfl (.inl rfl) (by decide)) d_gnil)))) (d_last (d_ret (d_tup (d_acons (d_var 0 (pv 0)) (d_acons (d_var 1 (pv 1)) (d_acons (d_tup (d_acons d_int (d_acons (d_tup (d_acons (d_tup (d_acons d_str d_anil)) (d_acons (d_tup (d_acons d_str (d_acons d_str (d_acons d_str (d_acons d_str d_anil))))) d_anil))) d_anil))) (d_acons (d_tup (d_acons d_int (d_acons (d_tup (d_acons (d_tup (d_acons d_str (d_acons d_str d_anil))) d_anil)) d_anil))) d_anil))))))))) law
abbrev st_law_some_teeth : Stmt := topS 48
theorem sc_law_some_teeth : FnScope ["_law_deck_here", "_law_size_here", "_law_turn"] ["_law_deck_here"] (defScope st_law_some_teeth) := ⟨rfl, rfl, rfl, by decide +kernel, rfl, by decide +kernel, by decide +kernel⟩
theorem ok_law_some_teeth {s_law_one : DSp} {sp : DSp} (df : DefAt K mg "_law_some_teeth" ["_law_deck_here"] st_law_some_teeth) (h_law_one : Cal P w K mg base 2 "_law_one" ["_law_deck_here", "_law_some"] s_law_one) (B : Blt mg) (len : ∀ ds M P PX, sp ds M P PX → ds.length = 1)
    (law : ∀ ds M P PX, sp ds M P PX → t_law_some_teeth s_law_one PX (dEnds P) (dst 3 ds) M) : Cal P w K mg base 3 "_law_some_teeth" ["_law_deck_here"] sp :=
  have sc := sc_law_some_teeth
  dcal (t := t_law_some_teeth s_law_one) df sc len (fun f cdv A outer s H E c cx => by
    exact (d_seq (d_set (i := 1) sc.nd rfl (.inl rfl) (d_call h_law_one cx.hr (by omega) (by rfl) cx.tk (d_acons (d_var 0 (pv 0)) (d_acons (d_lst (d_acons d_int (d_acons d_int (d_acons d_int (d_acons d_int (d_acons d_int (d_acons d_int (d_acons d_int d_anil)))))))) d_anil)))) (d_last (d_ret (d_join d_str (d_srtSet rfl (d_lc (own := [("_law_turn", 2)]) rfl sc.nd (d_rng1 (by rfl) B.b_range (d_acons (d_var 1 (pv 1)) d_anil)) (blkOk_by (N := ["_law_deck_here", "_law_size_here", "_law_turn"]) (sc := (defScope st_law_some_teeth)) (by decide +kernel)) (fun _ _ _ _ _ => (d_gn (i := 2) sc.nd rfl (.inl rfl) (by decide))) (fun _ _ _ _ _ => d_tsnil) (fun _ _ _ _ _ => (d_call h_law_one cx.hr (by omega) (by rfl) takes_mute (d_acons (d_var 0 (pv 0)) (d_acons (d_lst (d_acons d_str (d_acons d_str (d_acons d_str (d_acons d_str d_anil))))) d_anil))))) (by rfl) B.b_sorted (by decide +kernel) (by rfl) B.b_set (by decide +kernel))))))) law
abbrev st_law_a_box : Stmt := topS 49
theorem sc_law_a_box : FnScope ["_law_deck_here", "_law_most", "_law_barrels_so", "_law_turn", "_law_barrel_so", "_law_tick_so"] ["_law_deck_here", "_law_most"] (defScope st_law_a_box) := ⟨rfl, rfl, rfl, by decide +kernel, rfl, by decide +kernel, by decide +kernel⟩
theorem ok_law_a_box {s_law_pick : DSp} {s_law_some_teeth : DSp} {s_law_one : DSp} {sp : DSp} (df : DefAt K mg "_law_a_box" ["_law_deck_here", "_law_most"] st_law_a_box) (h_law_pick : Cal P w K mg base 1 "_law_pick" ["_law_deck_here", "_law_size_here"] s_law_pick) (h_law_some_teeth : Cal P w K mg base 3 "_law_some_teeth" ["_law_deck_here"] s_law_some_teeth) (h_law_one : Cal P w K mg base 2 "_law_one" ["_law_deck_here", "_law_some"] s_law_one) (B : Blt mg) (len : ∀ ds M P PX, sp ds M P PX → ds.length = 2)
    (law : ∀ ds M P PX, sp ds M P PX → t_law_a_box s_law_pick s_law_some_teeth s_law_one PX (dEnds P) (dst 6 ds) M) : Cal P w K mg base 4 "_law_a_box" ["_law_deck_here", "_law_most"] sp :=
  have sc := sc_law_a_box
  dcal (t := t_law_a_box s_law_pick s_law_some_teeth s_law_one) df sc len (fun f cdv A outer s H E c cx => by
    exact (d_seq (d_set (i := 2) sc.nd rfl (.inl rfl) (d_lstH d_anil)) (d_seq (d_for (vs := [3]) cx.hp rfl (d_rng1 (by rfl) B.b_range (d_acons (d_add d_int (d_call h_law_pick cx.hr (by omega) (by rfl) cx.tk (d_acons (d_var 0 (pv 0)) (d_acons d_int d_anil)))) d_anil)) (d_gn (i := 3) sc.nd rfl (.inl rfl) (by decide)) (d_seq (d_set (i := 4) sc.nd rfl (.inl rfl) (d_fty call_tuple_of ol_tuple (by rfl) B.b_tuple (by decide +kernel) (d_acons (d_lc (own := [("_law_tick_so", 5)]) rfl sc.nd (d_rng1 (by rfl) B.b_range (d_acons (d_add d_int (d_call h_law_pick cx.hr (by omega) (by rfl) cx.tk (d_acons (d_var 0 (pv 0)) (d_acons (d_var 1 (pv 1)) d_anil)))) d_anil)) (blkOk_by (N := ["_law_deck_here", "_law_most", "_law_barrels_so", "_law_turn", "_law_barrel_so", "_law_tick_so"]) (sc := (defScope st_law_a_box)) (by decide +kernel)) (fun _ _ _ _ _ => (d_gn (i := 5) sc.nd rfl (.inl rfl) (by decide))) (fun _ _ _ _ _ => d_tsnil) (fun _ _ _ _ _ => (d_call h_law_some_teeth cx.hr (by omega) (by rfl) takes_mute (d_acons (d_var 0 (pv 0)) d_anil)))) d_anil))) (d_seq (d_if (d_wt (d_and (d_tcmp (op_eqD cx.hr.units) og_eq (d_call h_law_pick cx.hr (by omega) (by rfl) cx.tk (d_acons (d_var 0 (pv 0)) (d_acons d_int d_anil))) d_int (nomark _)) (d_and1 (d_tcmp op_lt og_lt (d_fn call_len ol_len (by rfl) B.b_len (by decide +kernel) (d_acons (d_var 4 (pv 4)) d_anil)) d_int (nomark _))))) (d_last (d_set (i := 4) sc.nd rfl (.inl rfl) (d_slice (d_add (d_var 4 (pv 4)) (d_var 4 (pv 4))) d_nopart (d_part (d_var 1 (pv 1)))))) d_nil) (d_last (d_expr (d_append (d_var 2 (pv 2)) (d_var 4 (pv 4)))))))) (d_last (d_ret (d_tup (d_acons (d_call h_law_one cx.hr (by omega) (by rfl) cx.tk (d_acons (d_var 0 (pv 0)) (d_acons (d_lst (d_acons d_int (d_acons d_int (d_acons d_int (d_acons d_int (d_acons d_int d_anil)))))) d_anil))) (d_acons (d_fty call_tuple_of ol_tuple (by rfl) B.b_tuple (by decide +kernel) (d_acons (d_var 2 (pv 2)) d_anil)) d_anil)))))))) law
abbrev st_law_starts : Stmt := topS 50
theorem sc_law_starts : FnScope ["_law_box_so", "_law_found", "_law_barrel_so", "_law_longer", "_law_row", "_law_at"] ["_law_box_so"] (defScope st_law_starts) := ⟨rfl, rfl, rfl, by decide +kernel, rfl, by decide +kernel, by decide +kernel⟩
theorem ok_law_starts {sp : DSp} (df : DefAt K mg "_law_starts" ["_law_box_so"] st_law_starts) (B : Blt mg) (len : ∀ ds M P PX, sp ds M P PX → ds.length = 1)
    (law : ∀ ds M P PX, sp ds M P PX → t_law_starts PX (dEnds P) (dst 6 ds) M) : Cal P w K mg base 1 "_law_starts" ["_law_box_so"] sp :=
  have sc := sc_law_starts
  dcal (t := t_law_starts) df sc len (fun f cdv A outer s H E c cx => by
    exact (d_seq (d_set (i := 1) sc.nd rfl (.inl rfl) (d_lst (d_acons (d_tup d_anil) d_anil))) (d_seq (d_for (vs := [2]) cx.hp rfl (d_iter (d_index (d_var 0 (pv 0)) d_int (fun _ _ => rfl))) (d_gn (i := 2) sc.nd rfl (.inl rfl) (by decide)) (d_seq (d_set (i := 3) sc.nd rfl (.inl rfl) (d_lst d_anil)) (d_seq (d_for (vs := [4]) cx.hp rfl (d_iter (d_var 1 (pv 1))) (d_gn (i := 4) sc.nd rfl (.inr rfl) (by decide)) (d_last (d_set (i := 3) sc.nd rfl (.inl rfl) (d_add (d_var 3 (pv 3)) (d_lc (own := [("_law_at", 5)]) rfl sc.nd (d_rng1 (by rfl) B.b_range (d_acons (d_fn call_len ol_len (by rfl) B.b_len (by decide +kernel) (d_acons (d_var 2 (pv 2)) d_anil)) d_anil)) (blkOk_by (N := ["_law_box_so", "_law_found", "_law_barrel_so", "_law_longer", "_law_row", "_law_at"]) (sc := (defScope st_law_starts)) (by decide +kernel)) (fun _ _ _ _ _ => (d_gn (i := 5) sc.nd rfl (.inl rfl) (by decide))) (fun _ _ _ _ _ => d_tsnil) (fun _ _ _ _ _ => (d_add (d_var 4 (pv 4)) (d_tup (d_acons (d_var 5 (pv 5)) d_anil))))))))) (d_last (d_set (i := 1) sc.nd rfl (.inl rfl) (d_var 3 (pv 3))))))) (d_last (d_ret (d_var 1 (pv 1))))))) law
abbrev st_law_plucks : Stmt := topS 51
theorem sc_law_plucks : FnScope ["_law_box_so", "_law_start_so", "_law_tick_so", "_law_found", "_law_at", "_law_barrel_so"] ["_law_box_so", "_law_start_so", "_law_tick_so"] (defScope st_law_plucks) := ⟨rfl, rfl, rfl, by decide +kernel, rfl, by decide +kernel, by decide +kernel⟩
theorem ok_law_plucks {sp : DSp} (df : DefAt K mg "_law_plucks" ["_law_box_so", "_law_start_so", "_law_tick_so"] st_law_plucks) (B : Blt mg) (len : ∀ ds M P PX, sp ds M P PX → ds.length = 3)
    (law : ∀ ds M P PX, sp ds M P PX → t_law_plucks PX (dEnds P) (dst 6 ds) M) : Cal P w K mg base 1 "_law_plucks" ["_law_box_so", "_law_start_so", "_law_tick_so"] sp :=
  have sc := sc_law_plucks
  dcal (t := t_law_plucks) df sc len (fun f cdv A outer s H E c cx => by
    exact (d_seq (d_set (i := 3) sc.nd rfl (.inl rfl) (d_lst d_anil)) (d_seq (d_for (vs := [4]) cx.hp rfl (d_rng1 (by rfl) B.b_range (d_acons (d_fn call_len ol_len (by rfl) B.b_len (by decide +kernel) (d_acons (d_var 1 (pv 1)) d_anil)) d_anil)) (d_gn (i := 4) sc.nd rfl (.inl rfl) (by decide)) (d_seq (d_set (i := 5) sc.nd rfl (.inl rfl) (d_index (d_index (d_var 0 (pv 0)) d_int (fun _ _ => rfl)) (d_var 4 (pv 4)) (fun _ _ => rfl))) (d_last (d_set (i := 3) sc.nd rfl (.inl rfl) (d_add (d_var 3 (pv 3)) (d_fty (call_listA rfl) ol_list (by rfl) B.b_list (by decide +kernel) (d_acons (d_index (d_var 5 (pv 5)) (d_mod (d_fty call_int1 ol_int1 (by rfl) B.b_int (by decide +kernel) (d_acons (d_add (d_index (d_var 1 (pv 1)) (d_var 4 (pv 4)) (fun _ _ => rfl)) (d_var 2 (pv 2))) d_anil)) (d_fn call_len ol_len (by rfl) B.b_len (by decide +kernel) (d_acons (d_var 5 (pv 5)) d_anil))) (fun _ _ => rfl)) d_anil))))))) (d_last (d_ret (d_fn cr_sortA ol_sorted (by rfl) B.b_sorted (by decide +kernel) (d_acons (d_var 3 (pv 3)) d_anil))))))) law
abbrev st_law_size : Stmt := topS 52
theorem sc_law_size : FnScope ["_law_box_so", "_law_found", "_law_barrel_so"] ["_law_box_so"] (defScope st_law_size) := ⟨rfl, rfl, rfl, by decide +kernel, rfl, by decide +kernel, by decide +kernel⟩
theorem ok_law_size {sp : DSp} (df : DefAt K mg "_law_size" ["_law_box_so"] st_law_size) (B : Blt mg) (len : ∀ ds M P PX, sp ds M P PX → ds.length = 1)
    (law : ∀ ds M P PX, sp ds M P PX → t_law_size PX (dEnds P) (dst 3 ds) M) : Cal P w K mg base 1 "_law_size" ["_law_box_so"] sp :=
  have sc := sc_law_size
  dcal (t := t_law_size) df sc len (fun f cdv A outer s H E c cx => by
    exact (d_seq (d_set (i := 1) sc.nd rfl (.inr rfl) d_int) (d_seq (d_while cx.hp (d_tcmp (op_neD cx.hr.units) og_ne (d_lc (own := [("_law_barrel_so", 2)]) rfl sc.nd (d_iter (d_index (d_var 0 (pv 0)) d_int (fun _ _ => rfl))) (blkOk_by (N := ["_law_box_so", "_law_found", "_law_barrel_so"]) (sc := (defScope st_law_size)) (by decide +kernel)) (fun _ _ _ _ _ => (d_gn (i := 2) sc.nd rfl (.inl rfl) (by decide))) (fun _ _ _ _ _ => (d_tsone (d_tcmp (op_neD cx.hr.units) og_ne (d_mod (d_fty call_int1 ol_int1 (by rfl) B.b_int (by decide +kernel) (d_acons (d_var 1 (pv 1)) d_anil)) (d_fn call_len ol_len (by rfl) B.b_len (by decide +kernel) (d_acons (d_var 2 (pv 2)) d_anil))) d_int (nomark _)))) (fun _ _ _ _ _ => d_int)) (d_lst d_anil) (nomark _)) (d_last (d_set (i := 1) sc.nd rfl (.inr rfl) (d_add (d_var 1 (pv 1)) d_int)))) (d_last (d_ret (d_var 1 (pv 1))))))) law
abbrev st_law_clashes : Stmt := topS 53
theorem sc_law_clashes : FnScope ["_law_box_so", "_law_start_so", "_law_many", "_law_found", "_law_last", "_law_tick_so", "_law_some", "_law_bad", "_law_one_here"] ["_law_box_so", "_law_start_so", "_law_many"] (defScope st_law_clashes) := ⟨rfl, rfl, rfl, by decide +kernel, rfl, by decide +kernel, by decide +kernel⟩
theorem ok_law_clashes {s_law_plucks : DSp} {sp : DSp} (df : DefAt K mg "_law_clashes" ["_law_box_so", "_law_start_so", "_law_many"] st_law_clashes) (h_law_plucks : Cal P w K mg base 1 "_law_plucks" ["_law_box_so", "_law_start_so", "_law_tick_so"] s_law_plucks) (B : Blt mg) (len : ∀ ds M P PX, sp ds M P PX → ds.length = 3)
    (law : ∀ ds M P PX, sp ds M P PX → t_law_clashes s_law_plucks PX (dEnds P) (dst 9 ds) M) : Cal P w K mg base 2 "_law_clashes" ["_law_box_so", "_law_start_so", "_law_many"] sp :=
  have sc := sc_law_clashes
  dcal (t := t_law_clashes s_law_plucks) df sc len (fun f cdv A outer s H E c cx => by
    exact (d_seq (d_asg (vs := [3, 4]) (d_tup (d_acons (d_lstH d_anil) (d_acons d_newK d_anil))) (d_gt rfl (d_gcons (d_gn (i := 3) sc.nd rfl (.inl rfl) (by decide)) (d_gcons (d_gn (i := 4) sc.nd rfl (.inr rfl) (by decide)) d_gnil)))) (d_seq (d_for (vs := [5]) cx.hp rfl (d_rng1 (by rfl) B.b_range (d_acons (d_var 2 (pv 2)) d_anil)) (d_gn (i := 5) sc.nd rfl (.inr rfl) (by decide)) (d_seq (d_set (i := 6) sc.nd rfl (.inr rfl) (d_call h_law_plucks cx.hr (by omega) (by rfl) cx.tk (d_acons (d_var 0 (pv 0)) (d_acons (d_var 1 (pv 1)) (d_acons (d_var 5 (pv 5)) d_anil))))) (d_seq (d_setLc (i := 7) (own := [("_law_one_here", 8)]) rfl sc.nd rfl rfl (sw_true rfl rfl rfl (by decide +kernel)) (d_iter (d_var 6 (pv 6))) (blkOk_by (N := ["_law_box_so", "_law_start_so", "_law_many", "_law_found", "_law_last", "_law_tick_so", "_law_some", "_law_bad", "_law_one_here"]) (sc := (defScope st_law_clashes)) (by decide +kernel)) (fun _ _ _ _ _ => (d_gn (i := 8) sc.nd rfl (.inl rfl) (by decide))) (fun _ _ _ _ _ => (d_tsone (d_wt (d_or (d_tcmp op_gt og_gt (d_count cx.hr (d_var 6 (pv 6)) (d_var 8 (pv 8))) d_int (nomark _)) (d_or1 (d_tcmp op_le og_le (d_sub (d_var 5 (pv 5)) (d_get2D (hu65 cx.hr) (d_var 4 (pv 4)) (d_var 8 (pv 8)) (d_neg d_int) ⟨rfl, rfl, rfl, rfl⟩)) (d_index (d_var 0 (pv 0)) d_int (fun _ _ => rfl)) (nomark _))))))) (fun _ _ _ _ _ => (d_var 8 (pv 8)))) (d_seq (d_if (d_tcmp (op_neD cx.hr.units) og_ne (d_var 7 (pv 7)) (d_lst d_anil) (nomark _)) (d_last (d_expr (d_append (d_var 3 (pv 3)) (d_var 5 (pv 5))))) d_nil) (d_last (d_for (vs := [8]) cx.hp rfl (d_iter (d_var 6 (pv 6))) (d_gn (i := 8) sc.nd rfl (.inl rfl) (by decide)) (d_last (d_dput (hu65 cx.hr) (d_var 4 (pv 4)) (d_var 8 (pv 8)) (d_var 5 (pv 5)))))))))) (d_last (d_frz 3 (d_retD (d_var 3 (pv 3)))))))) law
abbrev st_law_share : Stmt := topS 54
theorem sc_law_share : FnScope ["_law_box_so", "_law_start_so", "_law_size_here", "_law_top", "_law_one_here", "_law_other"] ["_law_box_so", "_law_start_so"] (defScope st_law_share) := ⟨rfl, rfl, rfl, by decide +kernel, rfl, by decide +kernel, by decide +kernel⟩
theorem ok_law_share {s_law_size : DSp} {s_law_clashes : DSp} {sp : DSp} (df : DefAt K mg "_law_share" ["_law_box_so", "_law_start_so"] st_law_share) (h_law_size : Cal P w K mg base 1 "_law_size" ["_law_box_so"] s_law_size) (h_law_clashes : Cal P w K mg base 2 "_law_clashes" ["_law_box_so", "_law_start_so", "_law_many"] s_law_clashes) (B : Blt mg) (len : ∀ ds M P PX, sp ds M P PX → ds.length = 2)
    (law : ∀ ds M P PX, sp ds M P PX → t_law_share s_law_size s_law_clashes PX (dEnds P) (dst 6 ds) M) : Cal P w K mg base 3 "_law_share" ["_law_box_so", "_law_start_so"] sp :=
  have sc := sc_law_share
  dcal (t := t_law_share s_law_size s_law_clashes) df sc len (fun f cdv A outer s H E c cx => by
    exact (d_seq (d_set (i := 2) sc.nd rfl (.inr rfl) (d_call h_law_size cx.hr (by omega) (by rfl) cx.tk (d_acons (d_var 0 (pv 0)) d_anil))) (d_seq (d_set (i := 3) sc.nd rfl (.inl rfl) (d_fn call_len ol_len (by rfl) B.b_len (by decide +kernel) (d_acons (d_lc (own := [("_law_one_here", 4)]) rfl sc.nd (d_iter (d_call h_law_clashes cx.hr (by omega) (by rfl) cx.tk (d_acons (d_var 0 (pv 0)) (d_acons (d_var 1 (pv 1)) (d_acons (d_add (d_mul d_int (d_var 2 (pv 2))) d_int) d_anil))))) (blkOk_by (N := ["_law_box_so", "_law_start_so", "_law_size_here", "_law_top", "_law_one_here", "_law_other"]) (sc := (defScope st_law_share)) (by decide +kernel)) (fun _ _ _ _ _ => (d_gn (i := 4) sc.nd rfl (.inl rfl) (by decide))) (fun _ _ _ _ _ => (d_tsone (d_tcmp op_lt og_lt (d_add (d_mul d_int (d_var 2 (pv 2))) d_int) (d_var 4 (pv 4)) (nomark _)))) (fun _ _ _ _ _ => (d_var 4 (pv 4)))) d_anil))) (d_seq (d_par (i := 4) (j := 5) rfl sc.nd rfl rfl (by decide) rfl rfl (d_acons (d_var 3 (pv 3)) (d_acons (d_var 2 (pv 2)) d_anil)) (by rfl)) (d_seq (d_while cx.hp (d_tcmp (op_neD cx.hr.units) og_ne (d_var 5 (pv 5)) d_int (nomark _)) (d_last (d_par (i := 4) (j := 5) rfl sc.nd rfl rfl (by decide) rfl rfl (d_acons (d_var 5 (pv 5)) (d_acons (d_mod (d_var 4 (pv 4)) (d_var 5 (pv 5))) d_anil)) (by rfl)))) (d_last (d_ret (d_tup (d_acons (d_div (d_var 3 (pv 3)) (d_var 4 (pv 4))) (d_acons (d_div (d_var 2 (pv 2)) (d_var 4 (pv 4))) d_anil)))))))))) law
abbrev st_law_good : Stmt := topS 55
theorem sc_law_good : FnScope ["_law_box_so", "_law_free", "_law_shares_so", "_law_start_so", "_law_some", "_law_share_so", "_law_least_so", "_law_due", "_law_row"] ["_law_box_so"] (defScope st_law_good) := ⟨rfl, rfl, rfl, by decide +kernel, rfl, by decide +kernel, by decide +kernel⟩
theorem ok_law_good {s_law_starts : DSp} {s_law_clashes : DSp} {s_law_size : DSp} {s_law_same : DSp} {s_first_clash : DSp} {s_law_share : DSp} {s_clash_share : DSp} {s_clean : DSp} {s_least_share : DSp} {sp : DSp} (df : DefAt K mg "_law_good" ["_law_box_so"] st_law_good) (h_law_starts : Cal P w K mg base 1 "_law_starts" ["_law_box_so"] s_law_starts) (h_law_clashes : Cal P w K mg base 2 "_law_clashes" ["_law_box_so", "_law_start_so", "_law_many"] s_law_clashes) (h_law_size : Cal P w K mg base 1 "_law_size" ["_law_box_so"] s_law_size) (h_law_same : Cal P w K mg base 9 "_law_same" ["_law_told", "_law_due"] s_law_same) (h_first_clash : Cal P w K mg base 5 "first_clash" ["box", "beginning"] s_first_clash) (h_law_share : Cal P w K mg base 3 "_law_share" ["_law_box_so", "_law_start_so"] s_law_share) (h_clash_share : Cal P w K mg base 5 "clash_share" ["box", "beginning"] s_clash_share) (h_clean : Cal P w K mg base 6 "clean" ["box"] s_clean) (h_least_share : Cal P w K mg base 5 "least_share" ["box"] s_least_share) (B : Blt mg) (len : ∀ ds M P PX, sp ds M P PX → ds.length = 1)
    (law : ∀ ds M P PX, sp ds M P PX → t_law_good_k04 s_law_starts s_law_clashes s_law_size s_law_same s_first_clash s_law_share s_clash_share s_clean s_least_share PX (dEnds P) (dst 9 ds) M) : Cal P w K mg base 10 "_law_good" ["_law_box_so"] sp :=
  have sc := sc_law_good
  dcal (t := t_law_good_k04 s_law_starts s_law_clashes s_law_size s_law_same s_first_clash s_law_share s_clash_share s_clean s_least_share) df sc len (fun f cdv A outer s H E c cx => by
    exact (d_seq (d_par (i := 1) (j := 2) rfl sc.nd rfl rfl (by decide) rfl rfl (d_acons (d_lst d_anil) (d_acons (d_lstH d_anil) d_anil)) (by rfl)) (d_seq (d_for (vs := [3]) cx.hp rfl (d_iter (d_call h_law_starts cx.hr (by omega) (by rfl) cx.tk (d_acons (d_var 0 (pv 0)) d_anil))) (d_gn (i := 3) sc.nd rfl (.inl rfl) (by decide)) (d_seq (d_set (i := 4) sc.nd rfl (.inl rfl) (d_call h_law_clashes cx.hr (by omega) (by rfl) cx.tk (d_acons (d_var 0 (pv 0)) (d_acons (d_var 3 (pv 3)) (d_acons (d_add (d_mul d_int (d_call h_law_size cx.hr (by omega) (by rfl) cx.tk (d_acons (d_var 0 (pv 0)) d_anil))) d_int) d_anil))))) (d_seq (d_set (i := 1) sc.nd rfl (.inl rfl) (d_add (d_var 1 (pv 1)) (d_ifE (d_tcmp (op_eqD cx.hr.units) og_eq (d_var 4 (pv 4)) (d_lst d_anil) (nomark _)) (d_lst (d_acons (d_var 3 (pv 3)) d_anil)) (d_lst d_anil)))) (d_seq (d_if (d_not (d_tval (d_call h_law_same cx.hr (by omega) (by rfl) cx.tk (d_acons (d_call h_first_clash cx.hr (by omega) (by rfl) cx.tk (d_acons (d_var 0 (pv 0)) (d_acons (d_var 3 (pv 3)) d_anil))) (d_acons (d_ifE (d_tcmp (op_neD cx.hr.units) og_ne (d_var 4 (pv 4)) (d_lst d_anil) (nomark _)) (d_index (d_var 4 (pv 4)) d_int (fun _ _ => rfl)) d_non) d_anil))))) (d_last (d_ret d_bl)) d_nil) (d_seq (d_set (i := 5) sc.nd rfl (.inl rfl) (d_call h_law_share cx.hr (by omega) (by rfl) cx.tk (d_acons (d_var 0 (pv 0)) (d_acons (d_var 3 (pv 3)) d_anil)))) (d_seq (d_expr (d_append (d_var 2 (pv 2)) (d_tup (d_acons (d_div (d_mul (d_index (d_var 5 (pv 5)) d_int (fun _ _ => rfl)) (d_call h_law_size cx.hr (by omega) (by rfl) cx.tk (d_acons (d_var 0 (pv 0)) d_anil))) (d_index (d_var 5 (pv 5)) d_int (fun _ _ => rfl))) (d_acons (d_var 3 (pv 3)) (d_acons (d_var 5 (pv 5)) d_anil)))))) (d_last (d_if (d_not (d_tval (d_call h_law_same cx.hr (by omega) (by rfl) cx.tk (d_acons (d_call h_clash_share cx.hr (by omega) (by rfl) cx.tk (d_acons (d_var 0 (pv 0)) (d_acons (d_var 3 (pv 3)) d_anil))) (d_acons (d_var 5 (pv 5)) d_anil))))) (d_last (d_ret d_bl)) d_nil)))))))) (d_seq (d_frz 2 (d_set (i := 6) sc.nd rfl (.inr rfl) (d_fn (cr_minD rfl cx.hr) ol_minD (by rfl) B.b_min (by decide +kernel) (d_acons (d_var 2 (pv 2)) d_anil)))) (d_seq (d_set (i := 7) sc.nd rfl (.inl rfl) (d_tup (d_acons (d_index (d_var 6 (pv 6)) d_int (fun _ _ => rfl)) (d_acons (d_lc (own := [("_law_row", 8)]) rfl sc.nd (d_iter (d_var 2 (pv 2))) (blkOk_by (N := ["_law_box_so", "_law_free", "_law_shares_so", "_law_start_so", "_law_some", "_law_share_so", "_law_least_so", "_law_due", "_law_row"]) (sc := (defScope st_law_good)) (by decide +kernel)) (fun _ _ _ _ _ => (d_gn (i := 8) sc.nd rfl (.inl rfl) (by decide))) (fun _ _ _ _ _ => (d_tsone (d_tcmp (op_eqD cx.hr.units) og_eq (d_index (d_var 8 (pv 8)) d_int (fun _ _ => rfl)) (d_index (d_var 6 (pv 6)) d_int (fun _ _ => rfl)) (nomark _)))) (fun _ _ _ _ _ => (d_index (d_var 8 (pv 8)) d_int (fun _ _ => rfl)))) d_anil)))) (d_last (d_ret (d_andV (d_call h_law_same cx.hr (by omega) (by rfl) cx.tk (d_acons (d_call h_clean cx.hr (by omega) (by rfl) cx.tk (d_acons (d_var 0 (pv 0)) d_anil)) (d_acons (d_var 1 (pv 1)) d_anil))) (d_one (d_call h_law_same cx.hr (by omega) (by rfl) cx.tk (d_acons (d_call h_least_share cx.hr (by omega) (by rfl) cx.tk (d_acons (d_var 0 (pv 0)) d_anil)) (d_acons (d_var 7 (pv 7)) d_anil)))))))))))) law
abbrev st_law : Stmt := topS 56
theorem sc_law : FnScope ["_law_script", "_law_cell", "_law_deck_here", "_law_turn", "_law_one_here", "_law_two", "_law_three", "_law_four", "_law_call_so", "_law_held", "_law_start_so"] ["_law_script"] (defScope st_law) := ⟨rfl, rfl, rfl, by decide +kernel, rfl, by decide +kernel, by decide +kernel⟩
theorem ok_law {s_law_deck : DSp} {s_law_good : DSp} {s_law_a_box : DSp} {s_law_known : DSp} {s_first_clash : DSp} {s_clash_share : DSp} {s_clean : DSp} {s_least_share : DSp} {c_clash_share : D} {c_first_clash : D} {c_least_share : D} {c_clean : D} {fv : Addr → DSp → Prop} {f : Addr} {fd : FuncData} (h_law_deck : Cal P w K mg base 1 "_law_deck" ["_law_cell", "_law_turn"] s_law_deck) (h_law_good : Cal P w K mg base 10 "_law_good" ["_law_box_so"] s_law_good) (h_law_a_box : Cal P w K mg base 4 "_law_a_box" ["_law_deck_here", "_law_most"] s_law_a_box) (h_law_known : Cal P w K mg base 1 "_law_known" [] s_law_known) (h_first_clash : Cal P w K mg base 5 "first_clash" ["box", "beginning"] s_first_clash) (h_clash_share : Cal P w K mg base 5 "clash_share" ["box", "beginning"] s_clash_share) (h_clean : Cal P w K mg base 6 "clean" ["box"] s_clean) (h_least_share : Cal P w K mg base 5 "least_share" ["box"] s_least_share) (g_clash_share : GCon K mg "clash_share" c_clash_share) (g_first_clash : GCon K mg "first_clash" c_first_clash) (g_least_share : GCon K mg "least_share" c_least_share) (g_clean : GCon K mg "clean" c_clean) (hFV : ∀ f sp, fv f sp → CalV P w K mg base 6 f sp) (B : Blt mg) {T : List (Addr × Str)} {Pt cc : Addr} {sk : DSpE} (hTry : ∀ (X : Cx), X.prog = P → X.w = w → X.K = K → X.mg = mg → X.base = base → ∀ q, TryAt X "_law_try" 6 (TTry X.K X.mg sk) q "_law_call_so" NgT) (TB : LamX.TabB base mg cc Pt) (hmT : (Pt, (envOfC "law" (defScope st_law) 0 0 .none).qual ++ "<lambda>") ∈ T) (hu : ∀ p ∈ T, p.1 = Pt → p.2 = (envOfC "law" (defScope st_law) 0 0 .none).qual ++ "<lambda>") (Fn : FunD K "law" "law" (defArgs st_law) (defBody st_law) (defScope st_law) [] [] f fd) (hcc : fd.code = .ref cc) (nT : K.lookup Pt = none)
    (law : ∀ a ns, ns.length ≤ 63 → t_law_k04 s_law_deck s_law_good s_law_a_box s_law_known s_first_clash s_clash_share s_clean s_least_share c_clash_share c_first_clash c_least_share c_clean fv (dTry K mg sk T Pt) (dScr a ns) DX0 (dEnds fun d _ => d = .bl true) (dst 11 [.ref a]) (memT Pt T)) : FnOk P w K mg base (L2N.CX P w) 11 f fd ["_law_script"] (spLaw K T) :=
  have sc := sc_law
  okLaw (t := fun a ns PX => t_law_k04 s_law_deck s_law_good s_law_a_box s_law_known s_first_clash s_clash_share s_clean s_least_share c_clash_share c_first_clash c_least_share c_clean fv (dTry K mg sk T Pt) (dScr a ns) PX) Fn hcc sc hmT nT (fun cdv A outer s H E c a ns hcd cx hs0 hn0 hl0 => by
    exact (d_seq (d_for (vs := [1]) cx.hp rfl (d_iter (d_slice (d_scr rfl (by first | exact .inl rfl | exact .inr (.inl rfl)) hs0 hn0 hl0) d_nopart (d_part d_int))) (d_gn (i := 1) sc.nd rfl (.inl rfl) (by decide)) (d_seq (d_set (i := 2) sc.nd rfl (.inl rfl) (d_call h_law_deck cx.hr (by omega) (by rfl) cx.tk (d_acons (d_var 1 (pv 1)) (d_acons d_int d_anil)))) (d_seq (d_for (vs := [3]) cx.hp rfl (d_rng1 (by rfl) B.b_range (d_acons d_int d_anil)) (d_gn (i := 3) sc.nd rfl (.inl rfl) (by decide)) (d_last (d_if (d_not (d_tval (d_call h_law_good cx.hr (by omega) (by rfl) cx.tk (d_acons (d_call h_law_a_box cx.hr (by omega) (by rfl) cx.tk (d_acons (d_var 2 (pv 2)) (d_acons d_int d_anil))) d_anil)))) (d_last (d_ret d_bl)) d_nil))) (d_seq (d_asg (vs := [4, 5, 6, 7]) (d_call0 h_law_known cx.hr (by omega) (by rfl) cx.tk) (d_gt rfl (d_gcons (d_gn (i := 4) sc.nd rfl (.inl rfl) (by decide)) (d_gcons (d_gn (i := 5) sc.nd rfl (.inr rfl) (by decide)) (d_gcons (d_gn (i := 6) sc.nd rfl (.inl rfl) (by decide)) (d_gcons (d_gn (i := 7) sc.nd rfl (.inl rfl) (by decide)) d_gnil)))))) (d_seq (d_for (vs := [8]) cx.hp rfl (d_iter (d_tup (d_acons (d_glob (by rfl) g_first_clash) (d_acons (d_glob (by rfl) g_clash_share) d_anil)))) (d_gn (i := 8) sc.nd rfl (.inr rfl) (by decide)) (d_seq (d_if (d_tcmp (op_neD cx.hr.units) og_ne (d_try (T := T) (Pt := Pt) (k := 6) (hTry _ rfl rfl rfl rfl rfl _) (by rfl) TB hcd hmT hu (cx.hr.mono (by decide)) (LamX.lamS_by (by rfl)) rfl (fun _ _ _ _ _ => rfl) (fun A2 outer2 s2 H2 E2 f2 c2' c2 hr2 tk2 => (d_callV (i := 8) hFV hr2 (by omega) rfl (by first | exact .inl rfl | exact .inr (.inl rfl) | exact .inr (.inr rfl)) tk2 (d_acons d_non (d_acons d_non d_anil))))) d_str (nomark _)) (d_last (d_ret d_bl)) d_nil) (d_last (d_if (d_tcmp (op_neD cx.hr.units) og_ne (d_try (T := T) (Pt := Pt) (k := 6) (hTry _ rfl rfl rfl rfl rfl _) (by rfl) TB hcd hmT hu (cx.hr.mono (by decide)) (LamX.lamS_by (by rfl)) rfl (fun _ _ _ _ _ => rfl) (fun A2 outer2 s2 H2 E2 f2 c2' c2 hr2 tk2 => (d_callV (i := 8) hFV hr2 (by omega) rfl (by first | exact .inl rfl | exact .inr (.inl rfl) | exact .inr (.inr rfl)) tk2 (d_acons (d_var 5 (pv 5)) (d_acons (d_tup (d_acons d_int d_anil)) d_anil))))) d_str (nomark _)) (d_last (d_ret d_bl)) d_nil)))) (d_last (d_for (vs := [8]) cx.hp rfl (d_iter (d_tup (d_acons (d_glob (by rfl) g_clean) (d_acons (d_glob (by rfl) g_least_share) d_anil)))) (d_gn (i := 8) sc.nd rfl (.inr rfl) (by decide)) (d_last (d_if (d_tcmp (op_neD cx.hr.units) og_ne (d_try (T := T) (Pt := Pt) (k := 6) (hTry _ rfl rfl rfl rfl rfl _) (by rfl) TB hcd hmT hu (cx.hr.mono (by decide)) (LamX.lamS_by (by rfl)) rfl (fun _ _ _ _ _ => rfl) (fun A2 outer2 s2 H2 E2 f2 c2' c2 hr2 tk2 => (d_callV (i := 8) hFV hr2 (by omega) rfl (by first | exact .inl rfl | exact .inr (.inl rfl) | exact .inr (.inr rfl)) tk2 (d_acons (d_slice (d_var 5 (pv 5)) d_nopart (d_part d_int)) d_anil)))) d_str (nomark _)) (d_last (d_ret d_bl)) d_nil))))))))) (d_seq (d_if (d_tcmp (op_neD cx.hr.units) og_ne (d_lc (own := [("_law_start_so", 10)]) rfl sc.nd (d_iter (d_tup (d_acons (d_tup (d_acons d_int (d_acons d_int d_anil))) (d_acons (d_tup (d_acons d_int (d_acons d_int d_anil))) (d_acons (d_tup (d_acons d_int (d_acons d_int d_anil))) d_anil))))) (blkOk_by (N := ["_law_script", "_law_cell", "_law_deck_here", "_law_turn", "_law_one_here", "_law_two", "_law_three", "_law_four", "_law_call_so", "_law_held", "_law_start_so"]) (sc := (defScope st_law)) (by decide +kernel)) (fun _ _ _ _ _ => (d_gn (i := 10) sc.nd rfl (.inl rfl) (by decide))) (fun _ _ _ _ _ => d_tsnil) (fun _ _ _ _ _ => (d_call h_first_clash cx.hr (by omega) (by rfl) takes_mute (d_acons (d_var 5 (pv 5)) (d_acons (d_var 10 (pv 10)) d_anil))))) (d_lst (d_acons d_int (d_acons d_int (d_acons d_int d_anil)))) (nomark _)) (d_last (d_ret d_bl)) d_nil) (d_seq (d_if (d_tcmp (op_neD cx.hr.units) og_ne (d_call h_clash_share cx.hr (by omega) (by rfl) cx.tk (d_acons (d_var 5 (pv 5)) (d_acons (d_tup (d_acons d_int (d_acons d_int d_anil))) d_anil))) (d_tup (d_acons d_int (d_acons d_int d_anil))) (nomark _)) (d_last (d_ret d_bl)) d_nil) (d_seq (d_if (d_wt (d_or (d_tcmp (op_neD cx.hr.units) og_ne (d_call h_clean cx.hr (by omega) (by rfl) cx.tk (d_acons (d_var 5 (pv 5)) d_anil)) (d_lst d_anil) (nomark _)) (d_or (d_tcmp (op_neD cx.hr.units) og_ne (d_call h_clean cx.hr (by omega) (by rfl) cx.tk (d_acons (d_var 4 (pv 4)) d_anil)) (d_lst (d_acons (d_tup (d_acons d_int d_anil)) (d_acons (d_tup (d_acons d_int d_anil)) d_anil))) (nomark _)) (d_or1 (d_tcmp (op_neD cx.hr.units) og_ne (d_call h_clash_share cx.hr (by omega) (by rfl) cx.tk (d_acons (d_var 4 (pv 4)) (d_acons (d_tup (d_acons d_int d_anil)) d_anil))) (d_tup (d_acons d_int (d_acons d_int d_anil))) (nomark _)))))) (d_last (d_ret d_bl)) d_nil) (d_seq (d_if (d_tcmp (op_neD cx.hr.units) og_ne (d_call h_least_share cx.hr (by omega) (by rfl) cx.tk (d_acons (d_var 6 (pv 6)) d_anil)) (d_tup (d_acons (d_tup (d_acons d_int (d_acons d_int d_anil))) (d_acons (d_lst (d_acons (d_tup (d_acons d_int (d_acons d_int d_anil))) (d_acons (d_tup (d_acons d_int (d_acons d_int d_anil))) (d_acons (d_tup (d_acons d_int (d_acons d_int d_anil))) (d_acons (d_tup (d_acons d_int (d_acons d_int d_anil))) d_anil))))) d_anil))) (nomark _)) (d_last (d_ret d_bl)) d_nil) (d_seq (d_set (i := 9) sc.nd rfl (.inl rfl) (d_tup (d_acons d_int (d_acons (d_tup (d_acons (d_tup (d_acons d_str (d_acons d_str (d_acons d_str (d_acons d_str d_anil))))) d_anil)) d_anil)))) (d_last (d_ret (d_andV (d_cmp (op_eqD cx.hr.units) og_eq (d_call h_clean cx.hr (by omega) (by rfl) cx.tk (d_acons (d_var 9 (pv 9)) d_anil)) (d_lst (d_acons (d_tup (d_acons d_int d_anil)) (d_acons (d_tup (d_acons d_int d_anil)) (d_acons (d_tup (d_acons d_int d_anil)) (d_acons (d_tup (d_acons d_int d_anil)) d_anil))))) (nomark _)) (d_one (d_cmp (op_eqD cx.hr.units) og_eq (d_call h_first_clash cx.hr (by omega) (by rfl) cx.tk (d_acons (d_tup (d_acons d_int (d_acons (d_tup (d_acons (d_tup (d_acons d_str (d_acons d_str (d_acons d_str d_anil)))) d_anil)) d_anil))) (d_acons (d_tup (d_acons d_int d_anil)) d_anil))) d_int (nomark _))))))))))))) law
end
end DL

set_option Elab.async false
set_option linter.all false
set_option maxRecDepth 100000
set_option maxHeartbeats 0
namespace DL
open PySem PySem.Spec PyProof.Rows L2
abbrev Rw : PySem.W.OpenRow := PySem.W.OpenLaw.row PySem.Challenge.rw_barrelsuntold_k04_whole_clashes
def dd_is_within : He.DefD := ⟨("is_within", none), "is_within", "is_within", defArgs st_is_within, defBody st_is_within, defScope st_is_within, [], []⟩
def dd_has_items : He.DefD := ⟨("has_items", none), "has_items", "has_items", defArgs st_has_items, defBody st_has_items, defScope st_has_items, [], []⟩
def dd_are_teeth : He.DefD := ⟨("are_teeth", none), "are_teeth", "are_teeth", defArgs st_are_teeth, defBody st_are_teeth, defScope st_are_teeth, [], []⟩
def dd_is_barrel : He.DefD := ⟨("is_barrel", none), "is_barrel", "is_barrel", defArgs st_is_barrel, defBody st_is_barrel, defScope st_is_barrel, [], []⟩
def dd_is_box_value : He.DefD := ⟨("is_box_value", none), "is_box_value", "is_box_value", defArgs st_is_box_value, defBody st_is_box_value, defScope st_is_box_value, [], []⟩
def dd_begins : He.DefD := ⟨("begins", none), "begins", "begins", defArgs st_begins, defBody st_begins, defScope st_begins, [], []⟩
def dd_need_box : He.DefD := ⟨("need_box", none), "need_box", "need_box", defArgs st_need_box, defBody st_need_box, defScope st_need_box, [], []⟩
def dd_need_beginning : He.DefD := ⟨("need_beginning", none), "need_beginning", "need_beginning", defArgs st_need_beginning, defBody st_need_beginning, defScope st_need_beginning, [], []⟩
def dd_gcd : He.DefD := ⟨("gcd", none), "gcd", "gcd", defArgs st_gcd, defBody st_gcd, defScope st_gcd, [], []⟩
def dd_period_of : He.DefD := ⟨("period_of", none), "period_of", "period_of", defArgs st_period_of, defBody st_period_of, defScope st_period_of, [], []⟩
def dd_all_beginnings : He.DefD := ⟨("all_beginnings", none), "all_beginnings", "all_beginnings", defArgs st_all_beginnings, defBody st_all_beginnings, defScope st_all_beginnings, [], []⟩
def dd_items_at : He.DefD := ⟨("items_at", none), "items_at", "items_at", defArgs st_items_at, defBody st_items_at, defScope st_items_at, [], []⟩
def dd_chord_at : He.DefD := ⟨("chord_at", none), "chord_at", "chord_at", defArgs st_chord_at, defBody st_chord_at, defScope st_chord_at, [], []⟩
def dd_is_clash : He.DefD := ⟨("is_clash", none), "is_clash", "is_clash", defArgs st_is_clash, defBody st_is_clash, defScope st_is_clash, [], []⟩
def dd_first_of : He.DefD := ⟨("first_of", none), "first_of", "first_of", defArgs st_first_of, defBody st_first_of, defScope st_first_of, [], []⟩
def dd_share_of : He.DefD := ⟨("share_of", none), "share_of", "share_of", defArgs st_share_of, defBody st_share_of, defScope st_share_of, [], []⟩
def dd_first_clash : He.DefD := ⟨("first_clash", none), "first_clash", "first_clash", defArgs st_first_clash, defBody st_first_clash, defScope st_first_clash, [], []⟩
def dd_clean_ones : He.DefD := ⟨("clean_ones", none), "clean_ones", "clean_ones", defArgs st_clean_ones, defBody st_clean_ones, defScope st_clean_ones, [], []⟩
def dd_clean : He.DefD := ⟨("clean", none), "clean", "clean", defArgs st_clean, defBody st_clean, defScope st_clean, [], []⟩
def dd_clash_share : He.DefD := ⟨("clash_share", none), "clash_share", "clash_share", defArgs st_clash_share, defBody st_clash_share, defScope st_clash_share, [], []⟩
def dd_least_share : He.DefD := ⟨("least_share", none), "least_share", "least_share", defArgs st_least_share, defBody st_least_share, defScope st_least_share, [], []⟩
def dd_law_deck : He.DefD := ⟨("_law_deck", none), "_law_deck", "_law_deck", defArgs st_law_deck, defBody st_law_deck, defScope st_law_deck, [], []⟩
def dd_law_pick : He.DefD := ⟨("_law_pick", none), "_law_pick", "_law_pick", defArgs st_law_pick, defBody st_law_pick, defScope st_law_pick, [], []⟩
def dd_law_one : He.DefD := ⟨("_law_one", none), "_law_one", "_law_one", defArgs st_law_one, defBody st_law_one, defScope st_law_one, [], []⟩
def dd_law_sort : He.DefD := ⟨("_law_sort", none), "_law_sort", "_law_sort", defArgs st_law_sort, defBody st_law_sort, defScope st_law_sort, [], []⟩
def dd_law_same : He.DefD := ⟨("_law_same", none), "_law_same", "_law_same", defArgs st_law_same, defBody st_law_same, defScope st_law_same, [], []⟩
def dd_law_kin : He.DefD := ⟨("_law_kin", none), "_law_kin", "_law_kin", defArgs st_law_kin, defBody st_law_kin, defScope st_law_kin, [], []⟩
def dd_law_try : He.DefD := ⟨("_law_try", none), "_law_try", "_law_try", defArgs st_law_try, defBody st_law_try, defScope st_law_try, [], []⟩
def dd_law_known : He.DefD := ⟨("_law_known", none), "_law_known", "_law_known", defArgs st_law_known, defBody st_law_known, defScope st_law_known, [], []⟩
def dd_law_some_teeth : He.DefD := ⟨("_law_some_teeth", none), "_law_some_teeth", "_law_some_teeth", defArgs st_law_some_teeth, defBody st_law_some_teeth, defScope st_law_some_teeth, [], []⟩
def dd_law_a_box : He.DefD := ⟨("_law_a_box", none), "_law_a_box", "_law_a_box", defArgs st_law_a_box, defBody st_law_a_box, defScope st_law_a_box, [], []⟩
def dd_law_starts : He.DefD := ⟨("_law_starts", none), "_law_starts", "_law_starts", defArgs st_law_starts, defBody st_law_starts, defScope st_law_starts, [], []⟩
def dd_law_plucks : He.DefD := ⟨("_law_plucks", none), "_law_plucks", "_law_plucks", defArgs st_law_plucks, defBody st_law_plucks, defScope st_law_plucks, [], []⟩
def dd_law_size : He.DefD := ⟨("_law_size", none), "_law_size", "_law_size", defArgs st_law_size, defBody st_law_size, defScope st_law_size, [], []⟩
def dd_law_clashes : He.DefD := ⟨("_law_clashes", none), "_law_clashes", "_law_clashes", defArgs st_law_clashes, defBody st_law_clashes, defScope st_law_clashes, [], []⟩
def dd_law_share : He.DefD := ⟨("_law_share", none), "_law_share", "_law_share", defArgs st_law_share, defBody st_law_share, defScope st_law_share, [], []⟩
def dd_law_good : He.DefD := ⟨("_law_good", none), "_law_good", "_law_good", defArgs st_law_good, defBody st_law_good, defScope st_law_good, [], []⟩
def dd_law : He.DefD := ⟨("law", none), "law", "law", defArgs st_law, defBody st_law, defScope st_law, [], []⟩
def fnL : List He.DefD := [dd_is_within, dd_has_items, dd_are_teeth, dd_is_barrel, dd_is_box_value, dd_begins, dd_need_box, dd_need_beginning, dd_gcd, dd_period_of, dd_all_beginnings, dd_items_at, dd_chord_at, dd_is_clash, dd_first_of, dd_share_of, dd_first_clash, dd_clean_ones, dd_clean, dd_clash_share, dd_least_share, dd_law_deck, dd_law_pick, dd_law_one, dd_law_sort, dd_law_same, dd_law_kin, dd_law_try, dd_law_known, dd_law_some_teeth, dd_law_a_box, dd_law_starts, dd_law_plucks, dd_law_size, dd_law_clashes, dd_law_share, dd_law_good, dd_law]
def kinN : List Str := ["InvalidBox", "InvalidBeginning", "InvalidTick", "InvalidTooth", "InvalidFacts", "InvalidNumber", "InvalidIndex", "NoBeginning", "Unlike", "NothingToUndo", "TooMany", "InvalidText"]
def errN : List Str := ["InvalidBox", "InvalidBeginning"]
def gloL : List Str := (["is_within", "has_items", "are_teeth", "is_barrel", "is_box_value", "begins", "need_box", "need_beginning", "gcd", "period_of", "all_beginnings", "items_at", "chord_at", "is_clash", "first_of", "share_of", "first_clash", "clean_ones", "clean", "clash_share"] : List Str) ++ (["least_share", "_law_deck", "_law_pick", "_law_one", "_law_sort", "_law_same", "_law_kin", "_law_try", "_law_known", "_law_some_teeth", "_law_a_box", "_law_starts", "_law_plucks", "_law_size", "_law_clashes", "_law_share", "_law_good", "law", "BoxError", "InvalidBox"] : List Str) ++ (["InvalidBeginning", "InvalidTick", "InvalidTooth", "InvalidFacts", "InvalidNumber", "InvalidIndex", "NoBeginning", "Unlike", "NothingToUndo", "TooMany", "InvalidText", "TEETH"] : List Str)
def freeL : List Str := ["int", "bool", "str", "tuple", "list", "set", "len", "isinstance", "any", "all", "sorted", "max", "min", "range", "zip", "enumerate", "ValueError"]
def intL : List He.Fa := []
def faL : List He.Fa := gloL.map He.Fa.glo ++ (freeL.map He.Fa.free ++ (intL ++ (errN.map He.Fa.exc ++ errN.flatMap fun x => [.exm x "InvalidText" false, .exm x "TooMany" false, .exm x "BoxError" true])))
def looseL : List Str := (["BoxError", "InvalidBox", "InvalidBeginning", "InvalidTick", "InvalidTooth", "InvalidFacts", "InvalidNumber", "InvalidIndex", "NoBeginning", "Unlike", "NothingToUndo", "TooMany", "InvalidText", "TEETH", "is_within", "has_items", "are_teeth", "is_barrel", "is_box_value", "begins"] : List Str) ++ (["need_box", "need_beginning", "gcd", "period_of", "all_beginnings", "items_at", "chord_at", "is_clash", "first_of", "share_of", "first_clash", "clean_ones", "clean", "clash_share", "least_share", "_law_deck", "_law_pick", "_law_one", "_law_sort", "_law_same"] : List Str) ++ (["_law_kin", "_law_try", "_law_known", "_law_some_teeth", "_law_a_box", "_law_starts", "_law_plucks", "_law_size", "_law_clashes", "_law_share", "_law_good"] : List Str)
def viewL : PySem.Program := PySem.W.view Rw.prog [56]
abbrev lawI : Nat := 56
def kitR (K : Fg) (x : Str) : Bool := (kinN.all fun y => decide (PySem.W.kitOne K (.ref (He.ga K x)) (.ref (He.ga K y)) = some (y == x))) && decide (PySem.W.kitOne K (.ref (He.ga K x)) (.type "ValueError") = some true)
def excR (K : Fg) (x : Str) : Bool := decide (PySem.W.findIn K (.ref (He.ga K x)) "__getattribute__" = some (some (.builtin "BaseException.__getattribute__"))) && (decide (PySem.W.findIn K (.ref (He.ga K x)) "__getattr__" = some none) && (PySem.W.hasDictIn K (He.ga K x) && (decide (PySem.W.findIn K (.ref (He.ga K x)) "__class__" = some (some (.builtin "object.__class__"))) &&
  (decide (PySem.W.specialIn K (.builtin "object.__class__") "__get__" = some (some (.builtin "getset_descriptor.__get__"))) && (decide (PySem.W.takesIn K (.builtin "object.__class__") = some true) && decide (PySem.W.mroIn K (He.ga K x) (.type "object") = some true))))))
def tupK (K : Fg) : Bool := He.tupB K "TEETH" [.str "a", .str "b", .str "c", .str "d"]
def exK (K : Fg) : Bool := tupK K && errN.all fun x => kitR K x && excR K x
abbrev hk : PySem.W.Hook := He.hookX 5 faL fnL [] [("law", none)] exK
def obK (s : PySem.W.SharedT) : He.AlX := He.obsX 5 faL fnL [] [("law", none)] exK (HandSHeadRun.getT s)
theorem obK_eq (s : PySem.W.SharedT) : obK s = hk.obs s.abs := He.obsX_eq (HandSHeadRun.getT_eq s)
theorem runK (w : World) : HandSHeadRun.RunEq Rw viewL hk obK 8000 looseL w := by
  intro os
  kernel_rfl
end DL

set_option Elab.async false
set_option linter.all false
set_option maxRecDepth 100000
set_option maxHeartbeats 4000000
namespace DL
open PySem PySem.Spec PyProof.Rows L2
/-! ### plain facts: comprehensions, loops, texts -/
theorem compL_by {vs : List Nat} {g : DTG} {tt : DTT} {te : DTE} {ds : DSt} {Q : List D → Mem → Prop} {M : Mem} (F : D → Option D) : ∀ (xs acc : List D),
    (∀ x ∈ xs, ∀ R : Option D → Mem → Prop, R (F x) M → g x (dwipe ds vs) M fun ds2 M2 => tt ds2 M2 fun b M3 => (b = true → te ds2 M3 fun y M4 => R (some y) M4) ∧ (b = false → R none M3)) →
    Q (acc ++ xs.filterMap F) M → compL vs g tt te ds Q xs acc M
  | [], acc, _, q => by
    rw [List.filterMap_nil, List.append_nil] at q
    exact q
  | x :: r, acc, h, q => by
    refine h x List.mem_cons_self (fun o M' => match o with | some y => compL vs g tt te ds Q r (acc ++ [y]) M' | none => compL vs g tt te ds Q r acc M') ?_
    rw [List.filterMap_cons] at q
    cases e : F x with
    | none =>
      rw [e] at q
      exact compL_by F r acc (fun y hy => h y (List.mem_cons_of_mem _ hy)) q
    | some y =>
      rw [e] at q
      refine compL_by F r (acc ++ [y]) (fun y hy => h y (List.mem_cons_of_mem _ hy)) ?_
      rw [List.append_assoc]
      exact q
/-- with a store that changes: Inv of what is made so far -/
theorem compL_inv {vs : List Nat} {g : DTG} {tt : DTT} {te : DTE} {ds : DSt} {Q : List D → Mem → Prop} (Inv : Nat → List D → Mem → Prop) : ∀ (xs acc : List D) (n : Nat) (M : Mem),
    (∀ x ∈ xs, ∀ (acc : List D) (n : Nat) (M : Mem), Inv n acc M → ∀ R : Option D → Mem → Prop, (∀ y M', Inv (n + 1) (acc ++ [y]) M' → R (some y) M') → g x (dwipe ds vs) M fun ds2 M2 => tt ds2 M2 fun b M3 => (b = true → te ds2 M3 fun y M4 => R (some y) M4) ∧ (b = false → R none M3)) →
    Inv n acc M → (∀ ys M', Inv (n + xs.length) ys M' → Q ys M') → compL vs g tt te ds Q xs acc M
  | [], acc, n, M, _, i, q => q acc M i
  | x :: r, acc, n, M, h, i, q => by
    refine h x List.mem_cons_self acc n M i (fun o M' => match o with | some y => compL vs g tt te ds Q r (acc ++ [y]) M' | none => compL vs g tt te ds Q r acc M') fun y M' i' => ?_
    refine compL_inv Inv r (acc ++ [y]) (n + 1) M' (fun y hy => h y (List.mem_cons_of_mem _ hy)) i' fun ys M2 i2 => q ys M2 ?_
    rw [List.length_cons, show n + (r.length + 1) = n + 1 + r.length by omega]
    exact i2
/-- a loop that changes slots and store: Inv of the turn -/
theorem forL_inv {g : DTG} {tb : DTS} {W : DEnds} (Inv : Nat → DSt → Mem → Prop) : ∀ (xs : List D) (n : Nat) (ds : DSt) (M : Mem),
    (∀ (i : Nat) (x : D), xs[i]? = some x → ∀ ds M, Inv (n + i) ds M → ∀ Nx : DSt → Mem → Prop, (∀ ds M, Inv (n + i + 1) ds M → Nx ds M) → g x ds M fun ds1 M1 => tb { nx := Nx, rt := W.rt, bk := W.nx, ct := Nx } ds1 M1) →
    Inv n ds M → (∀ ds M, Inv (n + xs.length) ds M → W.nx ds M) → forL g tb W xs ds M
  | [], n, ds, M, _, i, q => q ds M i
  | x :: r, n, ds, M, h, i, q => by
    refine h 0 x rfl ds M i _ fun ds2 M2 i2 => ?_
    refine forL_inv Inv r (n + 1) ds2 M2 (fun j y hy ds M i' Nx hN => ?_) i2 fun ds M i' => q ds M ?_
    · have e : n + 1 + j = n + (j + 1) := by omega
      rw [e] at i'
      refine h (j + 1) y hy ds M i' Nx fun ds M i3 => hN ds M ?_
      rw [e]
      exact i3
    · rw [List.length_cons, show n + (r.length + 1) = n + 1 + r.length by omega]
      exact i'
abbrev sN (l : List Nat) : Str := ⟨l.toArray⟩
abbrev sD (l : List Nat) : D := .str (sN l)
theorem sN_tl (z : Str) : sN z.cps.toList = z := by obtain ⟨⟨l⟩⟩ := z; rfl
theorem strIn_one (c : Nat) (l : List Nat) : strIn (sN [c]) (sN l) = decide (c ∈ l) := StrLaws.found_one (sN l) c
theorem strsOf_sD : ∀ l : List (List Nat), strsOf (l.map sD) = some (l.map sN)
  | [] => rfl
  | x :: l => by rw [List.map_cons, strsOf, strsOf_sD l]; rfl
theorem joinL_nil : ∀ l : List (List Nat), TL.joinL [] l = l.flatten
  | [] => rfl
  | [p] => by simp [TL.joinL]
  | p :: q :: r => by rw [TL.joinL, joinL_nil (q :: r)]; simp
theorem join_nil (l : List (List Nat)) : Txt.join (sN []) (l.map sN) = sN l.flatten := by
  rw [← joinL_nil]
  exact _root_.SX.join_S [] l
end DL

set_option Elab.async false
set_option linter.all false
set_option maxRecDepth 100000
set_option maxHeartbeats 4000000
namespace DL
open PySem PySem.Spec PyProof.Rows L2
/-! ### contracts of the program's defs -/
def isW (v : D) (lo hi : Int) : Bool := match v with | .int i => decide (lo ≤ i) && decide (i ≤ hi) | _ => false
def hasI (v : D) (lo hi : Int) : Bool := match v with | .tup xs => decide (lo ≤ xs.length) && decide ((xs.length : Int) ≤ hi) | _ => false
def top (v : D) : Bool := match v with | .ref _ => false | .ty _ => false | _ => true
def sp_is_within : DSp := fun ds M P _ => match ds with | [v, .int lo, .int hi] => top v = true ∧ P (.bl (isW v lo hi)) M | _ => False
def sp_has_items : DSp := fun ds M P _ => match ds with | [v, .int lo, .int hi] => top v = true ∧ P (.bl (hasI v lo hi)) M | _ => False
theorem l_is_within (ds : List D) (M : Mem) (P : D → Mem → Prop) (PX : DX) (h : sp_is_within ds M P PX) : t_is_within PX (dEnds P) (dstart ["value", "low", "high"] ds) M := by
  unfold sp_is_within at h
  split at h <;> try exact h.elim
  rename_i v lo hi
  obtain ⟨ht, h⟩ := h
  have h' := Fz.here h
  cases v <;> simp [t_is_within, dRet, dRetN, dSkip, dSeq, dExpr, dSet, dIf, dAsg, dPar, dgT, dgN, dgCons, dgNil, dgSub, dVar, dC, dUn, dBin, dNil, dCons, dApp, dB, dAnd, dOr, dNot, dAndV, dOrV, dNotV, dIfE, dChain, dTup, dLst, dLstH, dCall, dRaise, dFor, dIter, dRng1, dRng2, dZip, dEnum, dComp, dYes, dJoin, dSlice, dPart, dNoPart, dAppend, dSrtSet, dLenSet, dSplit, dZipE, dEnds, dstart, dst, dwipe, gI, gIC, gMod, gDiv, gSub, gPow, gNeg, gLt, gLe, gGt, gGe, gEq, gNe, gIsN, gNotN, gAdd, gMul, gIx, gLen, gIsi, gInt1, gTuple, gList, gSorted, gIn, gAll, gAny, dFrz, gMax2, gMin2, dComp2, isiN, isiB, isW, top] at ht h' ⊢ <;> try exact h'
  rename_i i
  by_cases h1 : lo ≤ i
  · simp [h1] at h' ⊢
    exact ⟨h', fun z => absurd h1 (by omega)⟩
  · simp [h1] at h' ⊢
    exact fun _ => h'
theorem l_has_items (ds : List D) (M : Mem) (P : D → Mem → Prop) (PX : DX) (h : sp_has_items ds M P PX) : t_has_items PX (dEnds P) (dstart ["value", "low", "high"] ds) M := by
  unfold sp_has_items at h
  split at h <;> try exact h.elim
  rename_i v lo hi
  obtain ⟨ht, h⟩ := h
  have h' := Fz.here h
  cases v <;> simp [t_has_items, dRet, dRetN, dSkip, dSeq, dExpr, dSet, dIf, dAsg, dPar, dgT, dgN, dgCons, dgNil, dgSub, dVar, dC, dUn, dBin, dNil, dCons, dApp, dB, dAnd, dOr, dNot, dAndV, dOrV, dNotV, dIfE, dChain, dTup, dLst, dLstH, dCall, dRaise, dFor, dIter, dRng1, dRng2, dZip, dEnum, dComp, dYes, dJoin, dSlice, dPart, dNoPart, dAppend, dSrtSet, dLenSet, dSplit, dZipE, dEnds, dstart, dst, dwipe, gI, gIC, gMod, gDiv, gSub, gPow, gNeg, gLt, gLe, gGt, gGe, gEq, gNe, gIsN, gNotN, gAdd, gMul, gIx, gLen, gIsi, gInt1, gTuple, gList, gSorted, gIn, gAll, gAny, dFrz, gMax2, gMin2, dComp2, isiN, isiB, hasI, top] at ht h' ⊢ <;> try exact h'
  rename_i xs
  by_cases h1 : lo ≤ (xs.length : Int)
  · simp [h1] at h' ⊢
    exact ⟨h', fun z => absurd h1 (by omega)⟩
  · simp [h1] at h' ⊢
    exact fun _ => h'
/-! teeth -/
def teeth : List Nat := [97, 98, 99, 100]
def canon (l : List Nat) : List Nat := teeth.filter fun c => decide (c ∈ l)
def cTEETH : D := .tup [sD [97], sD [98], sD [99], sD [100]]
def isT (v : D) : Bool := match v with | .str z => decide (canon z.cps.toList = z.cps.toList) | _ => false
def sp_are_teeth : DSp := fun ds M P _ => match ds with | [v] => dkn 60 v = true ∧ P (.bl (isT v)) M | _ => False
theorem dkn_top {n : Nat} {v : D} (h : dkn n v = true) : top v = true := by cases v <;> simp [dkn, top] at h ⊢
theorem dkn_mono : ∀ (n m : Nat) (v : D), n ≤ m → dkn n v = true → dkn m v = true := by
  intro n
  induction n with
  | zero => intro m v _ h; cases v <;> simp [dkn] at h ⊢; exact h
  | succ n ih =>
    intro m v hm h
    cases m with
    | zero => omega
    | succ m =>
      cases v <;> simp [dkn] at h ⊢
      · exact h
      · exact fun x hx => ih m x (by omega) (h x hx)
      · exact fun x hx => ih m x (by omega) (h x hx)
def keepF (l : List Nat) : D → Option D := fun x => match x with | .str z => if strIn z (sN l) = true then some x else none | _ => none
theorem keepF_sD (l : List Nat) (c : Nat) : keepF l (sD [c]) = if c ∈ l then some (sD [c]) else none := by
  show (if strIn (sN [c]) (sN l) = true then some (sD [c]) else none) = _
  rw [strIn_one]
  by_cases h : c ∈ l <;> simp [h]
theorem keepF_map (l : List Nat) : ∀ t : List Nat, List.filterMap (keepF l) (t.map fun c => sD [c]) = (t.filter fun c => decide (c ∈ l)).map fun c => sD [c]
  | [] => rfl
  | c :: r => by
    rw [List.map_cons, List.filterMap_cons, keepF_sD, List.filter_cons, keepF_map l r]
    by_cases h : c ∈ l <;> simp [h]
theorem canon_comp {Q : List D → Mem → Prop} {ds : DSt} {M : Mem} {i j : Nat} {l : List Nat} (hj : i ≠ j) (hd : ds[j]? = some (some (sD l))) (hi : i < ds.length) (q : Q ((canon l).map fun c => sD [c]) M) :
    compL [i] (dgN i) (dB (dBin (gIn false) (dVar i) (dVar j))) (dVar i) ds Q [sD [97], sD [98], sD [99], sD [100]] [] M := by
  refine compL_by (keepF l) _ [] (fun x hx R h => ?_) (by
    show Q ([] ++ List.filterMap (keepF l) (teeth.map fun c => sD [c])) M
    rw [keepF_map]
    exact q)
  have hx' : ∃ c, x = sD [c] := by
    simp only [List.mem_cons, List.not_mem_nil, or_false] at hx
    rcases hx with rfl | rfl | rfl | rfl <;> exact ⟨_, rfl⟩
  obtain ⟨c, rfl⟩ := hx'
  have g1 : ((dwipe ds [i]).set i (some (sD [c])))[i]? = some (some (sD [c])) := List.getElem?_set_self (by rw [dwipe_length]; exact hi)
  have g2 : ((dwipe ds [i]).set i (some (sD [c])))[j]? = some (some (sD l)) := by
    rw [List.getElem?_set_ne hj]
    show (ds.set i none)[j]? = _
    rw [List.getElem?_set_ne hj]
    exact hd
  show dB (dBin (gIn false) (dVar i) (dVar j)) ((dwipe ds [i]).set i (some (sD [c]))) M _
  simp only [dB, dBin, dVar, g1, g2, gIn, Bool.false_eq_true, if_false]
  rw [strIn_one]
  rw [keepF_sD] at h
  by_cases hc : c ∈ l
  · rw [if_pos hc] at h
    simp only [hc, decide_true, true_implies, Bool.true_eq_false, false_implies, and_true]
    exact h
  · rw [if_neg hc] at h
    simp only [hc, decide_false, true_implies, Bool.false_eq_true, false_implies, true_and]
    exact h
theorem flat_one (l : List Nat) : (l.map fun c => [c]).flatten = l := by
  induction l with
  | nil => rfl
  | cons c r ih => rw [List.map_cons, List.flatten_cons, ih]; rfl
theorem join_chars {l : List Nat} {P : Str → Prop} (hl : l.length ≤ 100000) (h : P (sN l)) : joinD (sN []) (l.map fun c => sD [c]) P := by
  have e : (l.map fun c => sD [c]) = (l.map fun c => [c]).map sD := by rw [List.map_map]; rfl
  unfold joinD
  rw [e, strsOf_sD]
  refine ⟨?_, ?_⟩
  · rw [List.map_map, List.map_map]
    have z : (List.map (((fun x => x.length) ∘ sN) ∘ fun c => [c]) l).sum = l.length := by
      clear hl h e
      induction l with
      | nil => rfl
      | cons c r ih => rw [List.map_cons, List.sum_cons, ih, List.length_cons]; show 1 + _ = _; omega
    rw [z]
    show l.length + (List.map sN (l.map fun c => [c])).length * 0 ≤ _
    omega
  · rw [join_nil, flat_one]
    exact h
theorem canon_len (l : List Nat) : (canon l).length ≤ 4 := by
  unfold canon
  exact Nat.le_trans (List.length_filter_le _ _) (by decide)
theorem okS {l : List Nat} (h : ∀ c ∈ l, c < 1114112) : PyData.strOk (sN l) = true := by
  unfold PyData.strOk
  simp only [Array.all_eq_true_iff_forall_mem, decide_eq_true_eq, List.mem_toArray]
  exact h
theorem canon_ok (l : List Nat) : PyData.strOk (sN (canon l)) = true := okS fun c hc => by
  have z := (List.mem_filter.mp hc).1
  simp [teeth] at z
  omega
theorem sN_inj {a b : List Nat} : sN a = sN b ↔ a = b := ⟨fun h => by
    have := congrArg (fun z : Str => z.cps.toList) h
    exact this, fun h => by rw [h]⟩
theorem dq_s (a b : List Nat) : dq (sD a) (sD b) = decide (a = b) := by
  show (sN a == sN b) = _
  rw [Bool.eq_iff_iff, beq_iff_eq, sN_inj, decide_eq_true_iff]
theorem dq_isT (l : List Nat) : dq (sD l) (sD (canon l)) = isT (sD l) := by
  rw [dq_s]
  show _ = decide (canon l = l)
  rw [Bool.eq_iff_iff, decide_eq_true_iff, decide_eq_true_iff]
  exact eq_comm
theorem l_are_teeth (ds : List D) (M : Mem) (P : D → Mem → Prop) (PX : DX) (h : sp_are_teeth ds M P PX) : t_are_teeth cTEETH PX (dEnds P) (dstart ["value", "tooth"] ds) M := by
  unfold sp_are_teeth at h
  split at h <;> try exact h.elim
  rename_i v
  obtain ⟨hk, h⟩ := h
  have h' := Fz.here h
  have ht := dkn_top hk
  cases v with
  | str z =>
    obtain ⟨l, rfl⟩ : ∃ l, z = sN l := ⟨z.cps.toList, (sN_tl z).symm⟩
    simp [t_are_teeth, dRet, dAndV, dApp, dCons, dNil, dVar, dC, dEnds, dstart, gIsi, isiN, isiB]
    simp [dBin, dVar, dJoin, dC, dComp, dIter, cTEETH, seqD]
    refine ⟨by rw [sizeLine_eq]; omega, ?_⟩
    refine canon_comp (by decide) rfl (by simp) ?_
    refine join_chars (Nat.le_trans (canon_len l) (by decide)) ?_
    refine ⟨⟨dkn_mono 60 64 _ (by omega) hk, canon_ok l⟩, ?_⟩
    have e : dq (sD l) (sD (canon l)) = isT (sD l) := dq_isT l
    rw [← e] at h'
    exact h'
  | _ =>
    simp [t_are_teeth, dRet, dRetN, dSkip, dSeq, dExpr, dSet, dIf, dAsg, dPar, dgT, dgN, dgCons, dgNil, dgSub, dVar, dC, dUn, dBin, dNil, dCons, dApp, dB, dAnd, dOr, dNot, dAndV, dOrV, dNotV, dIfE, dChain, dTup, dLst, dLstH, dCall, dRaise, dFor, dIter, dRng1, dRng2, dZip, dEnum, dComp, dYes, dJoin, dSlice, dPart, dNoPart, dAppend, dSrtSet, dLenSet, dSplit, dZipE, dEnds, dstart, dst, dwipe, gI, gIC, gMod, gDiv, gSub, gPow, gNeg, gLt, gLe, gGt, gGe, gEq, gNe, gIsN, gNotN, gAdd, gMul, gIx, gLen, gIsi, gInt1, gTuple, gList, gSorted, gIn, gAll, gAny, dFrz, gMax2, gMin2, dComp2, isiN, isiB, isT, top] at ht h' ⊢
    try exact h'
end DL

set_option Elab.async false
set_option linter.all false
set_option maxRecDepth 100000
set_option maxHeartbeats 4000000
namespace DL
open PySem PySem.Spec PyProof.Rows L2
theorem top_tup {xs : List D} : top (.tup xs) = true := rfl
theorem comp_map {i : Nat} {te : DTE} {ds : DSt} {M : Mem} {Q : List D → Mem → Prop} (f : D → D) (xs : List D) (h : ∀ x ∈ xs, ∀ R : D → Mem → Prop, R (f x) M → te ((dwipe ds [i]).set i (some x)) M R) (q : Q (xs.map f) M) : compL [i] (dgN i) dYes te ds Q xs [] M := by
  refine compL_by (fun x => some (f x)) xs [] (fun x hx R hR => ?_) ?_
  · show (true = true → te _ _ _) ∧ (true = false → _)
    exact ⟨fun _ => h x hx _ hR, fun z => by cases z⟩
  · rw [List.nil_append, List.filterMap_eq_map']
    exact q
theorem comp_mapG {vs : List Nat} {g : DTG} {te : DTE} {ds : DSt} {M : Mem} {Q : List D → Mem → Prop} (f : D → D) (xs : List D) (h : ∀ x ∈ xs, ∀ R : D → Mem → Prop, R (f x) M → g x (dwipe ds vs) M fun ds2 M2 => te ds2 M2 R) (hg : ∀ x ∈ xs, ∀ R S : DSt → Mem → Prop, (∀ a b, R a b → S a b) → g x (dwipe ds vs) M R → g x (dwipe ds vs) M S) (q : Q (xs.map f) M) : compL vs g dYes te ds Q xs [] M := by
  refine compL_by (fun x => some (f x)) xs [] (fun x hx R hR => ?_) ?_
  · exact hg x hx _ _ (fun a b hab => ⟨fun _ => hab, fun z => by cases z⟩) (h x hx _ hR)
  · rw [List.nil_append, List.filterMap_eq_map']
    exact q
theorem bls_all (f : D → Bool) (xs : List D) : blsOf (xs.map fun x => .bl (f x)) = some (xs.map f) := by
  rw [← blsOf_map, List.map_map]; rfl
theorem all_id {f : D → Bool} {xs : List D} : (xs.map f).all id = xs.all f := by rw [List.all_map]; rfl
def isBar (v : D) : Bool := match v with | .tup xs => hasI v 1 7 && xs.all isT | _ => false
def sp_is_barrel : DSp := fun ds M P _ => match ds with | [v] => dkn 58 v = true ∧ P (.bl (isBar v)) M | _ => False
theorem dkn_tup {n : Nat} {xs : List D} (h : dkn (n + 1) (.tup xs) = true) : ∀ x ∈ xs, dkn n x = true := by simpa [dkn] using h
theorem l_is_barrel (ds : List D) (M : Mem) (P : D → Mem → Prop) (PX : DX) (h : sp_is_barrel ds M P PX) : t_is_barrel sp_has_items sp_are_teeth PX (dEnds P) (dstart ["value", "item"] ds) M := by
  unfold sp_is_barrel at h
  split at h <;> try exact h.elim
  rename_i v
  obtain ⟨hk, h⟩ := h
  have ht := dkn_top hk
  have h' := Fz.here h
  cases v with
  | tup xs =>
    simp [t_is_barrel, dRet, dAndV, dCall, dCons, dNil, dVar, dC, dEnds, dstart, sp_has_items, top]
    by_cases hh : hasI (.tup xs) 1 7 = true
    · simp [hh, dApp, dCons, dNil, dComp, dIter, seqD, dVar] at h' ⊢
      refine ⟨by simp [hasI] at hh; rw [sizeLine_eq]; omega, ?_⟩
      refine comp_map (fun x => .bl (isT x)) xs (fun x hx R hR => ?_) ?_
      · simp [dCall, dCons, dNil, dVar, sp_are_teeth]
        exact ⟨dkn_mono 57 60 x (by omega) (dkn_tup hk x hx), hR⟩
      · simp [gAll, bls_all, all_id]
        simpa [isBar, hh] using h'
    · simp [hh] at h' ⊢
      simpa [isBar, hh] using h'
  | _ =>
    simp [t_is_barrel, dRet, dRetN, dSkip, dSeq, dExpr, dSet, dIf, dAsg, dPar, dgT, dgN, dgCons, dgNil, dgSub, dVar, dC, dUn, dBin, dNil, dCons, dApp, dB, dAnd, dOr, dNot, dAndV, dOrV, dNotV, dIfE, dChain, dTup, dLst, dLstH, dCall, dRaise, dFor, dIter, dRng1, dRng2, dZip, dEnum, dComp, dYes, dJoin, dSlice, dPart, dNoPart, dAppend, dSrtSet, dLenSet, dSplit, dZipE, dEnds, dstart, dst, dwipe, gI, gIC, gMod, gDiv, gSub, gPow, gNeg, gLt, gLe, gGt, gGe, gEq, gNe, gIsN, gNotN, gAdd, gMul, gIx, gLen, gIsi, gInt1, gTuple, gList, gSorted, gIn, gAll, gAny, dFrz, gMax2, gMin2, dComp2, sp_has_items, hasI, isBar, top] at ht h' ⊢
    try exact h'
/-! boxes -/
def isBox (v : D) : Bool := match v with | .tup [a, .tup bs] => isW a 0 3 && hasI (.tup bs) 1 3 && bs.all isBar | _ => false
def sp_is_box_value : DSp := fun ds M P _ => match ds with | [v] => dkn 55 v = true ∧ P (.bl (isBox v)) M | _ => False
theorem l_is_box_value (ds : List D) (M : Mem) (P : D → Mem → Prop) (PX : DX) (h : sp_is_box_value ds M P PX) : t_is_box_value sp_has_items sp_is_within sp_is_barrel PX (dEnds P) (dstart ["value", "barrel"] ds) M := by
  unfold sp_is_box_value at h
  split at h <;> try exact h.elim
  rename_i v
  obtain ⟨hk, h⟩ := h
  have ht := dkn_top hk
  have h' := Fz.here h
  have no : hasI v 2 2 = false → t_is_box_value sp_has_items sp_is_within sp_is_barrel PX (dEnds P) (dstart ["value", "barrel"] [v]) M := by
    intro hh
    have e : isBox v = false := by
      cases v <;> try rfl
      rename_i xs
      unfold isBox
      split
      · rename_i hv
        cases hv
        simp [hasI] at hh
      · rfl
    rw [e] at h'
    simp [t_is_box_value, dRet, dRetN, dSkip, dSeq, dExpr, dSet, dIf, dAsg, dPar, dgT, dgN, dgCons, dgNil, dgSub, dVar, dC, dUn, dBin, dNil, dCons, dApp, dB, dAnd, dOr, dNot, dAndV, dOrV, dNotV, dIfE, dChain, dTup, dLst, dLstH, dCall, dRaise, dFor, dIter, dRng1, dRng2, dZip, dEnum, dComp, dYes, dJoin, dSlice, dPart, dNoPart, dAppend, dSrtSet, dLenSet, dSplit, dZipE, dEnds, dstart, dst, dwipe, gI, gIC, gMod, gDiv, gSub, gPow, gNeg, gLt, gLe, gGt, gGe, gEq, gNe, gIsN, gNotN, gAdd, gMul, gIx, gLen, gIsi, gInt1, gTuple, gList, gSorted, gIn, gAll, gAny, dFrz, gMax2, gMin2, dComp2, sp_has_items, ht, hh]
    exact h'
  cases v with
  | tup xs =>
    match xs, hk, h', no with
    | [a, b], hk, h', _ =>
      have ka := dkn_tup hk a (by simp)
      have kb := dkn_tup hk b (by simp)
      have ta := dkn_top ka
      have tb := dkn_top kb
      have hh : hasI (.tup [a, b]) 2 2 = true := by simp [hasI]
      simp [t_is_box_value, dSeq, dIf, dOr, dNot, dB, dCall, dCons, dNil, dVar, dC, dEnds, dstart, sp_has_items, sp_is_within, hh, top_tup, dBin, gIx, atI, ixN, ta, tb, dRet, dSkip, dAndV]
      by_cases hw : isW a 0 3 = true
      · simp [hw]
        by_cases hi : hasI b 1 3 = true
        · simp [hi]
          cases b with
          | tup bs =>
            simp [dApp, dCons, dNil, dComp, dIter, seqD, dBin, dVar, dC, gIx, atI, ixN]
            refine ⟨by simp [hasI] at hi; rw [sizeLine_eq]; omega, ?_⟩
            refine comp_map (fun x => .bl (isBar x)) bs (fun x hx R hR => ?_) ?_
            · simp [dCall, dCons, dNil, dVar, sp_is_barrel]
              exact ⟨dkn_mono 53 58 x (by omega) (dkn_tup kb x hx), hR⟩
            · simp [gAll, bls_all, all_id]
              simpa [isBox, hi, hw] using h'
          | _ => simp [hasI] at hi
        · have e : isBox (.tup [a, b]) = false := by
            cases b <;> simp [isBox]
            intro _ z
            exact absurd z hi
          rw [e] at h'
          simp [hi]
          exact h'
      · have e : isBox (.tup [a, b]) = false := by
          cases b <;> simp [isBox, hw]
        rw [e] at h'
        simp [hw]
        exact h'
    | [], _, _, no => exact no rfl
    | [_], _, _, no => exact no rfl
    | a :: b :: c :: r, _, _, no => exact no (by simp [hasI]; omega)
  | _ => exact no rfl
end DL

set_option Elab.async false
set_option linter.all false
set_option maxRecDepth 100000
set_option maxHeartbeats 4000000
namespace DL
open PySem PySem.Spec PyProof.Rows L2
def tupL (v : D) : Nat := match v with | .tup xs => xs.length | _ => 0
def beg1 (p : D) : Bool := match p with | .tup [x, b] => isW x 0 ((tupL b : Int) - 1) | _ => false
def beg (bs : List D) (s : D) : Bool := match s with | .tup ss => decide (ss.length = bs.length) && (zipD ss bs).all beg1 | _ => false
def sp_begins : DSp := fun ds M P _ => match ds with | [.tup [_, .tup bs], s] => (∀ b ∈ bs, ∃ xs, b = .tup xs) ∧ bs.length ≤ 1000 ∧ dkn 50 s = true ∧ P (.bl (beg bs s)) M | _ => False
theorem zipD_mem {xs ys : List D} {x : D} (h : x ∈ zipD xs ys) : ∃ a b, x = .tup [a, b] ∧ a ∈ xs ∧ b ∈ ys := by
  unfold zipD at h
  obtain ⟨i, hi, e⟩ := List.getElem_of_mem h
  rw [List.getElem_zipWith] at e
  exact ⟨_, _, e.symm, List.getElem_mem _, List.getElem_mem _⟩
theorem l_begins (ds : List D) (M : Mem) (P : D → Mem → Prop) (PX : DX) (h : sp_begins ds M P PX) : t_begins sp_has_items sp_is_within PX (dEnds P) (dstart ["box", "value", "number", "barrel"] ds) M := by
  unfold sp_begins at h
  split at h <;> try exact h.elim
  rename_i k bs s
  obtain ⟨hb, hz, hk, h⟩ := h
  have ht := dkn_top hk
  have h' := Fz.here h
  simp [t_begins, dSeq, dIf, dNot, dB, dCall, dCons, dNil, dVar, dC, dEnds, dstart, sp_has_items, ht, dBin, gIx, atI, ixN, dRet, dSkip, dApp, gLen]
  by_cases hh : hasI s bs.length bs.length = true
  · simp [hh]
    cases s with
    | tup ss =>
      have hl : ss.length = bs.length := by simp [hasI] at hh; omega
      simp [dComp, dZip, dCons, dNil, dBin, dVar, dC, gIx, atI, ixN, dApp]
      refine ⟨by rw [sizeLine_eq]; simp [zipD]; omega, ?_⟩
      refine compL_by (fun x => some (.bl (beg1 x))) _ [] (fun x hx R hR => ?_) ?_
      · obtain ⟨a, b, rfl, ha, hb2⟩ : ∃ a b, x = .tup [a, b] ∧ a ∈ ss ∧ b ∈ bs := zipD_mem hx
        obtain ⟨xs, rfl⟩ := hb b hb2
        have ta := dkn_top (dkn_tup hk a ha)
        simp [dgT, dgCons, dgNil, dgN, dYes, dCall, dCons, dNil, dVar, dC, dwipe, sp_is_within, dBin, dApp, gLen, gSub, gI, ta]
        simpa [beg1, tupL] using hR
      · simp [List.filterMap_eq_map', gAll, bls_all, all_id]
        simpa [beg, hl] using h'
    | _ => simp [hasI] at hh
  · have e : beg bs s = false := by
      cases s <;> simp [beg]
      intro z
      simp [hasI, z] at hh
    rw [e] at h'
    simp [hh]
    exact h'
/-! good boxes and starts as plain data -/
abbrev Bar := List (List Nat)
def barD (b : Bar) : D := .tup (b.map sD)
def bxD (k : Int) (bs : List Bar) : D := .tup [.int k, .tup (bs.map barD)]
def stD (ss : List Int) : D := .tup (ss.map D.int)
def GBar (b : Bar) : Prop := 1 ≤ b.length ∧ b.length ≤ 7 ∧ ∀ i ∈ b, canon i = i
def GBox (k : Int) (bs : List Bar) : Prop := 0 ≤ k ∧ k ≤ 3 ∧ 1 ≤ bs.length ∧ bs.length ≤ 3 ∧ ∀ b ∈ bs, GBar b
def GSt : List Bar → List Int → Prop
  | [], [] => True
  | b :: bs, s :: ss => (0 ≤ s ∧ s ≤ (b.length : Int) - 1) ∧ GSt bs ss
  | _, _ => False
theorem isT_iff {v : D} : isT v = true ↔ ∃ l, v = sD l ∧ canon l = l := by
  constructor
  · intro h
    cases v <;> simp [isT] at h
    rename_i z
    exact ⟨_, congrArg D.str (sN_tl z).symm, h⟩
  · rintro ⟨l, rfl, h⟩
    simpa [isT] using h
theorem mapAll {α : Type} {f : α → D} {p : D → Prop} {q : α → Prop} (hp : ∀ v, p v → ∃ a, v = f a ∧ q a) : ∀ {xs : List D}, (∀ x ∈ xs, p x) → ∃ l : List α, xs = l.map f ∧ ∀ a ∈ l, q a
  | [], _ => ⟨[], rfl, fun _ h => by cases h⟩
  | x :: r, h => by
    obtain ⟨l, e, hl⟩ := mapAll hp (xs := r) fun y hy => h y (List.mem_cons_of_mem _ hy)
    obtain ⟨a, ea, ha⟩ := hp x (h x List.mem_cons_self)
    refine ⟨a :: l, by rw [ea, e]; rfl, fun b hb => ?_⟩
    rcases List.mem_cons.mp hb with rfl | hb
    · exact ha
    · exact hl b hb
theorem isBar_inv {v : D} (h : isBar v = true) : ∃ b, v = barD b ∧ GBar b := by
  cases v <;> simp [isBar] at h
  rename_i xs
  obtain ⟨l, rfl, hl⟩ := mapAll (p := fun v => isT v = true) (fun v hv => isT_iff.mp hv) h.2
  have hh := h.1
  simp [hasI] at hh
  exact ⟨l, rfl, by omega, by omega, hl⟩
theorem isBar_of {b : Bar} (h : GBar b) : isBar (barD b) = true := by
  obtain ⟨h1, h2, h3⟩ := h
  simp only [isBar, barD, Bool.and_eq_true, List.all_eq_true, hasI, List.length_map, decide_eq_true_eq]
  refine ⟨⟨by omega, by omega⟩, fun x hx => ?_⟩
  obtain ⟨l, hl, rfl⟩ := List.mem_map.mp hx
  exact isT_iff.mpr ⟨l, rfl, h3 l hl⟩
theorem isW_inv {v : D} {lo hi : Int} (h : isW v lo hi = true) : ∃ i, v = .int i ∧ lo ≤ i ∧ i ≤ hi := by
  cases v <;> simp [isW] at h
  exact ⟨_, rfl, h.1, h.2⟩
theorem isBox_inv {v : D} (h : isBox v = true) : ∃ k bs, v = bxD k bs ∧ GBox k bs := by
  unfold isBox at h
  split at h
  · rename_i a bs
    simp only [Bool.and_eq_true, List.all_eq_true] at h
    obtain ⟨⟨h1, h2⟩, h3⟩ := h
    obtain ⟨k, rfl, hk⟩ := isW_inv h1
    obtain ⟨l, rfl, hl⟩ := mapAll (p := fun v => isBar v = true) (fun v hv => isBar_inv hv) h3
    simp [hasI] at h2
    exact ⟨k, l, rfl, by omega, by omega, by omega, by omega, hl⟩
  · cases h
theorem isBox_of {k : Int} {bs : List Bar} (h : GBox k bs) : isBox (bxD k bs) = true := by
  obtain ⟨h0, h1, h2, h3, h4⟩ := h
  simp only [isBox, bxD, Bool.and_eq_true, List.all_eq_true, hasI, List.length_map, decide_eq_true_eq, isW]
  refine ⟨⟨⟨by omega, by omega⟩, by omega, by omega⟩, fun x hx => ?_⟩
  obtain ⟨l, hl, rfl⟩ := List.mem_map.mp hx
  exact isBar_of (h4 l hl)
theorem beg_inv : ∀ {bs : List Bar} {xs : List D}, xs.length = bs.length → (∀ x ∈ zipD xs (bs.map barD), beg1 x = true) → ∃ ss, xs = ss.map D.int ∧ GSt bs ss
  | [], [], _, _ => ⟨[], rfl, trivial⟩
  | b :: bs, x :: xs, hl, h => by
    obtain ⟨ss, e, hs⟩ := beg_inv (bs := bs) (xs := xs) (by simpa using hl) fun y hy => h y (List.mem_cons_of_mem _ hy)
    have h1 := h (.tup [x, barD b]) List.mem_cons_self
    obtain ⟨i, rfl, h2⟩ := isW_inv h1
    refine ⟨i :: ss, by rw [e]; rfl, ⟨h2.1, ?_⟩, hs⟩
    have := h2.2
    simpa [tupL, barD] using this
theorem beg_of {bs : List Bar} {ss : List Int} (h : GSt bs ss) : beg (bs.map barD) (stD ss) = true := by
  have hl : ∀ {bs : List Bar} {ss : List Int}, GSt bs ss → ss.length = bs.length := by
    intro bs
    induction bs with
    | nil => intro ss h; cases ss with
      | nil => rfl
      | cons => exact h.elim
    | cons b bs ih => intro ss h; cases ss with
      | nil => exact h.elim
      | cons s ss => simp [ih h.2]
  have ha : ∀ {bs : List Bar} {ss : List Int}, GSt bs ss → (zipD (ss.map D.int) (bs.map barD)).all beg1 = true := by
    intro bs
    induction bs with
    | nil => intro ss h; cases ss with
      | nil => rfl
      | cons => exact h.elim
    | cons b bs ih => intro ss h; cases ss with
      | nil => exact h.elim
      | cons s ss =>
        simp only [List.map_cons]
        show (beg1 _ && (zipD (ss.map D.int) (bs.map barD)).all beg1) = true
        rw [ih h.2]
        simp [beg1, isW, tupL, barD, h.1.1, h.1.2]
  simp only [beg, stD, List.length_map, hl h, decide_true, Bool.true_and]
  exact ha h
theorem GSt.len : ∀ {bs : List Bar} {ss : List Int}, GSt bs ss → ss.length = bs.length
  | [], [], _ => rfl
  | b :: bs, s :: ss, h => by simp [GSt.len h.2]
/-! raises -/
def sp_need_box (e : Addr) : DSp := fun ds M P PX => match ds with | [v] => dkn 55 v = true ∧ ((isBox v = false ∧ PX (.ref e) none M) ∨ (isBox v = true ∧ P .non M)) | _ => False
theorem l_need_box (e : Addr) (ds : List D) (M : Mem) (P : D → Mem → Prop) (PX : DX) (h : sp_need_box e ds M P PX) : t_need_box sp_is_box_value e PX (dEnds P) (dstart ["value"] ds) M := by
  unfold sp_need_box at h
  split at h <;> try exact h.elim
  rename_i v
  obtain ⟨hk, h⟩ := h
  rcases h with ⟨e, h⟩ | ⟨e, h⟩
  · simp [t_need_box, dRet, dRetN, dSkip, dSeq, dExpr, dSet, dIf, dAsg, dPar, dgT, dgN, dgCons, dgNil, dgSub, dVar, dC, dUn, dBin, dNil, dCons, dApp, dB, dAnd, dOr, dNot, dAndV, dOrV, dNotV, dIfE, dChain, dTup, dLst, dLstH, dCall, dRaise, dFor, dIter, dRng1, dRng2, dZip, dEnum, dComp, dYes, dJoin, dSlice, dPart, dNoPart, dAppend, dSrtSet, dLenSet, dSplit, dZipE, dEnds, dstart, dst, dwipe, gI, gIC, gMod, gDiv, gSub, gPow, gNeg, gLt, gLe, gGt, gGe, gEq, gNe, gIsN, gNotN, gAdd, gMul, gIx, gLen, gIsi, gInt1, gTuple, gList, gSorted, gIn, gAll, gAny, dFrz, gMax2, gMin2, dComp2, sp_is_box_value, hk, e]; exact h
  · have h' := Fz.here h
    simp [t_need_box, dRet, dRetN, dSkip, dSeq, dExpr, dSet, dIf, dAsg, dPar, dgT, dgN, dgCons, dgNil, dgSub, dVar, dC, dUn, dBin, dNil, dCons, dApp, dB, dAnd, dOr, dNot, dAndV, dOrV, dNotV, dIfE, dChain, dTup, dLst, dLstH, dCall, dRaise, dFor, dIter, dRng1, dRng2, dZip, dEnum, dComp, dYes, dJoin, dSlice, dPart, dNoPart, dAppend, dSrtSet, dLenSet, dSplit, dZipE, dEnds, dstart, dst, dwipe, gI, gIC, gMod, gDiv, gSub, gPow, gNeg, gLt, gLe, gGt, gGe, gEq, gNe, gIsN, gNotN, gAdd, gMul, gIx, gLen, gIsi, gInt1, gTuple, gList, gSorted, gIn, gAll, gAny, dFrz, gMax2, gMin2, dComp2, sp_is_box_value, hk, e]; exact h'
def sp_need_beginning (e : Addr) : DSp := fun ds M P PX => match ds with | [.tup [k, .tup bs], s] => (∀ b ∈ bs, ∃ xs, b = .tup xs) ∧ bs.length ≤ 1000 ∧ dkn 50 s = true ∧ ((beg bs s = false ∧ PX (.ref e) none M) ∨ (beg bs s = true ∧ P .non M)) | _ => False
theorem l_need_beginning (e : Addr) (ds : List D) (M : Mem) (P : D → Mem → Prop) (PX : DX) (h : sp_need_beginning e ds M P PX) : t_need_beginning sp_begins e PX (dEnds P) (dstart ["box", "value"] ds) M := by
  unfold sp_need_beginning at h
  split at h <;> try exact h.elim
  obtain ⟨hb, hz, hk, h⟩ := h
  rcases h with ⟨e, h⟩ | ⟨e, h⟩
  · simp [t_need_beginning, dRet, dRetN, dSkip, dSeq, dExpr, dSet, dIf, dAsg, dPar, dgT, dgN, dgCons, dgNil, dgSub, dVar, dC, dUn, dBin, dNil, dCons, dApp, dB, dAnd, dOr, dNot, dAndV, dOrV, dNotV, dIfE, dChain, dTup, dLst, dLstH, dCall, dRaise, dFor, dIter, dRng1, dRng2, dZip, dEnum, dComp, dYes, dJoin, dSlice, dPart, dNoPart, dAppend, dSrtSet, dLenSet, dSplit, dZipE, dEnds, dstart, dst, dwipe, gI, gIC, gMod, gDiv, gSub, gPow, gNeg, gLt, gLe, gGt, gGe, gEq, gNe, gIsN, gNotN, gAdd, gMul, gIx, gLen, gIsi, gInt1, gTuple, gList, gSorted, gIn, gAll, gAny, dFrz, gMax2, gMin2, dComp2, sp_begins, hk, e, hz]; exact ⟨hb, h⟩
  · have h' := Fz.here h
    simp [t_need_beginning, dRet, dRetN, dSkip, dSeq, dExpr, dSet, dIf, dAsg, dPar, dgT, dgN, dgCons, dgNil, dgSub, dVar, dC, dUn, dBin, dNil, dCons, dApp, dB, dAnd, dOr, dNot, dAndV, dOrV, dNotV, dIfE, dChain, dTup, dLst, dLstH, dCall, dRaise, dFor, dIter, dRng1, dRng2, dZip, dEnum, dComp, dYes, dJoin, dSlice, dPart, dNoPart, dAppend, dSrtSet, dLenSet, dSplit, dZipE, dEnds, dstart, dst, dwipe, gI, gIC, gMod, gDiv, gSub, gPow, gNeg, gLt, gLe, gGt, gGe, gEq, gNe, gIsN, gNotN, gAdd, gMul, gIx, gLen, gIsi, gInt1, gTuple, gList, gSorted, gIn, gAll, gAny, dFrz, gMax2, gMin2, dComp2, sp_begins, hk, e, hz]; exact ⟨hb, h'⟩
def sp_need_tick (e : Addr) (G : Int) : DSp := fun ds M P PX => match ds with | [v] => top v = true ∧ ((isW v 0 G = false ∧ PX (.ref e) none M) ∨ (isW v 0 G = true ∧ P .non M)) | _ => False
theorem l_need_tick (e : Addr) (G : Int) (ds : List D) (M : Mem) (P : D → Mem → Prop) (PX : DX) (h : sp_need_tick e G ds M P PX) : t_need_tick sp_is_within (.int G) e PX (dEnds P) (dstart ["value"] ds) M := by
  unfold sp_need_tick at h
  split at h <;> try exact h.elim
  obtain ⟨hk, h⟩ := h
  rcases h with ⟨e, h⟩ | ⟨e, h⟩
  · simp [t_need_tick, dRet, dRetN, dSkip, dSeq, dExpr, dSet, dIf, dAsg, dPar, dgT, dgN, dgCons, dgNil, dgSub, dVar, dC, dUn, dBin, dNil, dCons, dApp, dB, dAnd, dOr, dNot, dAndV, dOrV, dNotV, dIfE, dChain, dTup, dLst, dLstH, dCall, dRaise, dFor, dIter, dRng1, dRng2, dZip, dEnum, dComp, dYes, dJoin, dSlice, dPart, dNoPart, dAppend, dSrtSet, dLenSet, dSplit, dZipE, dEnds, dstart, dst, dwipe, gI, gIC, gMod, gDiv, gSub, gPow, gNeg, gLt, gLe, gGt, gGe, gEq, gNe, gIsN, gNotN, gAdd, gMul, gIx, gLen, gIsi, gInt1, gTuple, gList, gSorted, gIn, gAll, gAny, dFrz, gMax2, gMin2, dComp2, sp_is_within, hk, e]; exact h
  · have h' := Fz.here h
    simp [t_need_tick, dRet, dRetN, dSkip, dSeq, dExpr, dSet, dIf, dAsg, dPar, dgT, dgN, dgCons, dgNil, dgSub, dVar, dC, dUn, dBin, dNil, dCons, dApp, dB, dAnd, dOr, dNot, dAndV, dOrV, dNotV, dIfE, dChain, dTup, dLst, dLstH, dCall, dRaise, dFor, dIter, dRng1, dRng2, dZip, dEnum, dComp, dYes, dJoin, dSlice, dPart, dNoPart, dAppend, dSrtSet, dLenSet, dSplit, dZipE, dEnds, dstart, dst, dwipe, gI, gIC, gMod, gDiv, gSub, gPow, gNeg, gLt, gLe, gGt, gGe, gEq, gNe, gIsN, gNotN, gAdd, gMul, gIx, gLen, gIsi, gInt1, gTuple, gList, gSorted, gIn, gAll, gAny, dFrz, gMax2, gMin2, dComp2, sp_is_within, hk, e]; exact h'
def sp_need_number (e : Addr) : DSp := fun ds M P PX => match ds with | [v, .int G] => top v = true ∧ ((isW v 0 G = false ∧ PX (.ref e) none M) ∨ (isW v 0 G = true ∧ P .non M)) | _ => False
theorem l_need_number (e : Addr) (ds : List D) (M : Mem) (P : D → Mem → Prop) (PX : DX) (h : sp_need_number e ds M P PX) : t_need_number sp_is_within e PX (dEnds P) (dstart ["value", "most"] ds) M := by
  unfold sp_need_number at h
  split at h <;> try exact h.elim
  obtain ⟨hk, h⟩ := h
  rcases h with ⟨e, h⟩ | ⟨e, h⟩
  · simp [t_need_number, dRet, dRetN, dSkip, dSeq, dExpr, dSet, dIf, dAsg, dPar, dgT, dgN, dgCons, dgNil, dgSub, dVar, dC, dUn, dBin, dNil, dCons, dApp, dB, dAnd, dOr, dNot, dAndV, dOrV, dNotV, dIfE, dChain, dTup, dLst, dLstH, dCall, dRaise, dFor, dIter, dRng1, dRng2, dZip, dEnum, dComp, dYes, dJoin, dSlice, dPart, dNoPart, dAppend, dSrtSet, dLenSet, dSplit, dZipE, dEnds, dstart, dst, dwipe, gI, gIC, gMod, gDiv, gSub, gPow, gNeg, gLt, gLe, gGt, gGe, gEq, gNe, gIsN, gNotN, gAdd, gMul, gIx, gLen, gIsi, gInt1, gTuple, gList, gSorted, gIn, gAll, gAny, dFrz, gMax2, gMin2, dComp2, sp_is_within, hk, e]; exact h
  · have h' := Fz.here h
    simp [t_need_number, dRet, dRetN, dSkip, dSeq, dExpr, dSet, dIf, dAsg, dPar, dgT, dgN, dgCons, dgNil, dgSub, dVar, dC, dUn, dBin, dNil, dCons, dApp, dB, dAnd, dOr, dNot, dAndV, dOrV, dNotV, dIfE, dChain, dTup, dLst, dLstH, dCall, dRaise, dFor, dIter, dRng1, dRng2, dZip, dEnum, dComp, dYes, dJoin, dSlice, dPart, dNoPart, dAppend, dSrtSet, dLenSet, dSplit, dZipE, dEnds, dstart, dst, dwipe, gI, gIC, gMod, gDiv, gSub, gPow, gNeg, gLt, gLe, gGt, gGe, gEq, gNe, gIsN, gNotN, gAdd, gMul, gIx, gLen, gIsi, gInt1, gTuple, gList, gSorted, gIn, gAll, gAny, dFrz, gMax2, gMin2, dComp2, sp_is_within, hk, e]; exact h'
end DL

set_option Elab.async false
set_option linter.all false
set_option maxRecDepth 100000
set_option maxHeartbeats 4000000
namespace DL
open PySem PySem.Spec PyProof.Rows L2
def pick (b : Bar) (i : Int) : List Nat := b.getD (i % (b.length : Int)).toNat []
def picks : List Bar → List Int → Int → List (List Nat)
  | b :: bs, s :: ss, t => pick b (s + t) :: picks bs ss t
  | _, _, _ => []
def heard (bs : List Bar) (ss : List Int) (t : Int) : List Nat := canon (picks bs ss t).flatten
def sp_items_at : DSp := fun ds M P _ => ∃ k bs ss t, ds = [bxD k bs, stD ss, .int t] ∧ GSt bs ss ∧ bs.length ≤ 1000 ∧ P (.lst ((picks bs ss t).map sD)) M
theorem atI_pick {b : Bar} {i : Int} (h : 1 ≤ b.length) : atI (b.map sD) (i % (b.length : Int)) = some (sD (pick b i)) := by
  have h1 : 0 ≤ i % (b.length : Int) := Int.emod_nonneg _ (by omega)
  have h2 : i % (b.length : Int) < b.length := Int.emod_lt_of_pos _ (by omega)
  have h3 : (i % (b.length : Int)).toNat < b.length := by omega
  unfold atI ixN
  rw [List.length_map, if_pos h1, if_pos h2]
  show (b.map sD)[_]? = _
  rw [List.getElem?_map, List.getElem?_eq_getElem h3]
  show some (sD _) = _
  unfold pick
  rw [List.getD_eq_getElem?_getD, List.getElem?_eq_getElem h3]
  rfl
def itF (t : Int) : D → Option D := fun x => match x with | .tup [.int s, .tup its] => atI its ((s + t) % (its.length : Int)) | _ => none
theorem itF_map (t : Int) : ∀ {bs : List Bar} {ss : List Int}, GSt bs ss → (zipD (ss.map D.int) (bs.map barD)).filterMap (itF t) = (picks bs ss t).map sD
  | [], [], _ => rfl
  | b :: bs, s :: ss, h => by
    show List.filterMap (itF t) (.tup [.int s, barD b] :: zipD (ss.map D.int) (bs.map barD)) = _
    have e : itF t (.tup [.int s, barD b]) = some (sD (pick b (s + t))) := by
      show atI (b.map sD) ((s + t) % ((b.map sD).length : Int)) = _
      rw [List.length_map, atI_pick (by have := h.1; omega)]
    rw [List.filterMap_cons, itF_map t h.2, e]
    rfl
theorem zipSt {bs : List Bar} {ss : List Int} (h : GSt bs ss) : ∀ x ∈ zipD (ss.map D.int) (bs.map barD), ∃ s b, x = .tup [.int s, barD b] ∧ 1 ≤ b.length := by
  induction bs generalizing ss with
  | nil => cases ss with
    | nil => intro x hx; cases hx
    | cons => exact h.elim
  | cons b bs ih => cases ss with
    | nil => exact h.elim
    | cons s ss =>
      intro x hx
      rcases List.mem_cons.mp hx with rfl | hx
      · exact ⟨s, b, rfl, by have := h.1; omega⟩
      · exact ih h.2 x hx
theorem l_items_at (ds : List D) (M : Mem) (P : D → Mem → Prop) (PX : DX) (h : sp_items_at ds M P PX) : t_items_at PX (dEnds P) (dstart ["box", "beginning", "tick", "begin", "barrel"] ds) M := by
  obtain ⟨k, bs, ss, t, rfl, hg, hz, h⟩ := h
  have h' := Fz.here h
  have hl := hg.len
  simp [t_items_at, dRet, dComp, dZip, dCons, dNil, dVar, dC, dBin, gIx, atI, ixN, dEnds, dstart, bxD, stD]
  refine ⟨by rw [sizeLine_eq]; simp [zipD]; omega, ?_⟩
  refine compL_by (itF t) _ [] (fun x hx R hR => ?_) ?_
  · obtain ⟨s, b, rfl, hb⟩ := zipSt hg x hx
    have e : itF t (.tup [.int s, barD b]) = some (sD (pick b (s + t))) := by
      show atI (b.map sD) ((s + t) % ((b.map sD).length : Int)) = _
      rw [List.length_map, atI_pick hb]
    rw [e] at hR
    simp [dgT, dgCons, dgNil, dgN, dYes, dVar, dC, dwipe, dBin, gMod, gIC, gAdd, dApp, dCons, dNil, gLen, barD]
    refine ⟨by omega, ?_⟩
    simp only [gIx, atI_pick hb]
    exact hR
  · rw [List.nil_append, itF_map t hg]
    exact h'
def sp_chord_at : DSp := fun ds M P _ => ∃ k bs ss t, ds = [bxD k bs, stD ss, .int t] ∧ GSt bs ss ∧ bs.length ≤ 1000 ∧ (∀ b ∈ bs, GBar b) ∧ P (sD (heard bs ss t)) M
theorem canon_le (l : List Nat) (h : canon l = l) : l.length ≤ 4 := by rw [← h]; exact canon_len l
theorem picks_ok (t : Int) : ∀ {bs : List Bar} {ss : List Int}, GSt bs ss → (∀ b ∈ bs, GBar b) → ∀ l ∈ picks bs ss t, canon l = l
  | [], [], _, _, l, hl => by cases hl
  | b :: bs, s :: ss, h, hb, l, hl => by
    rcases List.mem_cons.mp hl with rfl | hl
    · have g := hb b List.mem_cons_self
      have h1 : 0 ≤ (s + t) % (b.length : Int) := Int.emod_nonneg _ (by have := g.1; omega)
      have h2 : (s + t) % (b.length : Int) < b.length := Int.emod_lt_of_pos _ (by have := g.1; omega)
      refine g.2.2 _ ?_
      unfold pick
      rw [List.getD_eq_getElem?_getD, List.getElem?_eq_getElem (show ((s + t) % (b.length : Int)).toNat < b.length by omega)]
      exact List.getElem_mem _
    · exact picks_ok t h.2 (fun b hb' => hb b (List.mem_cons_of_mem _ hb')) l hl
theorem picks_len (t : Int) : ∀ {bs : List Bar} {ss : List Int}, GSt bs ss → (picks bs ss t).length = bs.length
  | [], [], _ => rfl
  | b :: bs, s :: ss, h => by simp [picks, picks_len t h.2]
theorem sum_le {l : List (List Nat)} (h : ∀ x ∈ l, canon x = x) : (l.map List.length).sum ≤ l.length * 4 := by
  induction l with
  | nil => simp
  | cons x l ih =>
    have := canon_le x (h x List.mem_cons_self)
    have := ih fun y hy => h y (List.mem_cons_of_mem _ hy)
    simp only [List.map_cons, List.sum_cons, List.length_cons]
    omega
theorem join_strs {l : List (List Nat)} {P : Str → Prop} (hl : (l.map List.length).sum ≤ 100000) (h : P (sN l.flatten)) : joinD (sN []) (l.map sD) P := by
  unfold joinD
  rw [strsOf_sD]
  refine ⟨?_, ?_⟩
  · have z : (List.map (fun x => x.length) (l.map sN)).sum = (l.map List.length).sum := by
      rw [List.map_map]; rfl
    rw [z]
    show _ + (List.map sN l).length * 0 ≤ _
    omega
  · rw [join_nil]
    exact h
theorem l_chord_at (ds : List D) (M : Mem) (P : D → Mem → Prop) (PX : DX) (h : sp_chord_at ds M P PX) : t_chord_at sp_items_at cTEETH PX (dEnds P) (dstart ["box", "beginning", "tick", "plucked", "tooth"] ds) M := by
  obtain ⟨k, bs, ss, t, rfl, hg, hz, hb, h⟩ := h
  have h' := Fz.here h
  simp [t_chord_at, dSeq, dSet, dJoin, dC, dCall, dCons, dNil, dVar, dEnds, dstart]
  refine ⟨k, bs, ss, t, rfl, hg, hz, ?_⟩
  refine join_strs ?_ ?_
  · have := sum_le (picks_ok t hg hb)
    rw [picks_len t hg] at this
    omega
  · simp [dRet, dJoin, dC, dComp, dIter, cTEETH, seqD]
    refine ⟨by rw [sizeLine_eq]; omega, ?_⟩
    refine canon_comp (by decide) rfl (by simp) ?_
    exact join_chars (Nat.le_trans (canon_len _) (by decide)) h'
def sp_chord (eB eS eT : Addr) (G : Int) : DSp := fun ds M P PX => ∃ b s t, ds = [b, s, t] ∧ dkn 50 b = true ∧ dkn 50 s = true ∧ top t = true ∧
  ((isBox b = false ∧ PX (.ref eB) none M) ∨ ∃ k bs, b = bxD k bs ∧ GBox k bs ∧ ((beg (bs.map barD) s = false ∧ PX (.ref eS) none M) ∨ ∃ ss, s = stD ss ∧ GSt bs ss ∧
    ((isW t 0 G = false ∧ PX (.ref eT) none M) ∨ ∃ i, t = .int i ∧ 0 ≤ i ∧ i ≤ G ∧ P (sD (heard bs ss i)) M)))
theorem barD_tup {bs : List Bar} : ∀ b ∈ bs.map barD, ∃ xs, b = .tup xs := fun b hb => by
  obtain ⟨l, _, rfl⟩ := List.mem_map.mp hb
  exact ⟨_, rfl⟩
theorem l_chord {eB eS eT : Addr} {G : Int} (ds : List D) (M : Mem) (P : D → Mem → Prop) (PX : DX) (h : sp_chord eB eS eT G ds M P PX) : t_chord (sp_need_box eB) (sp_need_beginning eS) (sp_need_tick eT G) sp_chord_at PX (dEnds P) (dstart ["box", "beginning", "tick"] ds) M := by
  obtain ⟨b, s, t, rfl, kb, ks, kt, h⟩ := h
  simp [t_chord, dSeq, dExpr, dCall, dCons, dNil, dVar, dEnds, dstart, sp_need_box]
  refine ⟨dkn_mono 50 55 b (by omega) kb, ?_⟩
  rcases h with ⟨e, h⟩ | ⟨k, bs, rfl, gb, h⟩
  · exact .inl ⟨e, h⟩
  refine .inr ⟨isBox_of gb, ?_⟩
  have hz : bs.length ≤ 1000 := by have := gb.2.2.2.1; omega
  refine ⟨barD_tup, by simpa using hz, ks, ?_⟩
  rcases h with ⟨e, h⟩ | ⟨ss, rfl, gs, h⟩
  · exact .inl ⟨e, h⟩
  refine .inr ⟨beg_of gs, ?_⟩
  refine ⟨kt, ?_⟩
  rcases h with ⟨e, h⟩ | ⟨i, rfl, h0, h1, h⟩
  · exact .inl ⟨e, h⟩
  refine .inr ⟨by simp [isW, h0, h1], ?_⟩
  exact ⟨k, bs, ss, i, rfl, gs, hz, gb.2.2.2.2, Fz.here h⟩
def sp_chords (eB eS eT eN : Addr) (G : Int) : DSp := fun ds M P PX => ∃ b s t n, ds = [b, s, t, n] ∧ dkn 50 b = true ∧ dkn 50 s = true ∧ top t = true ∧ top n = true ∧
  ((isBox b = false ∧ PX (.ref eB) none M) ∨ ∃ k bs, b = bxD k bs ∧ GBox k bs ∧ ((beg (bs.map barD) s = false ∧ PX (.ref eS) none M) ∨ ∃ ss, s = stD ss ∧ GSt bs ss ∧
    ((isW t 0 G = false ∧ PX (.ref eT) none M) ∨ ∃ i, t = .int i ∧ 0 ≤ i ∧ i ≤ G ∧
      ((isW n 0 100 = false ∧ PX (.ref eN) none M) ∨ ∃ m : Nat, n = .int m ∧ m ≤ 100 ∧ P (.lst ((List.range m).map fun j => sD (heard bs ss (i + (j : Nat))))) M))))
def chF (bs : List Bar) (ss : List Int) (i : Int) : D → D := fun x => match x with | .int j => sD (heard bs ss (i + j)) | _ => .non
theorem upto_eq (n : Nat) (i : Int) : upto i n = (List.range n).map fun j => D.int (i + (j : Nat)) := rfl
theorem l_chords {eB eS eT eN : Addr} {G : Int} (ds : List D) (M : Mem) (P : D → Mem → Prop) (PX : DX) (h : sp_chords eB eS eT eN G ds M P PX) : t_chords (sp_need_box eB) (sp_need_beginning eS) (sp_need_tick eT G) (sp_need_number eN) sp_chord_at PX (dEnds P) (dstart ["box", "beginning", "tick", "many", "more"] ds) M := by
  obtain ⟨b, s, t, n, rfl, kb, ks, kt, kn, h⟩ := h
  simp [t_chords, dSeq, dExpr, dCall, dCons, dNil, dVar, dC, dEnds, dstart, sp_need_box]
  refine ⟨dkn_mono 50 55 b (by omega) kb, ?_⟩
  rcases h with ⟨e, h⟩ | ⟨k, bs, rfl, gb, h⟩
  · exact .inl ⟨e, h⟩
  refine .inr ⟨isBox_of gb, ?_⟩
  have hz : bs.length ≤ 1000 := by have := gb.2.2.2.1; omega
  refine ⟨barD_tup, by simpa using hz, ks, ?_⟩
  rcases h with ⟨e, h⟩ | ⟨ss, rfl, gs, h⟩
  · exact .inl ⟨e, h⟩
  refine .inr ⟨beg_of gs, ?_⟩
  refine ⟨kt, ?_⟩
  rcases h with ⟨e, h⟩ | ⟨i, rfl, h0, h1, h⟩
  · exact .inl ⟨e, h⟩
  refine .inr ⟨by simp [isW, h0, h1], ?_⟩
  refine ⟨kn, ?_⟩
  rcases h with ⟨e, h⟩ | ⟨m, rfl, h2, h⟩
  · exact .inl ⟨e, h⟩
  refine .inr ⟨by simp [isW]; omega, ?_⟩
  simp [dRet, dComp, dRng1, dCons, dNil, dVar]
  refine ⟨by omega, ?_⟩
  rw [upto_eq]
  refine ⟨by rw [sizeLine_eq]; simp; omega, ?_⟩
  refine comp_map (chF bs ss i) _ (fun x hx R hR => ?_) ?_
  · obtain ⟨j, _, rfl⟩ := List.mem_map.mp hx
    simp [dCall, dCons, dNil, dVar, dwipe, dBin, gAdd]
    exact ⟨k, bs, ss, i + (0 + j), by simp, gs, hz, gb.2.2.2.2, hR⟩
  · have := Fz.here h
    rw [List.map_map]
    simpa [chF, Function.comp_def] using this
end DL

set_option Elab.async false
set_option linter.all false
set_option maxRecDepth 100000
set_option maxHeartbeats 4000000
namespace DL
open PySem PySem.Spec PyProof.Rows L2
/-! ### while -/
theorem whileN_rec {t : DTT} {tb : DTS} {W : DEnds} (Inv : Nat → DSt → Mem → Prop)
    (h : ∀ n ds M, Inv n ds M → ∀ Nx : DSt → Mem → Prop, (∀ m ds2 M2, m < n → Inv m ds2 M2 → Nx ds2 M2) → t ds M fun k M1 => (k = true → tb { nx := Nx, rt := W.rt, bk := W.nx, ct := Nx } ds M1) ∧ (k = false → W.nx ds M1)) :
    ∀ (N n : Nat) ds M, Inv n ds M → n < N → whileN t tb W N ds M
  | 0, n, ds, M, _, hn => absurd hn (by omega)
  | N + 1, n, ds, M, i, hn => h n ds M i _ fun m ds2 M2 hm i2 => whileN_rec Inv h N m ds2 M2 i2 (by omega)
theorem while_rec {t : DTT} {tb : DTS} {W : DEnds} {n : Nat} {ds : DSt} {M : Mem} (Inv : Nat → DSt → Mem → Prop) (i : Inv n ds M)
    (h : ∀ n ds M, Inv n ds M → ∀ V : DEnds, V.rt = W.rt → V.bk = W.nx → (∀ m ds2 M2, m < n → Inv m ds2 M2 → V.nx ds2 M2) → t ds M fun k M1 => (k = true → tb V ds M1) ∧ (k = false → W.nx ds M1)) : dWhile t tb W ds M :=
  ⟨n + 1, whileN_rec Inv (fun n ds M i Nx hN => h n ds M i { nx := Nx, rt := W.rt, bk := W.nx, ct := Nx } rfl rfl hN) (n + 1) n ds M i (by omega)⟩
/-! ### periods -/
theorem lcm_fold_dvd : ∀ (l : List Nat) (a : Nat), a ∣ l.foldl Nat.lcm a ∧ ∀ x ∈ l, x ∣ l.foldl Nat.lcm a
  | [], a => ⟨Nat.dvd_refl _, fun _ h => by cases h⟩
  | x :: l, a => by
    obtain ⟨h1, h2⟩ := lcm_fold_dvd l (Nat.lcm a x)
    refine ⟨Nat.dvd_trans (Nat.dvd_lcm_left a x) h1, fun y hy => ?_⟩
    rcases List.mem_cons.mp hy with rfl | hy
    · exact Nat.dvd_trans (Nat.dvd_lcm_right a y) h1
    · exact h2 y hy
theorem lcm_fold_min : ∀ (l : List Nat) (a n : Nat), a ∣ n → (∀ x ∈ l, x ∣ n) → l.foldl Nat.lcm a ∣ n
  | [], a, n, h, _ => h
  | x :: l, a, n, h, hl => lcm_fold_min l (Nat.lcm a x) n (Nat.lcm_dvd h (hl x List.mem_cons_self)) fun y hy => hl y (List.mem_cons_of_mem _ hy)
theorem lcm_fold_pos : ∀ (l : List Nat) (a : Nat), 0 < a → (∀ x ∈ l, 0 < x) → 0 < l.foldl Nat.lcm a
  | [], a, h, _ => h
  | x :: l, a, h, hl => lcm_fold_pos l (Nat.lcm a x) (Nat.lcm_pos h (hl x List.mem_cons_self)) fun y hy => hl y (List.mem_cons_of_mem _ hy)
theorem lcm_fold_le : ∀ (l : List Nat) (a : Nat), 0 < a → (∀ x ∈ l, 0 < x ∧ x ≤ 7) → l.foldl Nat.lcm a ≤ a * 7 ^ l.length
  | [], a, h, _ => by simp
  | x :: l, a, h, hl => by
    have hx := hl x List.mem_cons_self
    have h1 := lcm_fold_le l (Nat.lcm a x) (Nat.lcm_pos h hx.1) fun y hy => hl y (List.mem_cons_of_mem _ hy)
    have h2 : Nat.lcm a x ≤ a * 7 := Nat.le_trans (Nat.le_of_dvd (Nat.mul_pos h hx.1) (Nat.lcm_dvd (Nat.dvd_mul_right a x) (Nat.dvd_mul_left x a))) (Nat.mul_le_mul_left a hx.2)
    calc _ ≤ Nat.lcm a x * 7 ^ l.length := h1
      _ ≤ a * 7 * 7 ^ l.length := Nat.mul_le_mul_right _ h2
      _ = a * 7 ^ (x :: l).length := by rw [List.length_cons, Nat.pow_succ]; ac_rfl
/-! ### counting -/
def cnt (p : Nat → Bool) (n : Nat) : Nat := ((List.range n).filter p).length
theorem cnt_succ (p : Nat → Bool) (n : Nat) : cnt p (n + 1) = cnt p n + (if p n then 1 else 0) := by
  unfold cnt
  rw [List.range_succ, List.filter_append, List.length_append]
  cases h : p n <;> simp [h]
theorem cnt_add (p : Nat → Bool) (s : Nat) (hp : ∀ n, p (n + s) = p n) : ∀ n, cnt p (s + n) = cnt p s + cnt p n
  | 0 => by simp [cnt]
  | n + 1 => by
    rw [← Nat.add_assoc, cnt_succ, cnt_succ, cnt_add p s hp n, Nat.add_comm s n, hp n]
    omega
theorem cnt_mul (p : Nat → Bool) (s : Nat) (hp : ∀ n, p (n + s) = p n) (r : Nat) : ∀ q, cnt p (q * s + r) = q * cnt p s + cnt p r
  | 0 => by simp
  | q + 1 => by
    rw [show (q + 1) * s + r = s + (q * s + r) by rw [Nat.add_mul]; omega, cnt_add p s hp, cnt_mul p s hp r q, Nat.add_mul]
    omega
theorem cnt_div (p : Nat → Bool) (s : Nat) (hp : ∀ n, p (n + s) = p n) (n : Nat) : cnt p n = n / s * cnt p s + cnt p (n % s) := by
  rw [← cnt_mul p s hp]
  congr 1
  rw [Nat.mul_comm]
  exact (Nat.div_add_mod n s).symm
theorem filter_lt (p : Nat → Bool) (n : Nat) : ∀ m, n ≤ m → ((List.range m).filter p).filter (fun t => decide (t < n)) = (List.range n).filter p := by
  intro m h
  obtain ⟨k, rfl⟩ := Nat.exists_eq_add_of_le h
  induction k with
  | zero =>
    refine List.filter_eq_self.mpr fun x hx => ?_
    have := List.mem_range.mp (List.mem_filter.mp hx).1
    simpa using this
  | succ k ih =>
    rw [← Nat.add_assoc, List.range_succ, List.filter_append, List.filter_append, ih (by omega)]
    cases hp : p (n + k) <;> simp [hp]
end DL

set_option Elab.async false
set_option linter.all false
set_option maxRecDepth 100000
set_option maxHeartbeats 4000000
namespace DL
open PySem PySem.Spec PyProof.Rows L2
/-! ### data are told apart -/
theorem map_inj' {α : Type} {f : α → D} (h : ∀ a b, f a = f b → a = b) : ∀ {l m : List α}, l.map f = m.map f ↔ l = m := fun {l m} => List.map_inj_right (fun a b => h a b)
theorem sD_inj {a b : List Nat} : sD a = sD b ↔ a = b := by
  constructor
  · intro h
    injection h with h
    exact sN_inj.mp h
  · rintro rfl; rfl
theorem barD_inj {a b : Bar} : barD a = barD b ↔ a = b := by
  unfold barD
  rw [D.tup.injEq]
  exact map_inj' fun a b => sD_inj.mp
theorem stD_inj {a b : List Int} : stD a = stD b ↔ a = b := by
  unfold stD
  rw [D.tup.injEq]
  exact map_inj' fun a b h => by injection h
theorem bxD_inj {k k' : Int} {bs bs' : List Bar} : bxD k bs = bxD k' bs' ↔ k = k' ∧ bs = bs' := by
  unfold bxD
  simp only [D.tup.injEq, List.cons.injEq, D.int.injEq, and_true]
  rw [map_inj' fun a b => barD_inj.mp]
/-! ### comprehensions over the images of a list -/
theorem filterMap_if {α : Type} (p : α → Bool) (f : α → D) : ∀ l : List α, l.filterMap (fun a => if p a = true then some (f a) else none) = (l.filter p).map f
  | [] => rfl
  | a :: l => by
    rw [List.filterMap_cons, filterMap_if p f l, List.filter_cons]
    cases p a <;> rfl
theorem comp_f {α : Type} {vs : List Nat} {g : DTG} {tt : DTT} {te : DTE} {ds : DSt} {Q : List D → Mem → Prop} {M : Mem} {h : α → D} (p : α → Bool) (f : α → D) : ∀ (l : List α) (acc : List D),
    (∀ a ∈ l, ∀ R : Option D → Mem → Prop, (p a = true → R (some (f a)) M) → (p a = false → R none M) → g (h a) (dwipe ds vs) M fun ds2 M2 => tt ds2 M2 fun b M3 => (b = true → te ds2 M3 fun y M4 => R (some y) M4) ∧ (b = false → R none M3)) →
    Q (acc ++ (l.filter p).map f) M → compL vs g tt te ds Q (l.map h) acc M
  | [], acc, _, q => by
    simp only [List.filter_nil, List.map_nil, List.append_nil] at q
    exact q
  | a :: l, acc, s, q => by
    rw [List.filter_cons] at q
    refine s a List.mem_cons_self (fun o M' => match o with | some y => compL vs g tt te ds Q (l.map h) (acc ++ [y]) M' | none => compL vs g tt te ds Q (l.map h) acc M') (fun e => ?_) (fun e => ?_)
    · rw [if_pos e] at q
      refine comp_f p f l (acc ++ [f a]) (fun b hb => s b (List.mem_cons_of_mem _ hb)) ?_
      rw [List.append_assoc]
      exact q
    · rw [e] at q
      exact comp_f p f l acc (fun b hb => s b (List.mem_cons_of_mem _ hb)) q
theorem comp_m {α : Type} {vs : List Nat} {g : DTG} {te : DTE} {ds : DSt} {Q : List D → Mem → Prop} {M : Mem} {h : α → D} (f : α → D) (l : List α)
    (s : ∀ a ∈ l, ∀ R : D → Mem → Prop, R (f a) M → g (h a) (dwipe ds vs) M fun ds2 M2 => (true = true → te ds2 M2 R) ∧ (true = false → R .non M2)) (hg : ∀ a ∈ l, ∀ R S : DSt → Mem → Prop, (∀ x y, R x y → S x y) → g (h a) (dwipe ds vs) M R → g (h a) (dwipe ds vs) M S) (q : Q (l.map f) M) : compL vs g dYes te ds Q (l.map h) [] M := by
  refine comp_f (fun _ => true) f l [] (fun a ha R h1 _ => ?_) ?_
  · refine hg a ha _ _ (fun x y z => ?_) (s a ha (fun y M' => R (some y) M') (h1 rfl))
    exact ⟨z.1, fun z => by cases z⟩
  · rw [List.filter_eq_self.mpr (fun _ _ => rfl)]
    exact q
/-- one name, no test -/
theorem comp_1 {α : Type} {i : Nat} {te : DTE} {ds : DSt} {Q : List D → Mem → Prop} {M : Mem} {h : α → D} (f : α → D) (l : List α)
    (s : ∀ a ∈ l, ∀ R : D → Mem → Prop, R (f a) M → te ((dwipe ds [i]).set i (some (h a))) M R) (q : Q (l.map f) M) : compL [i] (dgN i) dYes te ds Q (l.map h) [] M := by
  refine comp_f (fun _ => true) f l [] (fun a ha R h1 _ => ?_) ?_
  · exact ⟨fun _ => s a ha (fun y M' => R (some y) M') (h1 rfl), fun z => by cases z⟩
  · rw [List.filter_eq_self.mpr (fun _ _ => rfl)]
    exact q
/-- one name, a test -/
theorem comp_1t {α : Type} {i : Nat} {tt : DTT} {te : DTE} {ds : DSt} {Q : List D → Mem → Prop} {M : Mem} {h : α → D} (p : α → Bool) (f : α → D) (l : List α)
    (s : ∀ a ∈ l, ∀ R : Bool → Mem → Prop, R (p a) M → tt ((dwipe ds [i]).set i (some (h a))) M R) (s2 : ∀ a ∈ l, p a = true → ∀ R : D → Mem → Prop, R (f a) M → te ((dwipe ds [i]).set i (some (h a))) M R) (q : Q ((l.filter p).map f) M) : compL [i] (dgN i) tt te ds Q (l.map h) [] M := by
  refine comp_f p f l [] (fun a ha R h1 h2 => ?_) q
  exact s a ha _ ⟨fun e => s2 a ha e _ (h1 e), h2⟩
theorem upto0 (n : Nat) : upto 0 n = (List.range n).map fun j : Nat => D.int j := by
  unfold upto
  exact List.map_congr_left fun j _ => by simp
theorem enum_range (f : Nat → D) (n : Nat) : enumD ((List.range n).map f) = (List.range n).map fun j : Nat => D.tup [.int j, f j] := by
  unfold enumD
  apply List.ext_getElem
  · simp
  · intro i h1 h2
    simp
/-! ### loops over the images of a list -/
theorem forL_fold {α β J : Type} {g : DTG} {tb : DTS} {W : DEnds} {h : α → D} {M : Mem} (σ : J → β → DSt) (f : β → α → β) : ∀ (l : List α) (j : J) (b : β),
    (∀ a ∈ l, ∀ j b, ∀ V : DEnds, (∀ j', V.nx (σ j' (f b a)) M) → V.rt = W.rt → g (h a) (σ j b) M fun ds1 M1 => tb V ds1 M1) →
    (∀ j, W.nx (σ j (l.foldl f b)) M) → forL g tb W (l.map h) (σ j b) M
  | [], j, b, _, q => q j
  | a :: l, j, b, s, q => by
    refine s a List.mem_cons_self j b _ (fun j' => ?_) rfl
    exact forL_fold σ f l j' (f b a) (fun x hx => s x (List.mem_cons_of_mem _ hx)) q
end DL

set_option Elab.async false
set_option linter.all false
set_option maxRecDepth 100000
set_option maxHeartbeats 4000000
namespace DL
open PySem PySem.Spec PyProof.Rows L2
/-! ### teeth one by one -/
def isO (v : D) : Bool := match v with | .str z => ([sD [97], sD [98], sD [99], sD [100]] : List D).any fun u => dq u (.str z) | _ => false
theorem isO_s (l : List Nat) : isO (sD l) = ([97] = l || [98] = l || [99] = l || [100] = l) := by
  show (([sD [97], sD [98], sD [99], sD [100]] : List D).any fun u => dq u (sD l)) = _
  simp only [List.any_cons, List.any_nil, dq_s, Bool.or_false, Bool.or_assoc]
theorem isO_iff {v : D} : isO v = true ↔ ∃ c, c ∈ teeth ∧ v = sD [c] := by
  constructor
  · intro h
    cases v <;> try (simp [isO] at h; done)
    rename_i z
    obtain ⟨l, rfl⟩ : ∃ l, z = sN l := ⟨z.cps.toList, (sN_tl z).symm⟩
    rw [isO_s] at h
    simp only [Bool.or_eq_true, decide_eq_true_eq, or_assoc] at h
    rcases h with rfl | rfl | rfl | rfl
    · exact ⟨97, by decide, rfl⟩
    · exact ⟨98, by decide, rfl⟩
    · exact ⟨99, by decide, rfl⟩
    · exact ⟨100, by decide, rfl⟩
  · rintro ⟨c, hc, rfl⟩
    rw [isO_s]
    simp [teeth] at hc
    rcases hc with rfl | rfl | rfl | rfl <;> rfl
def sp_is_tooth : DSp := fun ds M P _ => match ds with | [v] => dkn 60 v = true ∧ P (.bl (isO v)) M | _ => False
theorem l_is_tooth (ds : List D) (M : Mem) (P : D → Mem → Prop) (PX : DX) (h : sp_is_tooth ds M P PX) : t_is_tooth cTEETH PX (dEnds P) (dst 1 ds) M := by
  unfold sp_is_tooth at h
  split at h <;> try exact h.elim
  rename_i v
  obtain ⟨hk, h⟩ := h
  have h' := Fz.here h
  have ht := dkn_top hk
  cases v with
  | str z =>
    simp only [t_is_tooth, dRet, dAndV, dApp, dCons, dNil, dVar, dC, dEnds, dst, gIsi, isiN, isiB, cTEETH, dBin, gIn]
    simp [flatD]
    simpa [isO] using h'
  | _ =>
    simp [t_is_tooth, dRet, dRetN, dSkip, dSeq, dExpr, dSet, dIf, dAsg, dPar, dgT, dgN, dgCons, dgNil, dgSub, dVar, dC, dUn, dBin, dNil, dCons, dApp, dB, dAnd, dOr, dNot, dAndV, dOrV, dNotV, dIfE, dChain, dTup, dLst, dLstH, dCall, dRaise, dFor, dIter, dRng1, dRng2, dZip, dEnum, dComp, dYes, dJoin, dSlice, dPart, dNoPart, dAppend, dSrtSet, dLenSet, dSplit, dZipE, dEnds, dstart, dst, dwipe, gI, gIC, gMod, gDiv, gSub, gPow, gNeg, gLt, gLe, gGt, gGe, gEq, gNe, gIsN, gNotN, gAdd, gMul, gIx, gLen, gIsi, gInt1, gTuple, gList, gSorted, gIn, gAll, gAny, dFrz, gMax2, gMin2, dComp2, isiN, isiB, isO, top] at ht h' ⊢
    try exact h'
def sp_need_tooth (e : Addr) : DSp := fun ds M P PX => match ds with | [v] => dkn 60 v = true ∧ ((isO v = false ∧ PX (.ref e) none M) ∨ (isO v = true ∧ P .non M)) | _ => False
theorem l_need_tooth (e : Addr) (ds : List D) (M : Mem) (P : D → Mem → Prop) (PX : DX) (h : sp_need_tooth e ds M P PX) : t_need_tooth sp_is_tooth e PX (dEnds P) (dst 1 ds) M := by
  unfold sp_need_tooth at h
  split at h <;> try exact h.elim
  obtain ⟨hk, h⟩ := h
  rcases h with ⟨e, h⟩ | ⟨e, h⟩
  · simp [t_need_tooth, dRet, dRetN, dSkip, dSeq, dExpr, dSet, dIf, dAsg, dPar, dgT, dgN, dgCons, dgNil, dgSub, dVar, dC, dUn, dBin, dNil, dCons, dApp, dB, dAnd, dOr, dNot, dAndV, dOrV, dNotV, dIfE, dChain, dTup, dLst, dLstH, dCall, dRaise, dFor, dIter, dRng1, dRng2, dZip, dEnum, dComp, dYes, dJoin, dSlice, dPart, dNoPart, dAppend, dSrtSet, dLenSet, dSplit, dZipE, dEnds, dstart, dst, dwipe, gI, gIC, gMod, gDiv, gSub, gPow, gNeg, gLt, gLe, gGt, gGe, gEq, gNe, gIsN, gNotN, gAdd, gMul, gIx, gLen, gIsi, gInt1, gTuple, gList, gSorted, gIn, gAll, gAny, dFrz, gMax2, gMin2, dComp2, sp_is_tooth, hk, e]; exact h
  · have h' := Fz.here h
    simp [t_need_tooth, dRet, dRetN, dSkip, dSeq, dExpr, dSet, dIf, dAsg, dPar, dgT, dgN, dgCons, dgNil, dgSub, dVar, dC, dUn, dBin, dNil, dCons, dApp, dB, dAnd, dOr, dNot, dAndV, dOrV, dNotV, dIfE, dChain, dTup, dLst, dLstH, dCall, dRaise, dFor, dIter, dRng1, dRng2, dZip, dEnum, dComp, dYes, dJoin, dSlice, dPart, dNoPart, dAppend, dSrtSet, dLenSet, dSplit, dZipE, dEnds, dstart, dst, dwipe, gI, gIC, gMod, gDiv, gSub, gPow, gNeg, gLt, gLe, gGt, gGe, gEq, gNe, gIsN, gNotN, gAdd, gMul, gIx, gLen, gIsi, gInt1, gTuple, gList, gSorted, gIn, gAll, gAny, dFrz, gMax2, gMin2, dComp2, sp_is_tooth, hk, e]; exact h'
/-! ### gcd, the period -/
def sp_gcd : DSp := fun ds M P _ => ∃ a b : Nat, ds = [.int a, .int b] ∧ P (.int (Nat.gcd a b)) M
theorem l_gcd (ds : List D) (M : Mem) (P : D → Mem → Prop) (PX : DX) (h : sp_gcd ds M P PX) : t_gcd PX (dEnds P) (dst 2 ds) M := by
  obtain ⟨a, b, rfl, h⟩ := h
  have h' := Fz.here h
  simp only [t_gcd, dSeq]
  refine while_rec (n := b) (fun n ds M' => ∃ x y : Nat, ds = [some (.int x), some (.int y)] ∧ n = y ∧ Nat.gcd x y = Nat.gcd a b ∧ M' = M) ⟨a, b, rfl, rfl, rfl, rfl⟩ (fun n ds M' hI V hr hb hV => ?_)
  obtain ⟨x, y, rfl, rfl, e, rfl⟩ := hI
  simp [dB, dBin, dVar, dC, gGt, gI, gIC, dPar, dCons, dNil, gMod]
  refine ⟨fun hy => ⟨hy, ?_⟩, fun hy => ?_⟩
  · exact hV (x % n) _ _ (Nat.mod_lt _ hy) ⟨n, x % n, by simp, rfl, by rw [← e, Nat.gcd_comm x n, Nat.gcd_rec n x, Nat.gcd_comm], rfl⟩
  · subst hy
    rw [Nat.gcd_zero_right] at e
    subst e
    simp [dRet, dVar, dEnds]
    exact h'
def perN (bs : List Bar) : Nat := (bs.map List.length).foldl Nat.lcm 1
def GBs (bs : List Bar) : Prop := 1 ≤ bs.length ∧ bs.length ≤ 3 ∧ ∀ b ∈ bs, GBar b
theorem GBox.bs {k : Int} {bs : List Bar} (h : GBox k bs) : GBs bs := h.2.2
theorem perN_pos {bs : List Bar} (h : GBs bs) : 0 < perN bs := lcm_fold_pos _ 1 (by decide) fun x hx => by
  obtain ⟨b, hb, rfl⟩ := List.mem_map.mp hx
  exact (h.2.2 b hb).1
theorem perN_le {bs : List Bar} (h : GBs bs) : perN bs ≤ 343 := by
  have := lcm_fold_le (bs.map List.length) 1 (by decide) fun x hx => by
    obtain ⟨b, hb, rfl⟩ := List.mem_map.mp hx
    exact ⟨(h.2.2 b hb).1, (h.2.2 b hb).2.1⟩
  rw [List.length_map, Nat.one_mul] at this
  exact Nat.le_trans this (Nat.le_trans (Nat.pow_le_pow_right (by decide) h.2.1) (by decide))
theorem perN_dvd {bs : List Bar} {b : Bar} (h : b ∈ bs) : b.length ∣ perN bs := (lcm_fold_dvd (bs.map List.length) 1).2 _ (List.mem_map_of_mem h)
def sp_period_of : DSp := fun ds M P _ => ∃ k bs, ds = [bxD k bs] ∧ GBs bs ∧ P (.int (perN bs)) M
theorem lcm_div {a b : Nat} : ((a : Int) * (b : Int)) / ((Nat.gcd a b : Nat) : Int) = (Nat.lcm a b : Nat) := by
  unfold Nat.lcm
  push_cast
  rfl
theorem per_loop {M : Mem} {W : DEnds} {tb : DTS} {k : Int} {bs0 : List Bar}
    (htb : ∀ (a : Nat) (b : Bar) (x : Option D) (V : DEnds), 0 < a → a ≤ 343 → GBar b → V.nx [some (bxD k bs0), some (.int (Nat.lcm a b.length : Nat)), some (barD b)] M → tb V [some (bxD k bs0), some (.int a), some (barD b)] M) :
    ∀ (bs : List Bar) (a : Nat) (x : Option D), 0 < a → a * 7 ^ bs.length ≤ 343 → (∀ b ∈ bs, GBar b) → (∀ x, W.nx [some (bxD k bs0), some (.int ((bs.map List.length).foldl Nat.lcm a : Nat)), x] M) →
    forL (dgN 2) tb W (bs.map barD) [some (bxD k bs0), some (.int a), x] M
  | [], a, x, _, _, _, q => q x
  | b :: bs, a, x, ha, hl, hg, q => by
    have g := hg b List.mem_cons_self
    have h1 : a ≤ 343 := Nat.le_trans (Nat.le_mul_of_pos_right a (Nat.pow_pos (by decide))) hl
    have h2 : Nat.lcm a b.length ≤ a * 7 := Nat.le_trans (Nat.le_of_dvd (Nat.mul_pos ha g.1) (Nat.lcm_dvd (Nat.dvd_mul_right a _) (Nat.dvd_mul_left _ a))) (Nat.mul_le_mul_left a g.2.1)
    refine htb a b x _ ha h1 g ?_
    refine per_loop htb bs _ _ (Nat.lcm_pos ha g.1) ?_ (fun c hc => hg c (List.mem_cons_of_mem _ hc)) q
    rw [List.length_cons, Nat.pow_succ] at hl
    calc _ ≤ a * 7 * 7 ^ bs.length := Nat.mul_le_mul_right _ h2
      _ = a * (7 ^ bs.length * 7) := by ac_rfl
      _ ≤ 343 := hl
theorem l_period_of (ds : List D) (M : Mem) (P : D → Mem → Prop) (PX : DX) (h : sp_period_of ds M P PX) : t_period_of sp_gcd PX (dEnds P) (dst 3 ds) M := by
  obtain ⟨k, bs, rfl, g, h⟩ := h
  have h' := Fz.here h
  simp [t_period_of, dSeq, dSet, dC, dFor, dIter, dBin, dVar, dst, gIx, atI, ixN]
  show (match seqD (.tup (bs.map barD)) with | some xs => _ | none => False)
  simp only [seqD]
  refine per_loop (k := k) (bs0 := bs) (fun a b x V ha h1 gb hV => ?_) bs 1 none (by decide) ?_ g.2.2 (fun x => ?_)
  · have hb := gb.2.1
    have hp : 0 < Nat.gcd a b.length := Nat.gcd_pos_of_pos_left _ ha
    have hq : Nat.gcd a b.length ≤ 7 := Nat.le_trans (Nat.le_of_dvd gb.1 (Nat.gcd_dvd_right a b.length)) hb
    simp [dSet, dBin, dVar, dApp, dCons, dNil, gLen, barD, dCall, gMul, CMul, gDiv, gIC, CDiv]
    refine ⟨by omega, a, b.length, rfl, ?_⟩
    dsimp only
    refine ⟨by omega, ?_⟩
    rw [lcm_div (a := a) (b := b.length)]
    exact hV
  · have : 7 ^ bs.length ≤ 7 ^ 3 := Nat.pow_le_pow_right (by decide) g.2.1
    omega
  · simp [dRet, dVar, dEnds]
    exact h'
/-! ### what is heard has the period -/
theorem pick_per {b : Bar} {n : Nat} (h : b.length ∣ n) (i : Int) : pick b (i + n) = pick b i := by
  unfold pick
  obtain ⟨c, rfl⟩ := h
  rw [Int.natCast_mul, Int.add_mul_emod_self_left]
theorem picks_per {n : Nat} (t : Int) : ∀ {bs : List Bar} {ss : List Int}, (∀ b ∈ bs, b.length ∣ n) → picks bs ss (t + n) = picks bs ss t
  | [], _, _ => rfl
  | _ :: _, [], _ => rfl
  | b :: bs, s :: ss, h => by
    rw [picks, picks, picks_per t fun c hc => h c (List.mem_cons_of_mem _ hc), ← Int.add_assoc, pick_per (h b List.mem_cons_self)]
theorem heard_per (bs : List Bar) (ss : List Int) (t : Int) : heard bs ss (t + perN bs) = heard bs ss t := by
  unfold heard
  rw [picks_per t fun b hb => perN_dvd hb]
theorem heard_mod (bs : List Bar) (ss : List Int) (t q : Nat) : heard bs ss ((q * perN bs + t : Nat) : Int) = heard bs ss t := by
  induction q with
  | zero => rw [Nat.zero_mul, Nat.zero_add]
  | succ q ih =>
    rw [show (((q + 1) * perN bs + t : Nat) : Int) = ((q * perN bs + t : Nat) : Int) + perN bs by rw [Nat.add_mul]; omega, heard_per, ih]
/-! ### tunes -/
def tuneL (bs : List Bar) (ss : List Int) : List (List Nat) := (List.range (perN bs)).map fun j : Nat => heard bs ss j
def tuneD (bs : List Bar) (ss : List Int) : D := .tup ((tuneL bs ss).map sD)
def sp_tune_of : DSp := fun ds M P _ => ∃ k bs ss, ds = [bxD k bs, stD ss] ∧ GBs bs ∧ GSt bs ss ∧ P (tuneD bs ss) M
theorem l_tune_of (ds : List D) (M : Mem) (P : D → Mem → Prop) (PX : DX) (h : sp_tune_of ds M P PX) : t_tune_of sp_period_of sp_chord_at PX (dEnds P) (dst 3 ds) M := by
  obtain ⟨k, bs, ss, rfl, g, gs, h⟩ := h
  have h' := Fz.here h
  have hp := perN_le g
  simp [t_tune_of, dRet, dApp, dCons, dNil, dComp, dRng1, dCall, dVar, dst, dEnds]
  refine ⟨k, bs, rfl, g, ?_⟩
  simp only [upto0]
  refine ⟨by omega, by rw [sizeLine_eq]; simp; omega, ?_⟩
  refine comp_1 (fun j : Nat => sD (heard bs ss j)) _ (fun j hj R hR => ?_) ?_
  · simp [dCall, dCons, dNil, dVar, dwipe]
    exact ⟨k, bs, ss, j, rfl, gs, by have := g.2.1; omega, g.2.2, hR⟩
  · unfold tuneD tuneL at h'
    rw [List.map_map] at h'
    exact h'
def tickL (bs : List Bar) (ss : List Int) (c n : Nat) : List Nat := (List.range n).filter fun j : Nat => decide (c ∈ heard bs ss j)
def natsD (l : List Nat) : D := .lst (l.map fun j : Nat => D.int j)
def sp_ticks_of : DSp := fun ds M P _ => ∃ k bs ss c, ds = [bxD k bs, stD ss, sD [c]] ∧ GBs bs ∧ GSt bs ss ∧ P (natsD (tickL bs ss c (perN bs))) M
theorem l_ticks_of (ds : List D) (M : Mem) (P : D → Mem → Prop) (PX : DX) (h : sp_ticks_of ds M P PX) : t_ticks_of sp_tune_of PX (dEnds P) (dst 5 ds) M := by
  obtain ⟨k, bs, ss, c, rfl, g, gs, h⟩ := h
  have h' := Fz.here h
  have hp := perN_le g
  simp [t_ticks_of, dRet, dComp, dEnum, dCall, dCons, dNil, dVar, dst, dEnds]
  refine ⟨k, bs, ss, rfl, g, gs, ?_⟩
  simp only [tuneD, tuneL, List.map_map, enum_range]
  refine ⟨by rw [sizeLine_eq]; simp; omega, ?_⟩
  refine comp_f (fun j : Nat => decide (c ∈ heard bs ss j)) (fun j => D.int j) _ [] (fun j hj R h1 h2 => ?_) ?_
  · simp [dgT, dgCons, dgNil, dgN, dB, dBin, dVar, dwipe, gIn, strIn_one]
    refine ⟨fun e => h1 (by simpa using e), fun e => h2 (by simpa using e)⟩
  · exact h'
end DL

set_option Elab.async false
set_option linter.all false
set_option maxRecDepth 100000
set_option maxHeartbeats 4000000
namespace DL
open PySem PySem.Spec PyProof.Rows L2
/-! ### the harness: the deck -/
def deckO (x y z : Int) : MO := .lst [.int x, .int y, .int z]
def DeckAt (M : Mem) (a : Addr) (n : Nat) : Prop := ∃ x y z : Int, M a = some (deckO x y z) ∧ 0 ≤ x ∧ 0 ≤ y ∧ y < 2147483579 ∧ 0 ≤ z ∧ z + n ≤ 2 ^ 38
theorem DeckAt.less {M : Mem} {a : Addr} {n m : Nat} (h : DeckAt M a n) (hm : m ≤ n) : DeckAt M a m := by
  obtain ⟨x, y, z, e, h1, h2, h3, h4, h5⟩ := h
  exact ⟨x, y, z, e, h1, h2, h3, h4, by omega⟩
theorem DeckAt.some {M : Mem} {a : Addr} {n : Nat} (h : DeckAt M a n) : M a ≠ none := by
  obtain ⟨x, y, z, e, _⟩ := h
  rw [e]; exact nofun
structure KpM (a : Addr) (M M' : Mem) : Prop where
  at_ : ∀ b, b ≠ a → M b ≠ none → M' b = M b
  tb : ∀ b T, M' b = some (.tabs T) → M b = some (.tabs T)
theorem KpM.refl {a : Addr} {M : Mem} : KpM a M M := ⟨fun _ _ _ => rfl, fun _ _ h => h⟩
theorem KpM.trans {a : Addr} {M M' M'' : Mem} (h : KpM a M M') (g : KpM a M' M'') : KpM a M M'' :=
  ⟨fun b hb n => (g.at_ b hb (by rw [h.at_ b hb n]; exact n)).trans (h.at_ b hb n), fun b T e => h.tb b T (g.tb b T e)⟩
theorem KpM.put {a : Addr} {M : Mem} {o : MO} (h : ∀ T, o ≠ .tabs T) : KpM a M (mput M a (some o)) :=
  ⟨fun b hb _ => mput_ne hb, fun b T e => by
    by_cases hb : b = a
    · subst hb; rw [mput_same] at e; exact absurd (Option.some.inj e) (h T)
    · rw [mput_ne hb] at e; exact e⟩
theorem KpM.putN {a p : Addr} {M : Mem} {o : MO} (n : M p = none) (h : ∀ T, o ≠ .tabs T) : KpM a M (mput M p (some o)) :=
  ⟨fun b hb hn => mput_ne fun e => hn (e ▸ n), fun b T e => by
    by_cases hb : b = p
    · subst hb; rw [mput_same] at e; exact absurd (Option.some.inj e) (h T)
    · rw [mput_ne hb] at e; exact e⟩
def sp_law_deck : DSp := fun ds M P _ => ∃ c t : Int, ds = [.int c, .int t] ∧ 0 ≤ t ∧ t ≤ 1000 ∧ ∀ p M', M p = none → KpM p M M' → DeckAt M' p (2 ^ 37) → P (.ref p) M'
theorem deck_new {M : Mem} {p : Addr} {x y t : Int} (hx : 0 ≤ x) (hy : 0 ≤ y) (hy2 : y < 2147483579) (ht : 0 ≤ t) (ht2 : t ≤ 1000) : DeckAt (mput M p (some (deckO x y t))) p (2 ^ 37) :=
  ⟨x, y, t, mput_same, hx, hy, hy2, ht, by have : ((2 ^ 37 : Nat) : Int) = 137438953472 := by decide
                                           rw [this]; omega⟩
theorem l_law_deck (ds : List D) (M : Mem) (P : D → Mem → Prop) (PX : DX) (h : sp_law_deck ds M P PX) : t_law_deck PX (dEnds P) (dstart ["_law_cell", "_law_turn"] ds) M := by
  obtain ⟨c, t, rfl, h0, h1, h⟩ := h
  simp [t_law_deck, dRet, dRetN, dSkip, dSeq, dExpr, dSet, dIf, dAsg, dPar, dgT, dgN, dgCons, dgNil, dgSub, dVar, dC, dUn, dBin, dNil, dCons, dApp, dB, dAnd, dOr, dNot, dAndV, dOrV, dNotV, dIfE, dChain, dTup, dLst, dLstH, dCall, dRaise, dFor, dIter, dRng1, dRng2, dZip, dEnum, dComp, dYes, dJoin, dSlice, dPart, dNoPart, dAppend, dSrtSet, dLenSet, dSplit, dZipE, dEnds, dstart, dst, dwipe, gI, gIC, gMod, gDiv, gSub, gPow, gNeg, gLt, gLe, gGt, gGe, gEq, gNe, gIsN, gNotN, gAdd, gMul, gIx, gLen, gIsi, gInt1, gTuple, gList, gSorted, gIn, gAll, gAny, dFrz, gMax2, gMin2, dComp2, CPow]
  refine ⟨fun hc => ⟨by rw [sizeLine_eq]; omega, fun p hp => ?_⟩, fun hc => ⟨by rw [sizeLine_eq]; omega, fun p hp => ?_⟩⟩
  · exact Fz.here (h p _ hp (KpM.put nofun) (deck_new (by omega) (by omega) (by omega) h0 h1))
  · exact Fz.here (h p _ hp (KpM.put nofun) (deck_new (by omega) (by omega) (by omega) h0 h1))
def sp_law_pick : DSp := fun ds M P _ => ∃ (a : Addr) (size : Int) (n : Nat), ds = [.ref a, .int size] ∧ 0 < size ∧ size < 1073741824 ∧ DeckAt M a (n + 1) ∧ ∀ r M', 0 ≤ r → r < size → KpM a M M' → DeckAt M' a n → P (.int r) M'
theorem l_law_pick (ds : List D) (M : Mem) (P : D → Mem → Prop) (PX : DX) (h : sp_law_pick ds M P PX) : t_law_pick PX (dEnds P) (dstart ["_law_deck_here", "_law_size", "_law_found", "_law_number"] ds) M := by
  obtain ⟨a, size, n, rfl, s0, s1, ⟨x, y, z, e, hx, hy, hy2, hz, hn⟩, h⟩ := h
  have p38 : (2 : Int) ^ 38 = 274877906944 := by decide
  rw [p38] at hn
  simp [t_law_pick, dRet, dRetN, dSkip, dSeq, dExpr, dSet, dIf, dAsg, dPar, dgT, dgN, dgCons, dgNil, dgSub, dVar, dC, dUn, dBin, dNil, dCons, dApp, dB, dAnd, dOr, dNot, dAndV, dOrV, dNotV, dIfE, dChain, dTup, dLst, dLstH, dCall, dRaise, dFor, dIter, dRng1, dRng2, dZip, dEnum, dComp, dYes, dJoin, dSlice, dPart, dNoPart, dAppend, dSrtSet, dLenSet, dSplit, dZipE, dEnds, dstart, dst, dwipe, gI, gIC, gMod, gDiv, gSub, gPow, gNeg, gLt, gLe, gGt, gGe, gEq, gNe, gIsN, gNotN, gAdd, gMul, gIx, gLen, gIsi, gInt1, gTuple, gList, gSorted, gIn, gAll, gAny, dFrz, gMax2, gMin2, dComp2, e, deckO, atI, ixN, CPow, CDiv, CMul, setD, mput_same]
  refine ⟨fun h1 => ⟨s0, ⟨s0, s1⟩, ?_⟩, fun h1 => ⟨by omega, ?_, s0, ?_⟩⟩
  · refine Fz.here (h _ _ (Int.emod_nonneg _ (by omega)) (Int.emod_lt_of_pos _ s0) (KpM.put nofun) ⟨x / size, y, z, mput_same, ?_, hy, hy2, hz, by rw [p38]; omega⟩)
    exact Int.ediv_nonneg hx (by omega)
  · have k1 : 0 ≤ (y + 15485867 * (z + 1)) ^ 5 % 2147483647 := Int.emod_nonneg _ (by decide)
    have k2 : (y + 15485867 * (z + 1)) ^ 5 % 2147483647 < 2147483647 := Int.emod_lt_of_pos _ (by decide)
    generalize (y + 15485867 * (z + 1)) ^ 5 % 2147483647 = u at k1 k2 ⊢
    omega
  · exact Fz.here (h _ _ (Int.emod_nonneg _ (by omega)) (Int.emod_lt_of_pos _ s0) (KpM.put nofun) ⟨x, y, z + 1, mput_same, hx, hy, hy2, by omega, by rw [p38]; omega⟩)
def sp_law_one : DSp := fun ds M P _ => ∃ (a : Addr) (xs : List D) (n : Nat), ds = [.ref a, .lst xs] ∧ 0 < xs.length ∧ xs.length < 1000000 ∧ DeckAt M a (n + 1) ∧ ∀ x M', x ∈ xs → KpM a M M' → DeckAt M' a n → P x M'
theorem atI_mem {xs : List D} {r : Int} (h0 : 0 ≤ r) (h1 : r < xs.length) : ∃ x ∈ xs, atI xs r = some x := by
  have h3 : r.toNat < xs.length := by omega
  refine ⟨xs[r.toNat], List.getElem_mem _, ?_⟩
  unfold atI ixN
  rw [if_pos h0, if_pos h1]
  show xs[_]? = _
  rw [List.getElem?_eq_getElem h3]
theorem l_law_one (ds : List D) (M : Mem) (P : D → Mem → Prop) (PX : DX) (h : sp_law_one ds M P PX) : t_law_one sp_law_pick PX (dEnds P) (dstart ["_law_deck_here", "_law_some"] ds) M := by
  obtain ⟨a, xs, n, rfl, s0, s1, hd, h⟩ := h
  simp [t_law_one, dRet, dBin, dCall, dCons, dNil, dVar, dApp, gLen, dEnds, dstart]
  refine ⟨a, xs.length, n, rfl, by omega, by omega, hd, fun r M' r0 r1 kp hd' => ?_⟩
  obtain ⟨x, hx, e⟩ := atI_mem r0 r1
  simp only [gIx, e]
  exact Fz.here (h x M' hx kp hd')
/-! ### texts -/
theorem teeth_lt : (teeth.map fun c => sN [c]).Pairwise leT := by
  unfold teeth leT
  decide +kernel
theorem set_canon {l : List Nat} {xs : List Str} (hl : ∀ c ∈ l, c ∈ teeth) (hx : ∀ y, y ∈ xs ↔ ∃ c ∈ l, y = sN [c]) : srtT (setT xs) = (canon l).map fun c => sN [c] := by
  have sub : ((canon l).map fun c => sN [c]).Sublist (teeth.map fun c => sN [c]) := (List.filter_sublist).map _
  have srt : ((canon l).map fun c => sN [c]).Pairwise leT := teeth_lt.sublist sub
  have nd : ((canon l).map fun c => sN [c]).Nodup := List.Nodup.sublist sub (by decide +kernel)
  have pm : (setT xs).Perm ((canon l).map fun c => sN [c]) := by
    refine (List.perm_ext_iff_of_nodup (nodup_setT xs) nd).mpr fun y => ?_
    rw [mem_setT, hx, List.mem_map]
    constructor
    · rintro ⟨c, hc, rfl⟩
      exact ⟨c, List.mem_filter.mpr ⟨hl c hc, by simpa using hc⟩, rfl⟩
    · rintro ⟨c, hc, rfl⟩
      exact ⟨c, by simpa using (List.mem_filter.mp hc).2, rfl⟩
  exact List.Perm.eq_of_pairwise (le := leT) (fun _ _ _ _ a b => leT_anti a b) (srtT_sorted _) srt ((srtT_perm _).trans pm)
end DL

set_option Elab.async false
set_option linter.all false
set_option maxRecDepth 100000
set_option maxHeartbeats 4000000
namespace DL
open PySem PySem.Spec PyProof.Rows L2
/-- a list that is made while the store changes: Inv of what is left -/
theorem compL_dec {vs : List Nat} {g : DTG} {tt : DTT} {te : DTE} {ds : DSt} {Q : List D → Mem → Prop} (Inv : Nat → List D → Mem → Prop) : ∀ (xs acc : List D) (M : Mem),
    (∀ x ∈ xs, ∀ (k : Nat) (acc : List D) (M : Mem), Inv (k + 1) acc M → ∀ R : Option D → Mem → Prop, (∀ y M', Inv k (acc ++ [y]) M' → R (some y) M') → g x (dwipe ds vs) M fun ds2 M2 => tt ds2 M2 fun b M3 => (b = true → te ds2 M3 fun y M4 => R (some y) M4) ∧ (b = false → R none M3)) →
    Inv xs.length acc M → (∀ ys M', Inv 0 ys M' → Q ys M') → compL vs g tt te ds Q xs acc M
  | [], acc, M, _, i, q => q acc M i
  | x :: r, acc, M, h, i, q => by
    refine h x List.mem_cons_self r.length acc M i (fun o M' => match o with | some y => compL vs g tt te ds Q r (acc ++ [y]) M' | none => compL vs g tt te ds Q r acc M') fun y M' i' => ?_
    exact compL_dec Inv r (acc ++ [y]) M' (fun y hy => h y (List.mem_cons_of_mem _ hy)) i' q
theorem forL_dec {g : DTG} {tb : DTS} {W : DEnds} (Inv : Nat → DSt → Mem → Prop) : ∀ (xs : List D) (ds : DSt) (M : Mem),
    (∀ x ∈ xs, ∀ k ds M, Inv (k + 1) ds M → ∀ Nx : DSt → Mem → Prop, (∀ ds M, Inv k ds M → Nx ds M) → g x ds M fun ds1 M1 => tb { nx := Nx, rt := W.rt, bk := W.nx, ct := Nx } ds1 M1) →
    Inv xs.length ds M → (∀ ds M, Inv 0 ds M → W.nx ds M) → forL g tb W xs ds M
  | [], ds, M, _, i, q => q ds M i
  | x :: r, ds, M, h, i, q => by
    refine h x List.mem_cons_self r.length ds M i _ fun ds2 M2 i2 => ?_
    exact forL_dec Inv r ds2 M2 (fun y hy => h y (List.mem_cons_of_mem _ hy)) i2 q
theorem canon_idem (l : List Nat) : canon (canon l) = canon l := by
  unfold canon
  refine List.filter_congr fun c hc => ?_
  simp [hc]
theorem canon_teeth {l : List Nat} (h : canon l = l) : ∀ c ∈ l, c ∈ teeth := fun c hc => by
  rw [← h] at hc
  exact (List.mem_filter.mp hc).1
theorem strsOf_str (l : List Str) : strsOf (l.map D.str) = some l := by
  have := strsOf_sD (l.map fun z => z.cps.toList)
  simp only [List.map_map, Function.comp_def, sN_tl, List.map_id'] at this
  exact this
theorem join_canon {l : List Nat} {xs : List Str} {P : Str → Prop} (hl : ∀ c ∈ l, c ∈ teeth) (hx : ∀ y, y ∈ xs ↔ ∃ c ∈ l, y = sN [c]) (h : P (sN (canon l))) : joinD (sN []) ((srtT (setT xs)).map D.str) P := by
  rw [set_canon hl hx, List.map_map]
  exact join_chars (Nat.le_trans (canon_len l) (by decide)) h
def sp_law_some_teeth : DSp := fun ds M P _ => ∃ (a : Addr) (n : Nat), ds = [.ref a] ∧ DeckAt M a (n + 10) ∧ ∀ l M', canon l = l → KpM a M M' → DeckAt M' a n → P (sD l) M'
theorem l_law_some_teeth (ds : List D) (M : Mem) (P : D → Mem → Prop) (PX : DX) (h : sp_law_some_teeth ds M P PX) : t_law_some_teeth sp_law_one PX (dEnds P) (dstart ["_law_deck_here", "_law_size", "_law_turn"] ds) M := by
  obtain ⟨a, n, rfl, hd, h⟩ := h
  simp [t_law_some_teeth, dSeq, dSet, dCall, dCons, dNil, dVar, dC, dLst, dEnds, dstart]
  refine ⟨by rw [sizeLine_eq]; omega, a, _, n + 9, rfl, by simp, by simp, hd, fun x M1 hx kp hd1 => ?_⟩
  obtain ⟨N, rfl, hN⟩ : ∃ N : Nat, x = .int N ∧ N ≤ 3 := by
    simp at hx
    rcases hx with rfl | rfl | rfl | rfl
    · exact ⟨0, rfl, by omega⟩
    · exact ⟨1, rfl, by omega⟩
    · exact ⟨2, rfl, by omega⟩
    · exact ⟨3, rfl, by omega⟩
  simp [dRet, dJoin, dC, dSrtSet, dComp, dRng1, dCons, dNil, dVar]
  refine ⟨by omega, by rw [sizeLine_eq]; simp [upto]; omega, ?_⟩
  refine compL_dec (fun k acc M' => ∃ l : List Nat, acc = (l.map fun c => D.str (sN [c])) ∧ l.length + k = N ∧ (∀ c ∈ l, c ∈ teeth) ∧ KpM a M M' ∧ DeckAt M' a (n + k)) _ [] M1 (fun x hx k acc M2 hI R hR => ?_) ?_ ?_
  · obtain ⟨l, rfl, hl, ht, kp2, hd2⟩ := hI
    simp [dgN, dYes, dCall, dCons, dNil, dVar, dC, dLst, dwipe]
    refine ⟨by rw [sizeLine_eq]; omega, a, _, n + k, rfl, by simp, by simp, hd2, fun y M3 hy kp3 hd3 => ?_⟩
    obtain ⟨c, rfl, hc⟩ : ∃ c, y = .str (sN [c]) ∧ c ∈ teeth := by
      simp at hy
      rcases hy with rfl | rfl | rfl | rfl
      · exact ⟨97, rfl, by decide⟩
      · exact ⟨98, rfl, by decide⟩
      · exact ⟨99, rfl, by decide⟩
      · exact ⟨100, rfl, by decide⟩
    refine hR _ M3 ⟨l ++ [c], by simp, by simp; omega, fun d hd => ?_, kp2.trans kp3, hd3⟩
    rcases List.mem_append.mp hd with hd | hd
    · exact ht d hd
    · rw [List.mem_singleton.mp hd]; exact hc
  · refine ⟨[], rfl, by simp [upto], (fun _ h => by cases h), kp, hd1.less (by simp [upto]; omega)⟩
  · rintro ys M2 ⟨l, rfl, hl, ht, kp2, hd2⟩
    have e : txts (.lst (l.map fun c => D.str (sN [c]))) = some (l.map fun c => sN [c]) := by
      have := strsOf_str (l.map fun c => sN [c])
      rw [List.map_map] at this
      exact this
    simp only [e]
    refine ⟨by simp [scanBound]; omega, ?_⟩
    refine join_canon (l := l) ht (fun y => ?_) (Fz.here (h (canon l) M2 (canon_idem l) kp2 (hd2.less (by omega))))
    simp [eq_comm]
end DL

set_option Elab.async false
set_option linter.all false
set_option maxRecDepth 100000
set_option maxHeartbeats 4000000
namespace DL
open PySem PySem.Spec PyProof.Rows L2
theorem KpM.putQ {a q : Addr} {M M' : Mem} {o : MO} (n : M q = none) (h : ∀ T, o ≠ .tabs T) (k : KpM a M M') : KpM a M (mput M' q (some o)) :=
  ⟨fun b hb hn => by
    have e : b ≠ q := fun e => hn (e ▸ n)
    rw [mput_ne e]; exact k.at_ b hb hn, fun b T e => by
    by_cases hb : b = q
    · subst hb; rw [mput_same] at e; exact absurd (Option.some.inj e) (h T)
    · rw [mput_ne hb] at e; exact k.tb b T e⟩
theorem DeckAt.put {M : Mem} {a q : Addr} {n : Nat} {o : Option MO} (h : DeckAt M a n) (hq : q ≠ a) : DeckAt (mput M q o) a n := by
  obtain ⟨x, y, z, e, r⟩ := h
  exact ⟨x, y, z, by rw [mput_ne (Ne.symm hq)]; exact e, r⟩
theorem cut_to {b : List D} {m : Int} (h1 : 1 ≤ m) (hb : b ≠ []) : ∃ k, cutD b none (some m) = b.take k ∧ 1 ≤ k ∧ (k : Int) ≤ m := by
  have e : cutD b none (some m) = b.take (min m.toNat b.length) := by
    have z : HT.sIx b.length b.length (some m) = min m.toNat b.length := by
      show (if m < 0 then _ else _) = _
      rw [if_neg (by omega)]
    unfold cutD
    rw [z]
    show List.take (_ - 0) (List.drop 0 b) = _
    simp
  have hl : 1 ≤ b.length := by
    cases b with
    | nil => exact absurd rfl hb
    | cons => simp
  exact ⟨_, e, by omega, by omega⟩
def sp_law_a_box : DSp := fun ds M P _ => ∃ (a : Addr) (most : Int) (n : Nat), ds = [.ref a, .int most] ∧ 1 ≤ most ∧ most ≤ 7 ∧ DeckAt M a (n + 300) ∧ ∀ k bs M', GBox k bs → (∀ b ∈ bs, (b.length : Int) ≤ most) → KpM a M M' → DeckAt M' a n → P (bxD k bs) M'
theorem l_law_a_box (ds : List D) (M : Mem) (P : D → Mem → Prop) (PX : DX) (h : sp_law_a_box ds M P PX) : t_law_a_box sp_law_pick sp_law_some_teeth sp_law_one PX (dEnds P) (dstart ["_law_deck_here", "_law_most", "_law_barrels_so", "_law_turn", "_law_barrel_so", "_law_tick_so"] ds) M := by
  obtain ⟨a, most, n, rfl, m0, m1, hd, h⟩ := h
  simp [t_law_a_box, dSeq, dSet, dLstH, dNil, dEnds, dstart]
  intro q nq
  have qa : q ≠ a := fun e => hd.some (e ▸ nq)
  simp [dFor, dRng1, dCons, dNil, dBin, dCall, dVar, dC, gAdd]
  refine ⟨a, 3, n + 298, rfl, by decide, by decide, (hd.put qa).less (by omega), fun r M1 r0 r1 kp1 hd1 => ?_⟩
  have kq : KpM a M (mput M q (some (.lst []))) := .putQ nq nofun .refl
  have eq1 : M1 q = some (.lst []) := by rw [kp1.at_ q qa (by rw [mput_same]; exact nofun), mput_same]
  refine ⟨by omega, ?_⟩
  obtain ⟨N, hN⟩ : ∃ N : Nat, (1 + r).toNat = N := ⟨_, rfl⟩
  rw [hN]
  refine forL_dec (fun k ds M' => ∃ (x3 x4 x5 : Option D) (bs : List Bar), ds = [some (.ref a), some (.int most), some (.ref q), x3, x4, x5] ∧ M' q = some (.lst (bs.map barD)) ∧ bs.length + k = N ∧ (∀ b ∈ bs, GBar b ∧ (b.length : Int) ≤ most) ∧ KpM a M M' ∧ DeckAt M' a (n + 10 + 90 * k)) _ _ M1 (fun x hx k ds M2 hI Nx hNx => ?_) ?_ ?_
  · obtain ⟨x3, x4, x5, bs, rfl, hq2, hl, hb, kp2, hd2⟩ := hI
    simp [dgN, dSeq, dSet, dApp, dCons, dNil, dComp, dRng1, dBin, dCall, dVar, dC, gAdd]
    refine ⟨a, most, n + 10 + 90 * k + 89, rfl, by omega, by omega, hd2.less (by omega), fun r2 M3 r20 r21 kp3 hd3 => ?_⟩
    refine ⟨by omega, by rw [sizeLine_eq]; simp [upto]; omega, ?_⟩
    obtain ⟨L, hL⟩ : ∃ L : Nat, (1 + r2).toNat = L := ⟨_, rfl⟩
    rw [hL]
    refine compL_dec (fun j acc M' => ∃ b : Bar, acc = b.map sD ∧ b.length + j = L ∧ (∀ i ∈ b, canon i = i) ∧ KpM a M3 M' ∧ DeckAt M' a (n + 10 + 90 * k + 10 + 10 * j)) _ [] M3 (fun y hy j acc M4 hI R hR => ?_) ?_ ?_
    · obtain ⟨b, rfl, hbl, hbc, kp4, hd4⟩ := hI
      simp [dgN, dYes, dCall, dCons, dNil, dVar, dwipe]
      refine ⟨a, n + 10 + 90 * k + 10 + 10 * j, rfl, hd4.less (by omega), fun l M5 hl5 kp5 hd5 => ?_⟩
      refine hR _ M5 ⟨b ++ [l], by simp, by simp; omega, fun i hi => ?_, kp4.trans kp5, hd5⟩
      rcases List.mem_append.mp hi with hi | hi
      · exact hbc i hi
      · rw [List.mem_singleton.mp hi]; exact hl5
    · exact ⟨[], rfl, by simp [upto], (fun _ h => by cases h), .refl, hd3.less (by simp [upto]; omega)⟩
    · rintro ys M4 ⟨b, rfl, hbl, hbc, kp4, hd4⟩
      have kp24 := kp3.trans kp4
      have eq4 : M4 q = some (.lst (bs.map barD)) := by rw [kp24.at_ q qa (by rw [hq2]; exact nofun), hq2]
      have hb1 : 1 ≤ b.length := by omega
      have hb7 : (b.length : Int) ≤ most := by omega
      have key : ∀ (b' : Bar) (M5 : Mem), 1 ≤ b'.length → (b'.length : Int) ≤ most → (∀ i ∈ b', canon i = i) → KpM a M4 M5 → DeckAt M5 a (n + 10 + 90 * k) → ∀ x3' x5' (W : DEnds), W.nx = Nx → dExpr (dAppend (dVar 2) (dVar 4)) W [some (.ref a), some (.int most), some (.ref q), x3', some (barD b'), x5'] M5 := by
        intro b' M5 g1 g2 g3 kp5 hd5 x3' x5' W hW
        have eq5 : M5 q = some (.lst (bs.map barD)) := by rw [kp5.at_ q qa (by rw [eq4]; exact nofun), eq4]
        simp [dExpr, dAppend, dVar, eq5]
        rw [hW]
        refine ⟨by rw [sizeLine_eq]; omega, hNx _ _ ⟨_, _, _, bs ++ [b'], rfl, by simp [mput_same], by simp; omega, fun c hc => ?_, .putQ nq nofun (kp2.trans (kp24.trans kp5)), hd5.put qa⟩⟩
        rcases List.mem_append.mp hc with hc | hc
        · exact hb c hc
        · rw [List.mem_singleton.mp hc]; exact ⟨⟨g1, by omega, g3⟩, g2⟩
      simp [gTuple, dIf, dAnd, dB, dBin, dCall, dCons, dNil, dVar, dC, dApp, gLen, gLt, gEq, dSkip, dSet, dSlice, dNoPart, dPart, gAdd]
      refine ⟨a, 6, n + 10 + 90 * k, rfl, by decide, by decide, hd4.less (by omega), fun r5 M5 r50 r51 kp5 hd5 => ?_⟩
      refine ⟨⟨rfl, rfl⟩, fun _ => ?_, fun _ => key b M5 hb1 hb7 hbc kp5 hd5 _ _ _ rfl⟩
      simp only [gI]
      refine ⟨fun _ => ⟨by rw [sizeLine_eq]; omega, ?_⟩, fun _ => key b M5 hb1 hb7 hbc kp5 hd5 _ _ _ rfl⟩
      obtain ⟨c, e, c1, c2⟩ := cut_to (b := (b ++ b).map sD) m0 (by
        intro z
        have := congrArg List.length z
        simp at this
        simp [this] at hb1)
      rw [← List.map_append, e, ← List.map_take]
      refine key ((b ++ b).take c) M5 ?_ ?_ (fun i hi => ?_) kp5 hd5 _ _ _ rfl
      · simp; omega
      · simp; omega
      · rcases List.mem_append.mp (List.mem_of_mem_take hi) with hi | hi
        · exact hbc i hi
        · exact hbc i hi
  · refine ⟨none, none, none, [], rfl, eq1, by simp [upto], (fun _ h => by cases h), kq.trans kp1, hd1.less (by simp [upto]; omega)⟩
  · rintro ds M2 ⟨x3, x4, x5, bs, rfl, hq2, hl, hb, kp2, hd2⟩
    simp [dRet, dTup, dCall, dCons, dNil, dVar, dC, dLst, dApp, gTuple]
    refine ⟨by rw [sizeLine_eq]; omega, a, _, n, rfl, by simp, by simp, hd2.less (by omega), fun y M3 hy kp3 hd3 => ?_⟩
    have eq3 : M3 q = some (.lst (bs.map barD)) := by rw [kp3.at_ q qa (by rw [hq2]; exact nofun), hq2]
    simp only [eq3]
    obtain ⟨k, rfl, k0, k1⟩ : ∃ k, y = .int k ∧ 0 ≤ k ∧ k ≤ 3 := by
      simp at hy
      rcases hy with rfl | rfl | rfl | rfl
      · exact ⟨0, rfl, by decide⟩
      · exact ⟨1, rfl, by decide⟩
      · exact ⟨2, rfl, by decide⟩
      · exact ⟨3, rfl, by decide⟩
    refine ⟨by rw [sizeLine_eq]; simp, Fz.here (h k bs M3 ⟨k0, k1, by omega, by omega, fun b hb' => (hb b hb').1⟩ (fun b hb' => (hb b hb').2) (kp2.trans kp3) hd3)⟩
/-! starts, plucks -/
def sp_law_a_start : DSp := fun ds M P _ => ∃ (a : Addr) (k : Int) (bs : List Bar) (n : Nat), ds = [.ref a, bxD k bs] ∧ (∀ b ∈ bs, GBar b) ∧ bs.length ≤ 3 ∧ DeckAt M a (n + 3) ∧ ∀ ss M', GSt bs ss → KpM a M M' → DeckAt M' a n → P (stD ss) M'
theorem start_comp {a : Addr} {k : Int} {bs0 : List Bar} {n : Nat} {Q : List D → Mem → Prop} {te : DTE} (hte : ∀ (b : Bar) M P, te [some (.ref a), some (bxD k bs0), some (barD b)] M P = sp_law_pick [.ref a, .int b.length] M P DX0) : ∀ (bs : List Bar) (acc : List D) (M : Mem), (∀ b ∈ bs, GBar b) → DeckAt M a (n + bs.length) → (∀ ss M', GSt bs ss → KpM a M M' → DeckAt M' a n → Q (acc ++ ss.map D.int) M') →
    compL [2] (dgN 2) dYes te [some (.ref a), some (bxD k bs0), none] Q (bs.map barD) acc M
  | [], acc, M, _, hd, q => by
    have := q [] M trivial .refl hd
    rw [List.map_nil, List.append_nil] at this
    exact this
  | b :: bs, acc, M, hb, hd, q => by
    have g := hb b List.mem_cons_self
    show (true = true → te ((dwipe [some (D.ref a), some (bxD k bs0), none] [2]).set 2 (some (barD b))) M _) ∧ (true = false → _)
    refine ⟨fun _ => ?_, fun z => by cases z⟩
    show te [some (.ref a), some (bxD k bs0), some (barD b)] M _
    rw [hte]
    refine ⟨a, b.length, n + bs.length, rfl, by have := g.1; omega, by have := g.2.1; omega, hd, fun r M' r0 r1 kp hd' => ?_⟩
    refine start_comp hte bs _ M' (fun c hc => hb c (List.mem_cons_of_mem _ hc)) hd' fun ss M2 hs kp2 hd2 => ?_
    have := q (r :: ss) M2 ⟨⟨r0, by omega⟩, hs⟩ (kp.trans kp2) hd2
    rw [List.append_assoc]
    exact this
theorem l_law_a_start (ds : List D) (M : Mem) (P : D → Mem → Prop) (PX : DX) (h : sp_law_a_start ds M P PX) : t_law_a_start sp_law_pick PX (dEnds P) (dstart ["_law_deck_here", "_law_box_so", "_law_barrel_so"] ds) M := by
  obtain ⟨a, k, bs, n, rfl, hb, hz, hd, h⟩ := h
  simp [t_law_a_start, dRet, dApp, dCons, dNil, dComp, dIter, dBin, dVar, dC, gIx, atI, ixN, bxD, seqD, dEnds, dstart]
  refine ⟨by rw [sizeLine_eq]; omega, ?_⟩
  refine start_comp (n := n) (fun b M P => ?_) bs [] M hb (hd.less (by omega)) fun ss M' hs kp hd' => ?_
  · simp [dCall, dCons, dNil, dVar, dApp, gLen, barD]
  · exact Fz.here (h ss M' hs kp hd')
def sp_law_plucks : DSp := fun ds M P _ => ∃ (k : Int) (bs : List Bar) (ss : List Int) (t : Int), ds = [bxD k bs, stD ss, .int t] ∧ (∀ b ∈ bs, GBar b) ∧ bs.length ≤ 3 ∧ GSt bs ss ∧ P (.lst ((srtT ((picks bs ss t).flatten.map fun c => sN [c])).map D.str)) M
theorem GSt.at {t : Int} : ∀ {bs : List Bar} {ss : List Int} {i : Nat}, GSt bs ss → i < bs.length → ∃ b s, bs[i]? = some b ∧ ss[i]? = some s ∧ b ∈ bs ∧ 1 ≤ b.length ∧ (picks bs ss t).take (i + 1) = (picks bs ss t).take i ++ [pick b (s + t)]
  | b :: bs, s :: ss, 0, h, _ => ⟨b, s, rfl, rfl, List.mem_cons_self, by have := h.1; omega, rfl⟩
  | b :: bs, s :: ss, i + 1, h, hi => by
    obtain ⟨b', s', e1, e2, e3, e4, e5⟩ := GSt.at (t := t) (i := i) h.2 (by simpa using hi)
    exact ⟨b', s', e1, e2, List.mem_cons_of_mem _ e3, e4, by show pick b (s + t) :: (picks bs ss t).take (i + 1) = _; rw [e5]; rfl⟩
theorem atI_nat {α : Type} {xs : List α} {i : Nat} {x : α} (h : xs[i]? = some x) : atI xs (i : Int) = some x := by
  have hi : i < xs.length := by
    rw [List.getElem?_eq_some_iff] at h
    exact h.1
  unfold atI ixN
  rw [if_pos (by omega), if_pos (by omega)]
  show xs[_]? = _
  rw [Int.toNat_natCast]
  exact h
theorem pick_ok {b : Bar} {i : Int} (g : GBar b) : canon (pick b i) = pick b i := by
  have h1 : 0 ≤ i % (b.length : Int) := Int.emod_nonneg _ (by have := g.1; omega)
  have h2 : i % (b.length : Int) < b.length := Int.emod_lt_of_pos _ (by have := g.1; omega)
  refine g.2.2 _ ?_
  unfold pick
  rw [List.getD_eq_getElem?_getD, List.getElem?_eq_getElem (show (i % (b.length : Int)).toNat < b.length by omega)]
  exact List.getElem_mem _
theorem upto_at {n i : Nat} {x : D} (h : (upto 0 n)[i]? = some x) : x = .int i ∧ i < n := by
  have hi : i < n := by
    have := (List.getElem?_eq_some_iff.mp h).1
    simpa [upto] using this
  refine ⟨?_, hi⟩
  unfold upto at h
  rw [List.getElem?_map, List.getElem?_range hi] at h
  have := Option.some.inj h
  rw [← this]
  simp
theorem l_law_plucks (ds : List D) (M : Mem) (P : D → Mem → Prop) (PX : DX) (h : sp_law_plucks ds M P PX) : t_law_plucks PX (dEnds P) (dstart ["_law_box_so", "_law_start_so", "_law_tick_so", "_law_found", "_law_at", "_law_barrel_so"] ds) M := by
  obtain ⟨k, bs, ss, t, rfl, hb, hz, hg, h⟩ := h
  have hl := hg.len
  simp [t_law_plucks, dSeq, dSet, dFor, dLst, dNil, dRng1, dCons, dApp, dVar, gLen, stD, dEnds, dstart]
  refine ⟨by omega, ?_⟩
  refine forL_inv (fun i ds M' => ∃ (x4 x5 : Option D), ds = [some (bxD k bs), some (stD ss), some (.int t), some (.lst (((picks bs ss t).take i).flatten.map fun c => sD [c])), x4, x5] ∧ ((picks bs ss t).take i).flatten.length ≤ 4 * i ∧ M' = M) _ 0 _ M (fun i x hx ds M' hI Nx hNx => ?_) ⟨none, none, rfl, by simp, rfl⟩ ?_
  · obtain ⟨x4, x5, rfl, hlen, rfl⟩ := hI
    obtain ⟨ex, hi⟩ := upto_at hx
    rw [hl] at hi
    obtain ⟨b, s, e1, e2, e3, e4, e5⟩ := GSt.at (t := t) hg hi
    subst ex
    have a1 : atI (bs.map barD) (i : Int) = some (barD b) := atI_nat (by rw [List.getElem?_map, e1]; rfl)
    have a2 : atI (ss.map D.int) (i : Int) = some (.int s) := atI_nat (by rw [List.getElem?_map, e2]; rfl)
    have c1 : (pick b (s + t)).length ≤ 4 := canon_le _ (pick_ok (hb b e3))
    have a3 := atI_pick (b := b) (i := s + t) e4
    simp only [Nat.zero_add] at hlen hNx ⊢
    simp [dgN, dSeq, dSet, dBin, dApp, dCons, dNil, dVar, dC, gIx, ixN, bxD, stD, gInt1, gAdd, gMod, gIC, gLen, gList, -List.map_flatten, -List.length_flatten]
    simp [show ∀ y : D, atI [D.int k, y] 1 = some y from fun _ => rfl, a1, a2, barD]
    refine ⟨by omega, ?_⟩
    rw [a3]
    have hs := hlen
    simp at hs
    simp only [List.length_append, List.length_map, signs, List.size_toArray]
    refine ⟨by rw [sizeLine_eq]; omega, by rw [sizeLine_eq]; omega, ?_⟩
    refine hNx _ _ ⟨some (.int i), some (.tup (b.map sD)), ?_, ?_, rfl⟩
    · rw [e5, List.flatten_append, List.map_append]
      simp [bxD, stD, barD]
    · rw [e5, List.flatten_append, List.length_append]
      simp at hlen ⊢
      omega
  · rintro ds M' ⟨x4, x5, rfl, hlen, rfl⟩
    have eu : (upto 0 ss.length).length = (picks bs ss t).length := by rw [picks_len t hg]; simp [upto, hl]
    rw [Nat.zero_add, eu, List.take_length] at hlen ⊢
    rw [picks_len t hg] at hlen
    simp [dRet, dApp, dCons, dNil, dVar, gSorted, -List.map_flatten]
    have e := strsOf_str ((picks bs ss t).flatten.map fun c => sN [c])
    rw [List.map_map] at e
    have e' : strsOf ((picks bs ss t).flatten.map fun c => sD [c]) = some ((picks bs ss t).flatten.map fun c => sN [c]) := e
    rw [e']
    exact ⟨by rw [sizeLine_eq, List.length_map]; omega, Fz.here h⟩
def sp_law_heard : DSp := fun ds M P _ => ∃ (k : Int) (bs : List Bar) (ss : List Int) (t : Int), ds = [bxD k bs, stD ss, .int t] ∧ (∀ b ∈ bs, GBar b) ∧ bs.length ≤ 3 ∧ GSt bs ss ∧ P (sD (heard bs ss t)) M
theorem l_law_heard (ds : List D) (M : Mem) (P : D → Mem → Prop) (PX : DX) (h : sp_law_heard ds M P PX) : t_law_heard sp_law_plucks PX (dEnds P) (dstart ["_law_box_so", "_law_start_so", "_law_tick_so"] ds) M := by
  obtain ⟨k, bs, ss, t, rfl, hb, hz, hg, h⟩ := h
  simp [t_law_heard, dRet, dJoin, dC, dSrtSet, dCall, dCons, dNil, dVar, dEnds, dstart]
  refine ⟨k, bs, ss, t, rfl, hb, hz, hg, ?_⟩
  have e : txts (.lst ((srtT ((picks bs ss t).flatten.map fun c => sN [c])).map D.str)) = some (srtT ((picks bs ss t).flatten.map fun c => sN [c])) := strsOf_str _
  have p := picks_ok t hg hb
  simp only [e]
  refine ⟨?_, ?_⟩
  · rw [(srtT_perm _).length_eq, List.length_map, List.length_flatten]
    have := sum_le p
    rw [picks_len t hg] at this
    simp only [scanBound]
    omega
  · refine join_canon (l := (picks bs ss t).flatten) (fun c hc => ?_) (fun y => ?_) (Fz.here h)
    · obtain ⟨l, hl, hc⟩ := List.mem_flatten.mp hc
      exact canon_teeth (p l hl) c hc
    · rw [(srtT_perm _).mem_iff, List.mem_map]
      simp only [eq_comm]
end DL

set_option Elab.async false
set_option linter.all false
set_option maxRecDepth 100000
set_option maxHeartbeats 4000000
namespace DL
open PySem PySem.Spec PyProof.Rows L2
/-! ### same -/
mutual
theorem eqv_refl : ∀ a : D, PyData.eqv (py a) (py a) = true
  | .non => by simp [py, PyData.eqv]
  | .bl b => by simp [py, PyData.eqv]
  | .int b => by simp [py, PyData.eqv]
  | .str b => by simp [py, PyData.eqv]
  | .tup xs => by simp only [py, PyData.eqv]; exact eqvL_refl xs
  | .lst xs => by simp only [py, PyData.eqv]; exact eqvL_refl xs
  | .ref b => by simp [py, PyData.eqv]
  | .ty b => by simp [py, PyData.eqv]
theorem eqvL_refl : ∀ a : List D, PyData.eqvAll (pyL a) (pyL a) = true
  | [] => by simp [pyL, PyData.eqvAll]
  | d :: r => by simp only [pyL, PyData.eqvAll, eqv_refl d, eqvL_refl r, Bool.and_true]
end
theorem dq_refl (a : D) : dq a a = true := eqv_refl a
/-- small things: at most d deep -/
def dsm : Nat → D → Bool
  | _, .non => true
  | _, .bl _ => true
  | _, .int _ => true
  | _, .str x => PyData.strOk x
  | 0, .tup _ => false
  | 0, .lst _ => false
  | n + 1, .tup xs => decide (xs.length ≤ 1000000) && xs.all (dsm n)
  | n + 1, .lst xs => decide (xs.length ≤ 1000000) && xs.all (dsm n)
  | _, .ref _ => false
  | _, .ty _ => false
theorem dsm_dkn : ∀ (n : Nat) (v : D), dsm n v = true → dkn n v = true := by
  intro n
  induction n with
  | zero => intro v h; cases v <;> simp [dkn, dsm] at h ⊢; exact h
  | succ n ih =>
    intro v h
    cases v <;> simp [dkn, dsm] at h ⊢
    · exact h
    · exact fun x hx => ih x (h.2 x hx)
    · exact fun x hx => ih x (h.2 x hx)
def sortD : D → Int
  | .bl _ => 1
  | .int _ => 2
  | .str _ => 3
  | .lst _ => 4
  | .tup _ => 5
  | _ => 6
def sp_law_sort : DSp := fun ds M P _ => ∃ v, ds = [v] ∧ top v = true ∧ P (.int (sortD v)) M
theorem l_law_sort (ds : List D) (M : Mem) (P : D → Mem → Prop) (PX : DX) (h : sp_law_sort ds M P PX) : t_law_sort PX (dEnds P) (dstart ["_law_thing"] ds) M := by
  obtain ⟨v, rfl, ht, h⟩ := h
  have h' := Fz.here h
  cases v <;> simp [t_law_sort, dRet, dRetN, dSkip, dSeq, dExpr, dSet, dIf, dAsg, dPar, dgT, dgN, dgCons, dgNil, dgSub, dVar, dC, dUn, dBin, dNil, dCons, dApp, dB, dAnd, dOr, dNot, dAndV, dOrV, dNotV, dIfE, dChain, dTup, dLst, dLstH, dCall, dRaise, dFor, dIter, dRng1, dRng2, dZip, dEnum, dComp, dYes, dJoin, dSlice, dPart, dNoPart, dAppend, dSrtSet, dLenSet, dSplit, dZipE, dEnds, dstart, dst, dwipe, gI, gIC, gMod, gDiv, gSub, gPow, gNeg, gLt, gLe, gGt, gGe, gEq, gNe, gIsN, gNotN, gAdd, gMul, gIx, gLen, gIsi, gInt1, gTuple, gList, gSorted, gIn, gAll, gAny, dFrz, gMax2, gMin2, dComp2, isiN, isiB, top, sortD] at ht h' ⊢ <;> exact h'
def sp_law_same (d : Nat) : DSp := fun ds M P _ => ∃ a, ds = [a, a] ∧ dsm d a = true ∧ P (.bl true) M
theorem top_lst {xs : List D} : top (.lst xs) = true := rfl
theorem sort_call {v : D} {M : Mem} {P : D → Mem → Prop} {PX : DX} (h : top v = true) (q : P (.int (sortD v)) M) : sp_law_sort [v] M P PX := ⟨v, rfl, h, q⟩
theorem enum_mem {xs : List D} {x : D} (h : x ∈ enumD xs) : ∃ (i : Nat) (y : D), x = .tup [.int i, y] ∧ y ∈ xs ∧ atI xs i = some y := by
  obtain ⟨j, hj⟩ := List.getElem?_of_mem h
  obtain ⟨y, hy, e⟩ := enumD_at hj
  exact ⟨j, y, e, List.mem_of_getElem? hy, atI_nat hy⟩
theorem filterMap_none {xs : List D} : xs.filterMap (fun _ : D => (none : Option D)) = [] := by
  induction xs with
  | nil => rfl
  | cons x r ih => rw [List.filterMap_cons]; exact ih
theorem l_law_same {rec : DSp} (d : Nat) (hd : d ≤ 60) (hr : ∀ x M P PX, dsm (d - 1) x = true → 0 < d → P (.bl true) M → rec [x, x] M P PX) (ds : List D) (M : Mem) (P : D → Mem → Prop) (PX : DX) (h : sp_law_same d ds M P PX) : t_law_same sp_law_sort rec PX (dEnds P) (dstart ["_law_told", "_law_due", "_law_k", "_law_part"] ds) M := by
  obtain ⟨v, rfl, hs, h⟩ := h
  have h' := Fz.here h
  have hk := dkn_mono d 64 v (by omega) (dsm_dkn d v hs)
  have ht := dkn_top hk
  have e0 : dq (.int (sortD v)) (.int (sortD v)) = true := dq_refl _
  have seq : ∀ xs : List D, (v = .tup xs ∨ v = .lst xs) → ∃ n, d = n + 1 ∧ xs.length ≤ 1000000 ∧ ∀ x ∈ xs, dsm n x = true := by
    intro xs hx
    cases d with
    | zero => rcases hx with rfl | rfl <;> simp [dsm] at hs
    | succ n => rcases hx with rfl | rfl <;> simp [dsm] at hs <;> exact ⟨n, rfl, hs.1, hs.2⟩
  cases v with
  | tup xs =>
    obtain ⟨n, rfl, hl, hx⟩ := seq xs (.inl rfl)
    simp [t_law_same, dSeq, dIf, dAnd, dB, dCall, dCons, dNil, dVar, dC, dEnds, dstart, dBin, sp_law_sort, top_tup, sortD, gNe, gGt, gLt, gI, gIC, dkn, eqv_refl, dApp, gLen, dRet, dSkip]
    simp [dComp, dEnum, dCons, dNil, dVar]
    refine ⟨by rw [enumD_len, sizeLine_eq]; omega, ?_⟩
    refine compL_by (fun _ => none) _ [] (fun x hx' R hR => ?_) ?_
    · obtain ⟨i, y, rfl, hy, e⟩ := enum_mem hx'
      simp [dgT, dgCons, dgNil, dgN, dwipe, dNot, dB, dCall, dCons, dNil, dVar, dBin, gIx, e]
      refine hr y _ _ _ (hx y hy) (by omega) ?_
      simpa using hR
    · rw [filterMap_none]
      simp [dLst, dNil, gEq, dkn, eqv_refl]
      exact h'
  | lst xs =>
    obtain ⟨n, rfl, hl, hx⟩ := seq xs (.inr rfl)
    simp [t_law_same, dSeq, dIf, dAnd, dB, dCall, dCons, dNil, dVar, dC, dEnds, dstart, dBin, sp_law_sort, top_lst, sortD, gNe, gGt, gLt, gI, gIC, dkn, eqv_refl, dApp, gLen, dRet, dSkip]
    simp [dComp, dEnum, dCons, dNil, dVar]
    refine ⟨by rw [enumD_len, sizeLine_eq]; omega, ?_⟩
    refine compL_by (fun _ => none) _ [] (fun x hx' R hR => ?_) ?_
    · obtain ⟨i, y, rfl, hy, e⟩ := enum_mem hx'
      simp [dgT, dgCons, dgNil, dgN, dwipe, dNot, dB, dCall, dCons, dNil, dVar, dBin, gIx, e]
      refine hr y _ _ _ (hx y hy) (by omega) ?_
      simpa using hR
    · rw [filterMap_none]
      simp [dLst, dNil, gEq, dkn, eqv_refl]
      exact h'
  | _ =>
    simp [t_law_same, dRet, dRetN, dSkip, dSeq, dExpr, dSet, dIf, dAsg, dPar, dgT, dgN, dgCons, dgNil, dgSub, dVar, dC, dUn, dBin, dNil, dCons, dApp, dB, dAnd, dOr, dNot, dAndV, dOrV, dNotV, dIfE, dChain, dTup, dLst, dLstH, dCall, dRaise, dFor, dIter, dRng1, dRng2, dZip, dEnum, dComp, dYes, dJoin, dSlice, dPart, dNoPart, dAppend, dSrtSet, dLenSet, dSplit, dZipE, dEnds, dstart, dst, dwipe, gI, gIC, gMod, gDiv, gSub, gPow, gNeg, gLt, gLe, gGt, gGe, gEq, gNe, gIsN, gNotN, gAdd, gMul, gIx, gLen, gIsi, gInt1, gTuple, gList, gSorted, gIn, gAll, gAny, dFrz, gMax2, gMin2, dComp2, sp_law_sort, sortD, top, dkn, eqv_refl] at hk ht h' ⊢
    try exact h'
    try exact ⟨hk, h'⟩
/-! kin -/
def words : List (List Nat) := [[98, 111, 120], [98, 101, 103, 105, 110, 110, 105, 110, 103], [116, 105, 99, 107], [116, 111, 111, 116, 104], [102, 97, 99, 116, 115], [110, 117, 109, 98, 101, 114], [105, 110, 100, 101, 120], [110, 111, 110, 101], [117, 110, 108, 105, 107, 101], [117, 110, 100, 111], [109, 97, 110, 121], [116, 101, 120, 116], [43]]
def kinF : D → Option D := fun x => match x with | .tup [l, .bl true] => some l | _ => none
def kinL (fs : List Bool) : List (List Nat) := ((words.zip fs).filter (·.2)).map (·.1)
/-- the flags, then the label -/
def sp_law_kin (cs : List D) : DSpE := fun g ds M P => ∃ (a : Addr) (fs : List Bool), ds = [.ref a] ∧ fs.length = 13 ∧ (∀ (i : Nat) (c : D) (f : Bool), cs[i]? = some c → fs[i]? = some f → ∀ (M : Mem) (Q : D → Mem → Prop), Q (.bl f) M → g [.ref a, c] M Q) ∧ P (.str (Txt.join (sN [32]) ((kinL fs).map sN))) M
theorem kin_map : ∀ (ws : List (List Nat)) (fs : List Bool), (zipD (ws.map sD) (fs.map D.bl)).filterMap kinF = (((ws.zip fs).filter (·.2)).map (·.1)).map sD
  | [], fs => by simp [zipD]
  | w :: ws, [] => by simp [zipD]
  | w :: ws, f :: fs => by
    show List.filterMap kinF (.tup [sD w, .bl f] :: zipD (ws.map sD) (fs.map D.bl)) = _
    rw [List.filterMap_cons, kin_map ws fs]
    cases f <;> simp [kinF]
theorem kin_len : ∀ (ws : List (List Nat)) (fs : List Bool), ((((ws.zip fs).filter (·.2)).map (·.1)).map List.length).sum ≤ (ws.map List.length).sum ∧ (((ws.zip fs).filter (·.2)).map (·.1)).length ≤ ws.length
  | [], fs => by simp
  | w :: ws, [] => by simp
  | w :: ws, f :: fs => by
    have := kin_len ws fs
    cases f <;> simp at this ⊢ <;> omega
theorem splitW : Txt.split (Str.ofString "box beginning tick tooth facts number index none unlike undo many text +") (Str.ofString " ") = words.map sN := by decide +kernel
theorem l_law_kin {c1 c2 c3 c4 c5 c6 c7 c8 c9 c10 c11 c12 : D} (g : DOL) (ds : List D) (M : Mem) (P : D → Mem → Prop) (h : sp_law_kin [c3, c2, c1, c6, c5, c4, c9, c8, c7, c12, c11, c10, .ty "ValueError"] g ds M P) :
    t_law_kin c1 c2 c3 c4 c5 c6 c7 c8 c9 c10 c11 c12 g (dEnds P) (dstart ["_law_e", "_law_sorts", "_law_labels", "_law_label", "_law_good"] ds) M := by
  obtain ⟨a, fs, rfl, hf, hg, h⟩ := h
  match fs, hf with
  | [f1, f2, f3, f4, f5, f6, f7, f8, f9, f10, f11, f12, f13], _ =>
    have k1 := hg 0 _ _ rfl rfl
    have k2 := hg 1 _ _ rfl rfl
    have k3 := hg 2 _ _ rfl rfl
    have k4 := hg 3 _ _ rfl rfl
    have k5 := hg 4 _ _ rfl rfl
    have k6 := hg 5 _ _ rfl rfl
    have k7 := hg 6 _ _ rfl rfl
    have k8 := hg 7 _ _ rfl rfl
    have k9 := hg 8 _ _ rfl rfl
    have k10 := hg 9 _ _ rfl rfl
    have k11 := hg 10 _ _ rfl rfl
    have k12 := hg 11 _ _ rfl rfl
    have k13 := hg 12 _ _ rfl rfl
    have z : ∀ n : Nat, n ≤ 20 → n ≤ sizeLine := fun n h => by rw [sizeLine_eq]; omega
    simp [t_law_kin, dSeq, dSet, dLst, dBin, dApp, dCons, dNil, dVar, dC, dEnds, dstart]
    refine k1 _ _ (k2 _ _ (k3 _ _ ?_))
    refine ⟨z _ (by decide), ?_⟩
    refine k4 _ _ (k5 _ _ (k6 _ _ ?_))
    simp [gAdd]
    refine ⟨z _ (by decide), z _ (by decide), ?_⟩
    refine k7 _ _ (k8 _ _ (k9 _ _ ?_))
    refine ⟨z _ (by decide), z _ (by decide), ?_⟩
    refine k10 _ _ (k11 _ _ (k12 _ _ ?_))
    refine ⟨z _ (by decide), z _ (by decide), ?_⟩
    refine k13 _ _ ?_
    refine ⟨z _ (by decide), z _ (by decide), ?_⟩
    simp [dRet, dJoin, dComp, dZipE, dSplit, dCons, dNil, dVar, dC]
    rw [splitW, List.map_map]
    refine ⟨⟨by decide +kernel, by rw [sizeLine_eq]; decide +kernel⟩, by decide, by rw [sizeLine_eq]; simp [zipD, words], ?_⟩
    refine compL_by kinF _ [] (fun x hx R hR => ?_) ?_
    · obtain ⟨u, v, rfl, _, hv⟩ := zipD_mem hx
      obtain ⟨f, rfl⟩ : ∃ f, v = .bl f := by
        simp only [List.mem_cons, List.not_mem_nil, or_false] at hv
        rcases hv with rfl | rfl | rfl | rfl | rfl | rfl | rfl | rfl | rfl | rfl | rfl | rfl | rfl <;> exact ⟨_, rfl⟩
      simp [dgT, dgCons, dgNil, dgN, dB, dVar, dwipe]
      cases f with
      | true => simpa [kinF] using hR
      | false => simpa [kinF] using hR
    · have e := kin_map words [f1, f2, f3, f4, f5, f6, f7, f8, f9, f10, f11, f12, f13]
      rw [List.nil_append]
      show joinD _ (List.filterMap kinF (zipD (words.map sD) ([f1, f2, f3, f4, f5, f6, f7, f8, f9, f10, f11, f12, f13].map D.bl))) _
      rw [e]
      unfold joinD
      rw [strsOf_sD]
      refine ⟨?_, Fz.here h⟩
      have b := kin_len words [f1, f2, f3, f4, f5, f6, f7, f8, f9, f10, f11, f12, f13]
      have b1 : (words.map List.length).sum = 60 := by decide
      have b2 : words.length = 13 := by decide
      have zz : (List.map (fun x => x.length) ((kinL [f1, f2, f3, f4, f5, f6, f7, f8, f9, f10, f11, f12, f13]).map sN)).sum = ((kinL [f1, f2, f3, f4, f5, f6, f7, f8, f9, f10, f11, f12, f13]).map List.length).sum := by rw [List.map_map]; rfl
      have b3 : (Str.ofString " ").length = 1 := by decide +kernel
      unfold kinL at zz
      rw [zz, b3, List.length_map]
      omega
/-! known -/
def bxK1 : D := bxD 0 [[[97], [98]]]
def bxK2 : D := bxD 1 [[[97], [], [98]], [[98], []]]
def bxK3 : D := bxD 0 [[[97, 98]], [[99], [], [99], []]]
def bxK4 : D := bxD 0 [[[], []]]
def sp_law_known : DSp := fun ds M P _ => ds = [] ∧ P (.tup [bxK1, bxK2, bxK3, bxK4]) M
theorem l_law_known (ds : List D) (M : Mem) (P : D → Mem → Prop) (PX : DX) (h : sp_law_known ds M P PX) : t_law_known PX (dEnds P) (dstart ["_law_one_here", "_law_two"] ds) M := by
  obtain ⟨rfl, h⟩ := h
  have h' := Fz.here h
  have z : ∀ n : Nat, n ≤ 20 → n ≤ sizeLine := fun n h => by rw [sizeLine_eq]; omega
  simp [t_law_known, dRet, dRetN, dSkip, dSeq, dExpr, dSet, dIf, dAsg, dPar, dgT, dgN, dgCons, dgNil, dgSub, dVar, dC, dUn, dBin, dNil, dCons, dApp, dB, dAnd, dOr, dNot, dAndV, dOrV, dNotV, dIfE, dChain, dTup, dLst, dLstH, dCall, dRaise, dFor, dIter, dRng1, dRng2, dZip, dEnum, dComp, dYes, dJoin, dSlice, dPart, dNoPart, dAppend, dSrtSet, dLenSet, dSplit, dZipE, dEnds, dstart, dst, dwipe, gI, gIC, gMod, gDiv, gSub, gPow, gNeg, gLt, gLe, gGt, gGe, gEq, gNe, gIsN, gNotN, gAdd, gMul, gIx, gLen, gIsi, gInt1, gTuple, gList, gSorted, gIn, gAll, gAny, dFrz, gMax2, gMin2, dComp2, z]
  exact h'
end DL

set_option Elab.async false
set_option linter.all false
set_option maxRecDepth 100000
set_option maxHeartbeats 4000000
namespace DL
open PySem PySem.Spec PyProof.Rows L2
abbrev GR : Int := 1000000000000000000000000000000
theorem dq_nil (xs : List D) : dq (.lst xs) (.lst []) = decide (xs = []) := by
  cases xs <;> simp [dq, py, pyL, PyData.eqv, PyData.eqvAll]
theorem dkn_nats (l : List Nat) : dkn 64 (natsD l) = true := by
  simp [natsD, dkn]
theorem dsm_int (n : Nat) (i : Int) : dsm n (.int i) = true := by cases n <;> rfl
theorem dsm_bl (n : Nat) (i : Bool) : dsm n (.bl i) = true := by cases n <;> rfl
theorem dsm_non (n : Nat) : dsm n .non = true := by cases n <;> rfl
theorem dkn_int (n : Nat) (i : Int) : dkn n (.int i) = true := by cases n <;> rfl
theorem dkn_bl (n : Nat) (i : Bool) : dkn n (.bl i) = true := by cases n <;> rfl
theorem dkn_non (n : Nat) : dkn n .non = true := by cases n <;> rfl
/-! ### count_sounds -/
theorem tick_cnt (bs : List Bar) (ss : List Int) (c n : Nat) : (tickL bs ss c n).length = cnt (fun j : Nat => decide (c ∈ heard bs ss j)) n := rfl
theorem tick_per (bs : List Bar) (ss : List Int) (c : Nat) (j : Nat) : (decide (c ∈ heard bs ss ((j + perN bs : Nat) : Int))) = decide (c ∈ heard bs ss j) := by
  rw [Int.natCast_add, heard_per]
theorem tick_div {bs : List Bar} (ss : List Int) (c m : Nat) (h : 0 < perN bs) : (tickL bs ss c m).length = m / perN bs * (tickL bs ss c (perN bs)).length + ((tickL bs ss c (perN bs)).filter fun t => decide (t < m % perN bs)).length := by
  rw [tick_cnt, cnt_div _ _ (tick_per bs ss c) m]
  congr 1
  unfold tickL
  rw [filter_lt _ _ _ (Nat.le_of_lt (Nat.mod_lt _ h))]
  rfl
theorem tick_len (bs : List Bar) (ss : List Int) (c n : Nat) : (tickL bs ss c n).length ≤ n := by
  unfold tickL
  exact Nat.le_trans (List.length_filter_le _ _) (by simp)
theorem tick_lt {bs : List Bar} {ss : List Int} {c n t : Nat} (h : t ∈ tickL bs ss c n) : t < n ∧ c ∈ heard bs ss t := by
  unfold tickL at h
  obtain ⟨h1, h2⟩ := List.mem_filter.mp h
  exact ⟨List.mem_range.mp h1, by simpa using h2⟩
def sp_count_sounds (eB eS eO eN : Addr) (G : Int) : DSp := fun ds M P PX => ∃ b s o n, ds = [b, s, o, n] ∧ dkn 50 b = true ∧ dkn 50 s = true ∧ dkn 50 o = true ∧ top n = true ∧
  ((isBox b = false ∧ PX (.ref eB) none M) ∨ ∃ k bs, b = bxD k bs ∧ GBox k bs ∧ ((beg (bs.map barD) s = false ∧ PX (.ref eS) none M) ∨ ∃ ss, s = stD ss ∧ GSt bs ss ∧
    ((isO o = false ∧ PX (.ref eO) none M) ∨ ∃ c, o = sD [c] ∧ c ∈ teeth ∧ ((isW n 0 G = false ∧ PX (.ref eN) none M) ∨ ∃ m : Nat, n = .int m ∧ (m : Int) ≤ G ∧ P (.int (tickL bs ss c m).length) M))))
theorem l_count_sounds {eB eS eO eN : Addr} {G : Int} (ds : List D) (M : Mem) (P : D → Mem → Prop) (PX : DX) (h : sp_count_sounds eB eS eO eN G ds M P PX) :
    t_count_sounds (sp_need_box eB) (sp_need_beginning eS) (sp_need_tooth eO) (sp_need_number eN) sp_period_of sp_ticks_of (.int G) PX (dEnds P) (dst 7 ds) M := by
  obtain ⟨b, s, o, n, rfl, kb, ks, ko, kn, h⟩ := h
  simp [t_count_sounds, dSeq, dExpr, dCall, dCons, dNil, dVar, dC, dEnds, dst, sp_need_box]
  refine ⟨dkn_mono 50 55 b (by omega) kb, ?_⟩
  rcases h with ⟨e, h⟩ | ⟨k, bs, rfl, gb, h⟩
  · exact .inl ⟨e, h⟩
  refine .inr ⟨isBox_of gb, ?_⟩
  have hz : bs.length ≤ 1000 := by have := gb.2.2.2.1; omega
  refine ⟨barD_tup, by simpa using hz, ks, ?_⟩
  rcases h with ⟨e, h⟩ | ⟨ss, rfl, gs, h⟩
  · exact .inl ⟨e, h⟩
  refine .inr ⟨beg_of gs, ?_⟩
  refine ⟨dkn_mono 50 60 o (by omega) ko, ?_⟩
  rcases h with ⟨e, h⟩ | ⟨c, rfl, hc, h⟩
  · exact .inl ⟨e, h⟩
  refine .inr ⟨isO_iff.mpr ⟨c, hc, rfl⟩, ?_⟩
  refine ⟨kn, ?_⟩
  rcases h with ⟨e, h⟩ | ⟨m, rfl, hm, h⟩
  · exact .inl ⟨e, h⟩
  refine .inr ⟨by simp [isW]; omega, ?_⟩
  have g := gb.bs
  have pp := perN_pos g
  have pl := perN_le g
  have tl := tick_len bs ss c (perN bs)
  simp [dAsg, dTup, dCall, dCons, dNil, dVar]
  refine ⟨k, bs, ss, c, rfl, g, gs, k, bs, rfl, g, by rw [sizeLine_eq]; omega, ?_⟩
  simp [dgT, dgCons, dgNil, dgN, dRet, dBin, dVar, dApp, dCons, dNil, natsD, gLen, gDiv, gIC, CDiv, gMul, CMul, dComp, dIter, seqD]
  refine ⟨⟨by omega, by omega⟩, by omega, by rw [sizeLine_eq]; omega, ?_⟩
  refine comp_1t (fun t : Nat => decide (t < m % perN bs)) (fun t => D.int t) _ (fun t ht R hR => ?_) (fun t ht e R hR => ?_) ?_
  · simp [dB, dBin, dVar, dwipe, gLt, gI, gMod, gIC]
    refine ⟨by omega, ?_⟩
    have e : (decide ((t : Int) < (m : Int) % (perN bs : Int))) = decide (t < m % perN bs) := by
      rw [decide_eq_decide]; omega
    rw [e]; exact hR
  · simpa [dVar, dwipe] using hR
  · simp [gAdd]
    have e := tick_div ss c m pp
    rw [e] at h
    have := Fz.here h
    simpa using this
/-! ### nth_sound -/
theorem filter_take : ∀ {T : List Nat} {r : Nat} (h : r < T.length), T.Pairwise (· < ·) → T.filter (fun t => decide (t < T[r])) = T.take r
  | x :: T, 0, _, p => by
    obtain ⟨p1, p2⟩ := List.pairwise_cons.mp p
    simp only [List.getElem_cons_zero, List.take_zero]
    refine List.filter_eq_nil_iff.mpr fun a ha => ?_
    rcases List.mem_cons.mp ha with rfl | ha
    · simp
    · have := p1 a ha
      simp; omega
  | x :: T, r + 1, h, p => by
    obtain ⟨p1, p2⟩ := List.pairwise_cons.mp p
    have h' : r < T.length := by simpa using h
    simp only [List.getElem_cons_succ, List.take_succ_cons]
    rw [List.filter_cons, if_pos (by simpa using p1 _ (List.getElem_mem h')), filter_take h' p2]
theorem tick_sorted (bs : List Bar) (ss : List Int) (c n : Nat) : (tickL bs ss c n).Pairwise (· < ·) := List.pairwise_lt_range.filter _
def nthN (bs : List Bar) (ss : List Int) (c m : Nat) : Nat := m / (tickL bs ss c (perN bs)).length * perN bs + (tickL bs ss c (perN bs)).getD (m % (tickL bs ss c (perN bs)).length) 0
def nthV (bs : List Bar) (ss : List Int) (c m : Nat) : D := if tickL bs ss c (perN bs) = [] then .non else .int (nthN bs ss c m)
def sp_nth_sound (eB eS eO eN : Addr) (G : Int) : DSp := fun ds M P PX => ∃ b s o n, ds = [b, s, o, n] ∧ dkn 50 b = true ∧ dkn 50 s = true ∧ dkn 50 o = true ∧ top n = true ∧
  ((isBox b = false ∧ PX (.ref eB) none M) ∨ ∃ k bs, b = bxD k bs ∧ GBox k bs ∧ ((beg (bs.map barD) s = false ∧ PX (.ref eS) none M) ∨ ∃ ss, s = stD ss ∧ GSt bs ss ∧
    ((isO o = false ∧ PX (.ref eO) none M) ∨ ∃ c, o = sD [c] ∧ c ∈ teeth ∧ ((isW n 0 G = false ∧ PX (.ref eN) none M) ∨ ∃ m : Nat, n = .int m ∧ (m : Int) ≤ G ∧ P (nthV bs ss c m) M))))
theorem l_nth_sound {eB eS eO eN : Addr} {G : Int} (ds : List D) (M : Mem) (P : D → Mem → Prop) (PX : DX) (h : sp_nth_sound eB eS eO eN G ds M P PX) :
    t_nth_sound (sp_need_box eB) (sp_need_beginning eS) (sp_need_tooth eO) (sp_need_number eN) sp_ticks_of sp_period_of (.int G) PX (dEnds P) (dst 5 ds) M := by
  obtain ⟨b, s, o, n, rfl, kb, ks, ko, kn, h⟩ := h
  simp [t_nth_sound, dSeq, dExpr, dCall, dCons, dNil, dVar, dC, dEnds, dst, sp_need_box]
  refine ⟨dkn_mono 50 55 b (by omega) kb, ?_⟩
  rcases h with ⟨e, h⟩ | ⟨k, bs, rfl, gb, h⟩
  · exact .inl ⟨e, h⟩
  refine .inr ⟨isBox_of gb, ?_⟩
  have hz : bs.length ≤ 1000 := by have := gb.2.2.2.1; omega
  refine ⟨barD_tup, by simpa using hz, ks, ?_⟩
  rcases h with ⟨e, h⟩ | ⟨ss, rfl, gs, h⟩
  · exact .inl ⟨e, h⟩
  refine .inr ⟨beg_of gs, ?_⟩
  refine ⟨dkn_mono 50 60 o (by omega) ko, ?_⟩
  rcases h with ⟨e, h⟩ | ⟨c, rfl, hc, h⟩
  · exact .inl ⟨e, h⟩
  refine .inr ⟨isO_iff.mpr ⟨c, hc, rfl⟩, ?_⟩
  refine ⟨kn, ?_⟩
  rcases h with ⟨e, h⟩ | ⟨m, rfl, hm, h⟩
  · exact .inl ⟨e, h⟩
  refine .inr ⟨by simp [isW]; omega, ?_⟩
  have g := gb.bs
  have pp := perN_pos g
  have pl := perN_le g
  have tl := tick_len bs ss c (perN bs)
  have h' := Fz.here h
  simp [dSet, dCall, dCons, dNil, dVar]
  refine ⟨k, bs, ss, c, rfl, g, gs, ?_⟩
  have dk := dkn_nats (tickL bs ss c (perN bs))
  unfold nthV at h'
  simp only [dIf, dB, dBin, dVar, dLst, dNil, gEq, dSkip, dRet, dC, List.getElem?_cons_succ, List.getElem?_cons_zero, List.length_nil]
  refine ⟨Nat.zero_le _, ⟨dk, by simp [dkn]⟩, ?_⟩
  have e0 : dq (natsD (tickL bs ss c (perN bs))) (.lst []) = decide (tickL bs ss c (perN bs) = []) := by
    unfold natsD
    rw [dq_nil]
    simp
  simp only [e0, decide_eq_true_eq, decide_eq_false_iff_not]
  refine ⟨fun e => by rw [if_pos e] at h'; exact h', fun e => ?_⟩
  rw [if_neg e] at h'
  have tp : 0 < (tickL bs ss c (perN bs)).length := List.length_pos_iff.mpr e
  simp [dApp, dCons, dNil, dVar, natsD, gLen, gDiv, gIC, CDiv, gMul, CMul, dCall]
  refine ⟨⟨by omega, by omega⟩, k, bs, rfl, g, ?_⟩
  dsimp only
  refine ⟨by omega, ?_⟩
  simp [gMod, gIC]
  refine ⟨tp, ?_⟩
  have hr : m % (tickL bs ss c (perN bs)).length < (tickL bs ss c (perN bs)).length := Nat.mod_lt _ tp
  have ea : atI ((tickL bs ss c (perN bs)).map fun j : Nat => D.int j) ((m : Int) % ((tickL bs ss c (perN bs)).length : Int)) = some (.int ((tickL bs ss c (perN bs)).getD (m % (tickL bs ss c (perN bs)).length) 0 : Nat)) := by
    have := atI_nat (xs := (tickL bs ss c (perN bs)).map fun j : Nat => D.int j) (i := m % (tickL bs ss c (perN bs)).length) (x := .int ((tickL bs ss c (perN bs)).getD (m % (tickL bs ss c (perN bs)).length) 0 : Nat)) (by
      rw [List.getElem?_map, List.getElem?_eq_getElem hr, List.getD_eq_getElem?_getD, List.getElem?_eq_getElem hr]; rfl)
    rw [← this]
    congr 1
  simp only [gIx, ea]
  simp [gAdd]
  unfold nthN at h'
  simpa using h'
theorem nth_ok {bs : List Bar} {ss : List Int} {c m : Nat} (h : 0 < perN bs) (e : tickL bs ss c (perN bs) ≠ []) : c ∈ heard bs ss (nthN bs ss c m) ∧ nthN bs ss c m / perN bs = m / (tickL bs ss c (perN bs)).length ∧
    nthN bs ss c m / perN bs * (tickL bs ss c (perN bs)).length + ((tickL bs ss c (perN bs)).filter fun t => decide (t < nthN bs ss c m % perN bs)).length = m := by
  have tp : 0 < (tickL bs ss c (perN bs)).length := List.length_pos_iff.mpr e
  have hr : m % (tickL bs ss c (perN bs)).length < (tickL bs ss c (perN bs)).length := Nat.mod_lt _ tp
  have hm := tick_lt (List.getElem_mem hr)
  have en : nthN bs ss c m = m / (tickL bs ss c (perN bs)).length * perN bs + (tickL bs ss c (perN bs))[m % (tickL bs ss c (perN bs)).length] := by
    unfold nthN
    rw [List.getD_eq_getElem?_getD, List.getElem?_eq_getElem hr]
    rfl
  have e1 : nthN bs ss c m / perN bs = m / (tickL bs ss c (perN bs)).length := by
    rw [en, Nat.mul_comm, Nat.mul_add_div h, Nat.div_eq_of_lt hm.1, Nat.add_zero]
  have e2 : nthN bs ss c m % perN bs = (tickL bs ss c (perN bs))[m % (tickL bs ss c (perN bs)).length] := by
    rw [en, Nat.mul_comm, Nat.mul_add_mod, Nat.mod_eq_of_lt hm.1]
  refine ⟨?_, e1, ?_⟩
  · rw [en, heard_mod]
    exact hm.2
  · rw [e1, e2, filter_take hr (tick_sorted bs ss c _), List.length_take, Nat.min_eq_left (Nat.le_of_lt hr), Nat.mul_comm]
    exact Nat.div_add_mod m _
end DL

set_option Elab.async false
set_option linter.all false
set_option maxRecDepth 100000
set_option maxHeartbeats 4000000
namespace DL
open PySem PySem.Spec PyProof.Rows L2
/-! ### tools for the laws' own loops -/
theorem cutD_mem {xs : List D} {lo hi : Option Int} {x : D} (h : x ∈ cutD xs lo hi) : x ∈ xs := List.mem_of_mem_drop (List.mem_of_mem_take h)
def TabOk (T : List (Addr × Str)) (Pt : Addr) (M : Mem) : Prop := M Pt = some (.tabs T) ∧ ∀ a T', M a = some (.tabs T') → T' = T
theorem TabOk.kp {T : List (Addr × Str)} {Pt a : Addr} {M M' : Mem} (h : TabOk T Pt M) (k : KpM a M M') (ha : a ≠ Pt) : TabOk T Pt M' :=
  ⟨by rw [k.at_ Pt (Ne.symm ha) (by rw [h.1]; exact nofun)]; exact h.1, fun b T' e => h.2 b T' (k.tb b T' e)⟩
theorem memT_ok {T : List (Addr × Str)} {Pt : Addr} : TabOk T Pt (memT Pt T) := ⟨by unfold memT; rw [if_pos rfl], fun a T' e => by
  unfold memT at e
  split at e
  · cases e; rfl
  · cases e⟩
theorem dkn_bx {k : Int} {bs : List Bar} (h : ∀ b ∈ bs, GBar b) : dkn 50 (bxD k bs) = true := by
  simp only [bxD, dkn, List.all_cons, List.all_nil, Bool.true_and, Bool.and_true, List.all_eq_true]
  intro x hx
  obtain ⟨b, hb, rfl⟩ := List.mem_map.mp hx
  simp only [barD, dkn, List.all_eq_true]
  intro y hy
  obtain ⟨l, hl, rfl⟩ := List.mem_map.mp hy
  have := canon_ok l
  rw [(h b hb).2.2 l hl] at this
  simpa [dkn] using this
theorem dkn_st {ss : List Int} : dkn 50 (stD ss) = true := by
  simp only [stD, dkn, List.all_eq_true]
  intro y hy
  obtain ⟨l, hl, rfl⟩ := List.mem_map.mp hy
  simp [dkn]
theorem dsm_s (l : List Nat) (n : Nat) : dsm n (sD (canon l)) = true := by
  have := canon_ok l
  cases n <;> simpa [dsm] using this
theorem beg_rep {bs : List Bar} {v : D} (h1 : 1 ≤ bs.length) (hv : ∀ b ∈ bs, beg1 (.tup [v, barD b]) = false) : beg (bs.map barD) (.tup (List.replicate bs.length [v]).flatten) = false := by
  cases bs with
  | nil => simp at h1
  | cons b r =>
    have e : (List.replicate (b :: r).length [v]).flatten = v :: (List.replicate r.length [v]).flatten := by simp [List.replicate_succ]
    rw [e]
    show (_ && (zipD (v :: _) (barD b :: r.map barD)).all beg1) = false
    rw [show zipD (v :: (List.replicate r.length [v]).flatten) (barD b :: r.map barD) = .tup [v, barD b] :: zipD (List.replicate r.length [v]).flatten (r.map barD) from rfl, List.all_cons, hv b List.mem_cons_self]
    simp
theorem rep_flat {v : D} (n : Nat) : (List.replicate n [v]).flatten = List.replicate n v := by simp
theorem dkn_rep {v : D} (n : Nat) (h : dkn 49 v = true) : dkn 50 (.tup (List.replicate n [v]).flatten) = true := by
  simp [dkn, h]
theorem forL_decW {g : DTG} {tb : DTS} {W : DEnds} (Inv : Nat → DSt → Mem → Prop) : ∀ (xs : List D) (ds : DSt) (M : Mem),
    (∀ x ∈ xs, ∀ k ds M, Inv (k + 1) ds M → ∀ V : DEnds, (∀ ds M, Inv k ds M → V.nx ds M) → V.rt = W.rt → g x ds M fun ds1 M1 => tb V ds1 M1) →
    Inv xs.length ds M → (∀ ds M, Inv 0 ds M → W.nx ds M) → forL g tb W xs ds M := fun xs ds M h i q =>
  forL_dec Inv xs ds M (fun x hx k ds M i Nx hN => h x hx k ds M i _ hN rfl) i q
section
variable {K : Fg} {mg : Str → Option Value} {sk : DSpE} {T : List (Addr × Str)} {Pt eB eS eT eN : Addr}
theorem px_try {e : Addr} {l : Str} {P : D → Mem → Prop} {M : Mem} (h : Lbl K mg sk e l) (q : P (.str l) M) : PXtry K mg sk P (.ref e) none M := ⟨rfl, e, l, rfl, h, q⟩
theorem try_ne {tb : DX → DTE} {l : Str} {e : Addr} {W : DEnds} {ds : DSt} {M : Mem} {st : DTS} (hM : TabOk T Pt M) (hL : Lbl K mg sk e l) (hl : PyData.strOk l = true) (h : ∀ (PX : DX) (P : D → Mem → Prop), PX (.ref e) none M → tb PX ds M P) (q : W.nx ds M) : dIf (dB (dBin gNe (dTry K mg sk T Pt tb) (dC (.str l)))) st dSkip W ds M := by
  simp only [dIf, dB, dBin, dTry, dC]
  refine ⟨hM, h _ _ (px_try hL ?_)⟩
  simp only [gNe, eqv_refl, Bool.not_true, Bool.false_eq_true, false_implies, true_implies, true_and]
  exact ⟨⟨by simpa [dkn] using hl, by simpa [dkn] using hl⟩, q⟩
theorem ne_skip {ta tb : DTE} {v : D} {W : DEnds} {ds : DSt} {M : Mem} {st : DTS} (hv : dkn 64 v = true) (ha : ∀ P : D → Mem → Prop, P v M → ta ds M P) (hb : ∀ P : D → Mem → Prop, P v M → tb ds M P) (q : W.nx ds M) : dIf (dB (dBin gNe ta tb)) st dSkip W ds M :=
  ha _ (hb _ ⟨⟨hv, hv⟩, by
    simp only [eqv_refl, Bool.not_true, Bool.false_eq_true, false_implies, true_implies, true_and]
    exact q⟩)
theorem eq_yes {ta tb : DTE} {v : D} {P : D → Mem → Prop} {ds : DSt} {M : Mem} (hv : dkn 64 v = true) (ha : ∀ P : D → Mem → Prop, P v M → ta ds M P) (hb : ∀ P : D → Mem → Prop, P v M → tb ds M P) (q : P (.bl true) M) : dBin gEq ta tb ds M P :=
  ha _ (hb _ ⟨⟨hv, hv⟩, by
    simp only [eqv_refl]
    exact q⟩)
end
theorem isBoxG (k : Int) (bs : List Bar) (h : isBox (bxD k bs) = true) : GBox k bs := by
  obtain ⟨k', bs', e, g⟩ := isBox_inv h
  have : k = k' ∧ bs = bs' := by
    unfold bxD at e
    injection e with e
    injection e with e1 e2
    injection e1 with e1
    injection e2 with e2 _
    injection e2 with e2
    refine ⟨e1, List.map_inj_right (f := barD) (fun x y h => ?_) |>.mp e2⟩
    unfold barD at h
    injection h with h
    refine List.map_inj_right (f := sD) (fun x y h => ?_) |>.mp h
    injection h with h
    exact sN_inj.mp h
  rw [this.1, this.2]
  exact g
/-- one statement at a time -/
theorem seq_ {t u : DTS} {W : DEnds} {ds : DSt} {M : Mem} (h : ∀ V : DEnds, V.rt = W.rt → V.bk = W.bk → V.ct = W.ct → (∀ ds' M', u W ds' M' → V.nx ds' M') → t V ds M) : dSeq t u W ds M :=
  h { W with nx := fun ds' M' => u W ds' M' } rfl rfl rfl fun _ _ h => h
/-- for over a list, no state but what is named -/
theorem for_ {ti : DTI} {g : DTG} {tb : DTS} {W : DEnds} {ds : DSt} {M : Mem} (h : ti ds M fun xs M1 => forL g tb W xs ds M1) : dFor ti g tb W ds M := h
/-! tests that turn out so -/
def No (u : DTT) (ds : DSt) (M : Mem) : Prop := ∀ P : Bool → Mem → Prop, P false M → u ds M P
def Yes (u : DTT) (ds : DSt) (M : Mem) : Prop := ∀ P : Bool → Mem → Prop, P true M → u ds M P
def Is (t : DTE) (v : D) (ds : DSt) (M : Mem) : Prop := ∀ P : D → Mem → Prop, P v M → t ds M P
theorem if_no {u : DTT} {st : DTS} {W : DEnds} {ds : DSt} {M : Mem} (h : No u ds M) (q : W.nx ds M) : dIf u st dSkip W ds M := h _ ⟨fun z => (by cases z), fun _ => q⟩
theorem no_or {u w : DTT} {ds : DSt} {M : Mem} (h : No u ds M) (h2 : No w ds M) : No (dOr u w) ds M := fun P q => h _ ⟨fun z => (by cases z), fun _ => h2 P q⟩
theorem no_and1 {u w : DTT} {ds : DSt} {M : Mem} (h : No u ds M) : No (dAnd u w) ds M := fun P q => h _ ⟨fun z => (by cases z), fun _ => q⟩
theorem no_not {u : DTT} {ds : DSt} {M : Mem} (h : Yes u ds M) : No (dNot u) ds M := fun P q => h _ q
theorem yes_not {u : DTT} {ds : DSt} {M : Mem} (h : No u ds M) : Yes (dNot u) ds M := fun P q => h _ q
theorem no_b {t : DTE} {ds : DSt} {M : Mem} (h : Is t (.bl false) ds M) : No (dB t) ds M := fun P q => h _ q
theorem yes_b {t : DTE} {ds : DSt} {M : Mem} (h : Is t (.bl true) ds M) : Yes (dB t) ds M := fun P q => h _ q
theorem no_ne {ta tb : DTE} {ds : DSt} {M : Mem} (v : D) (hv : dkn 64 v = true) (ha : Is ta v ds M) (hb : Is tb v ds M) : No (dB (dBin gNe ta tb)) ds M := fun P q => ha _ (hb _ ⟨⟨hv, hv⟩, by
    simp only [eqv_refl, Bool.not_true]
    exact q⟩)
theorem is_eq {ta tb : DTE} {ds : DSt} {M : Mem} (v : D) (hv : dkn 64 v = true) (ha : Is ta v ds M) (hb : Is tb v ds M) : Is (dBin gEq ta tb) (.bl true) ds M := fun P q => ha _ (hb _ ⟨⟨hv, hv⟩, by
    simp only [eqv_refl]
    exact q⟩)
theorem no_notN {ta : DTE} {ds : DSt} {M : Mem} (ha : Is ta .non ds M) : No (dB (dBin gNotN ta (dC .non))) ds M := fun P q => ha _ q
theorem is_isN {ta : DTE} {ds : DSt} {M : Mem} (ha : Is ta .non ds M) : Is (dBin gIsN ta (dC .non)) (.bl true) ds M := fun P q => ha _ q
theorem yes_same {d : Nat} {ta tb : DTE} {ds : DSt} {M : Mem} {PX : DX} (v : D) (hv : dsm d v = true) (ha : Is ta v ds M) (hb : Is tb v ds M) : Yes (dB (dCall (sp_law_same d) PX (dCons ta (dCons tb dNil)))) ds M := fun P q => ha _ (hb _ ⟨v, rfl, hv, q⟩)
end DL

set_option Elab.async false
set_option linter.all false
set_option maxRecDepth 100000
set_option maxHeartbeats 4000000
namespace DL
open PySem PySem.Spec PyProof.Rows L2
def isInt (v : D) : Bool := match v with | .int _ => true | _ => false
def sp_law_whole : DSp := fun ds M P _ => ∃ v, ds = [v] ∧ top v = true ∧ P (.bl (isInt v)) M
theorem l_law_whole (ds : List D) (M : Mem) (P : D → Mem → Prop) (PX : DX) (h : sp_law_whole ds M P PX) : t_law_whole PX (dEnds P) (dst 1 ds) M := by
  obtain ⟨v, rfl, ht, h⟩ := h
  have h' := Fz.here h
  cases v <;> simp [t_law_whole, dRet, dRetN, dSkip, dSeq, dExpr, dSet, dIf, dAsg, dPar, dgT, dgN, dgCons, dgNil, dgSub, dVar, dC, dUn, dBin, dNil, dCons, dApp, dB, dAnd, dOr, dNot, dAndV, dOrV, dNotV, dIfE, dChain, dTup, dLst, dLstH, dCall, dRaise, dFor, dIter, dRng1, dRng2, dZip, dEnum, dComp, dYes, dJoin, dSlice, dPart, dNoPart, dAppend, dSrtSet, dLenSet, dSplit, dZipE, dEnds, dstart, dst, dwipe, gI, gIC, gMod, gDiv, gSub, gPow, gNeg, gLt, gLe, gGt, gGe, gEq, gNe, gIsN, gNotN, gAdd, gMul, gIx, gLen, gIsi, gInt1, gTuple, gList, gSorted, gIn, gAll, gAny, dFrz, gMax2, gMin2, dComp2, isiN, isiB, top, isInt] at ht h' ⊢ <;> exact h'
/-! ### the period, by trying -/
def allDiv (bs : List Bar) (m : Nat) : Bool := bs.all fun b => decide (m % b.length = 0)
theorem allDiv_per {bs : List Bar} {m : Nat} : allDiv bs m = true ↔ perN bs ∣ m := by
  unfold allDiv perN
  rw [List.all_eq_true]
  constructor
  · intro h
    refine lcm_fold_min _ 1 m (Nat.one_dvd m) fun x hx => ?_
    obtain ⟨b, hb, rfl⟩ := List.mem_map.mp hx
    exact Nat.dvd_of_mod_eq_zero (by simpa using h b hb)
  · intro h b hb
    have := Nat.dvd_trans ((lcm_fold_dvd (bs.map List.length) 1).2 _ (List.mem_map_of_mem hb)) h
    simpa using Nat.mod_eq_zero_of_dvd this
def sp_law_size : DSp := fun ds M P _ => ∃ k bs, ds = [bxD k bs] ∧ GBs bs ∧ P (.int (perN bs)) M
theorem l_law_size (ds : List D) (M : Mem) (P : D → Mem → Prop) (PX : DX) (h : sp_law_size ds M P PX) : t_law_size PX (dEnds P) (dst 3 ds) M := by
  obtain ⟨k, bs, rfl, g, h⟩ := h
  have h' := Fz.here h
  have pp := perN_pos g
  simp [t_law_size, dSeq, dSet, dC, dst]
  refine while_rec (n := perN bs - 1) (fun n ds M' => ∃ (m : Nat) (x : Option D), ds = [some (bxD k bs), some (.int m), x] ∧ n = perN bs - m ∧ 1 ≤ m ∧ m ≤ perN bs ∧ M' = M) ⟨1, none, rfl, rfl, by omega, pp, rfl⟩ (fun n ds M' hI V hr hb hV => ?_)
  obtain ⟨m, x, rfl, hn, m1, m2, rfl⟩ := hI
  simp only [dB, dBin, dComp, dIter, dVar, dC, gIx, bxD, List.getElem?_cons_zero, List.getElem?_cons_succ]
  show (match seqD (.tup (bs.map barD)) with | some xs => _ | none => False)
  simp only [seqD]
  refine ⟨by rw [sizeLine_eq, List.length_map]; have := g.2.1; omega, ?_⟩
  refine comp_1t (fun b : Bar => decide (¬ m % b.length = 0)) (fun _ => D.int 1) bs (fun b hb R hR => ?_) (fun b hb e R hR => hR) ?_
  · have gb := g.2.2 b hb
    simp [dB, dBin, dVar, dC, dwipe, dApp, dCons, dNil, gInt1, gLen, barD, gMod, gIC, gNe, dkn]
    refine ⟨by have := gb.1; omega, ?_⟩
    have e : (!PyData.eqv (py (D.int ((m : Int) % (b.length : Int)))) (py (D.int 0))) = decide (¬ m % b.length = 0) := by
      simp [py, PyData.eqv]
      rw [Bool.eq_iff_iff]
      simp
      omega
    rw [e]
    simpa using hR
  · have ea : ((bs.filter fun b : Bar => decide (¬ m % b.length = 0)).map fun _ : Bar => D.int 1) = [] ↔ allDiv bs m = true := by
      rw [List.map_eq_nil_iff, List.filter_eq_nil_iff]
      unfold allDiv
      rw [List.all_eq_true]
      simp
    simp only [dLst, dNil, gNe, dq_nil, List.length_nil]
    refine ⟨Nat.zero_le _, ⟨by simp [dkn], by simp [dkn]⟩, fun e => ?_, fun e => ?_⟩
    · have nd : ¬ allDiv bs m = true := by
        rw [← ea]
        simpa using e
      have hne : m ≠ perN bs := fun z => nd (allDiv_per.mpr (z ▸ Nat.dvd_refl _))
      simp [dSet, dBin, dVar, dC, gAdd]
      refine hV (perN bs - (m + 1)) _ _ (by omega) ⟨m + 1, x, by simp [bxD], rfl, by omega, by omega, rfl⟩
    · have yd : allDiv bs m = true := by
        rw [← ea]
        simpa using e
      have em : m = perN bs := Nat.le_antisymm m2 (Nat.le_of_dvd (by omega) (allDiv_per.mp yd))
      subst em
      simp [dRet, dVar, dEnds]
      exact h'
def sp_law_ticks : DSp := fun ds M P _ => ∃ (k : Int) (bs : List Bar) (ss : List Int) (c n : Nat), ds = [bxD k bs, stD ss, sD [c], .int n] ∧ GBs bs ∧ GSt bs ss ∧ n ≤ 1000000 ∧ P (natsD (tickL bs ss c n)) M
theorem l_law_ticks (ds : List D) (M : Mem) (P : D → Mem → Prop) (PX : DX) (h : sp_law_ticks ds M P PX) : t_law_ticks sp_law_heard PX (dEnds P) (dst 5 ds) M := by
  obtain ⟨k, bs, ss, c, n, rfl, g, gs, hn, h⟩ := h
  have h' := Fz.here h
  simp [t_law_ticks, dRet, dComp, dRng1, dCons, dNil, dVar, dst, dEnds, upto0]
  refine ⟨by omega, by rw [sizeLine_eq]; omega, ?_⟩
  refine comp_1t (fun j : Nat => decide (c ∈ heard bs ss j)) (fun j => D.int j) _ (fun j hj R hR => ?_) (fun j hj e R hR => ?_) ?_
  · simp [dB, dBin, dCall, dCons, dNil, dVar, dwipe]
    refine ⟨k, bs, ss, j, rfl, g.2.2, g.2.1, gs, ?_⟩
    simp [gIn, strIn_one]
    exact hR
  · simpa [dVar, dwipe] using hR
  · exact h'
/-! ### good -/
theorem cnt_comp {i : Nat} {l : List Nat} {n : Int} {ds : DSt} {M : Mem} {Q : List D → Mem → Prop} {tt : DTT}
    (htt : ∀ (t : Nat) (P : Bool → Mem → Prop), P (decide ((t : Int) < n)) M → tt ((dwipe ds [i]).set i (some (.int t))) M P) (h : Q ((l.filter fun t : Nat => decide ((t : Int) < n)).map fun _ => D.int 1) M) :
    compL [i] (dgN i) tt (dC (.int 1)) ds Q (l.map fun j : Nat => D.int j) [] M :=
  comp_1t (fun t : Nat => decide ((t : Int) < n)) (fun _ => D.int 1) l (fun t ht R hR => htt t R hR) (fun t ht e R hR => hR) h
theorem tick_filt {bs : List Bar} {ss : List Int} {c n m : Nat} (h : m ≤ n) : ((tickL bs ss c n).filter fun t : Nat => decide ((t : Int) < (m : Int))) = tickL bs ss c m := by
  unfold tickL
  have := filter_lt (fun j : Nat => decide (c ∈ heard bs ss j)) m n h
  simpa using this
def sp_law_good_k03 : DSp := fun ds M P _ => ∃ (a : Addr) (k : Int) (bs : List Bar) (ss : List Int) (c n : Nat), ds = [.ref a, bxD k bs, stD ss, sD [c]] ∧ GBox k bs ∧ GSt bs ss ∧ c ∈ teeth ∧ DeckAt M a (n + 3) ∧ ∀ M', KpM a M M' → DeckAt M' a n → P (.bl true) M'
theorem same_call {d : Nat} {v : D} {M : Mem} {P : D → Mem → Prop} {PX : DX} (h : dsm d v = true) (q : P (.bl true) M) : sp_law_same d [v, v] M P PX := ⟨v, rfl, h, q⟩
end DL

set_option Elab.async false
set_option linter.all false
set_option maxRecDepth 100000
set_option maxHeartbeats 4000000
namespace DL
open PySem PySem.Spec PyProof.Rows L2
/-! ### comprehensions with two fors -/
theorem comp_2 {α β : Type} {i j : Nat} {ti1 : DTI} {te : DTE} {ds : DSt} {Q : List D → Mem → Prop} {M : Mem} {h : α → D} (il : α → List β) (h1 : β → D) (f : α → β → D) : ∀ (l : List α) (acc : List D),
    (∀ a ∈ l, ∀ R : List D → Mem → Prop, R ((il a).map h1) M → ti1 ((dwipe ds [i, j]).set i (some (h a))) M R) →
    (∀ a ∈ l, ∀ b ∈ il a, ∀ R : D → Mem → Prop, R (f a b) M → te ((dwipe ((dwipe ds [i, j]).set i (some (h a))) [j]).set j (some (h1 b))) M R) →
    acc.length + (l.map fun a => (il a).length).sum ≤ sizeLine →
    Q (acc ++ l.flatMap fun a => (il a).map (f a)) M → compL2 [i, j] [j] (dgN i) dYes ti1 (dgN j) dYes te ds Q (l.map h) acc M
  | [], acc, _, _, _, q => by
    simp only [List.flatMap_nil, List.append_nil] at q
    exact q
  | a :: l, acc, s1, s2, hz, q => by
    rw [List.map_cons, List.sum_cons] at hz
    refine ⟨fun _ => s1 a List.mem_cons_self _ ⟨by rw [List.length_map]; omega, ?_⟩, fun z => by cases z⟩
    refine comp_f (fun _ => true) (f a) (il a) acc (fun b hb R h1 _ => ?_) ?_
    · exact ⟨fun _ => s2 a List.mem_cons_self b hb (fun y M' => R (some y) M') (h1 rfl), fun z => by cases z⟩
    · rw [List.filter_eq_self.mpr (fun _ _ => rfl)]
      refine comp_2 il h1 f l _ (fun x hx => s1 x (List.mem_cons_of_mem _ hx)) (fun x hx => s2 x (List.mem_cons_of_mem _ hx)) ?_ ?_
      · rw [List.length_append, List.length_map]; omega
      · rw [List.flatMap_cons] at q
        rw [List.append_assoc]
        exact q
/-! ### all beginnings -/
def extB (b : Bar) (rows : List (List Int)) : List (List Int) := rows.flatMap fun r => (List.range b.length).map fun n : Nat => r ++ [(n : Int)]
def begsF (bs : List Bar) (rows : List (List Int)) : List (List Int) := bs.foldl (fun acc b => extB b acc) rows
def begs (bs : List Bar) : List (List Int) := begsF bs [[]]
theorem len_extB (b : Bar) (rows : List (List Int)) : (extB b rows).length = rows.length * b.length := by
  unfold extB
  rw [List.length_flatMap]
  simp only [List.length_map, List.length_range]
  induction rows with
  | nil => simp
  | cons r rows ih => rw [List.map_cons, List.sum_cons, ih, List.length_cons, Nat.add_mul]; omega
theorem len_begsF : ∀ (bs : List Bar) (rows : List (List Int)), (∀ b ∈ bs, b.length ≤ 7) → (begsF bs rows).length ≤ rows.length * 7 ^ bs.length
  | [], rows, _ => by simp [begsF]
  | b :: bs, rows, h => by
    have h1 := len_begsF bs (extB b rows) fun c hc => h c (List.mem_cons_of_mem _ hc)
    have h2 := h b List.mem_cons_self
    rw [len_extB] at h1
    show (begsF bs (extB b rows)).length ≤ _
    calc _ ≤ rows.length * b.length * 7 ^ bs.length := h1
      _ ≤ rows.length * 7 * 7 ^ bs.length := Nat.mul_le_mul_right _ (Nat.mul_le_mul_left _ h2)
      _ = rows.length * 7 ^ (b :: bs).length := by rw [List.length_cons, Nat.pow_succ]; ac_rfl
theorem len_begs {bs : List Bar} (g : GBs bs) : (begs bs).length ≤ 343 := by
  have := len_begsF bs [[]] fun b hb => (g.2.2 b hb).2.1
  have h2 : 7 ^ bs.length ≤ 7 ^ 3 := Nat.pow_le_pow_right (by decide) g.2.1
  unfold begs
  simp at this
  omega
theorem stD_snoc (r : List Int) (n : Int) : stD (r ++ [n]) = .tup (r.map D.int ++ [.int n]) := by unfold stD; rw [List.map_append]; rfl
def sp_all_beginnings : DSp := fun ds M P _ => ∃ k bs, ds = [bxD k bs] ∧ GBs bs ∧ P (.lst ((begs bs).map stD)) M
theorem tup1_len {r : List Int} {rows : List (List Int)} {n : Nat} (h : ∀ r ∈ rows, r.length = n) (hr : r ∈ rows) : r.length = n := h r hr
theorem extB_len {b : Bar} {rows : List (List Int)} {n : Nat} (h : ∀ r ∈ rows, r.length = n) : ∀ r ∈ extB b rows, r.length = n + 1 := by
  intro r hr
  unfold extB at hr
  obtain ⟨x, hx, hr⟩ := List.mem_flatMap.mp hr
  obtain ⟨m, _, rfl⟩ := List.mem_map.mp hr
  rw [List.length_append, h x hx]; rfl
theorem bound_begs {bs : List Bar} {rows : List (List Int)} {b : Bar} (hb : b.length ≤ 7) (hl : rows.length * 7 ^ (bs.length + 1) ≤ 343) : rows.length ≤ 343 ∧ (extB b rows).length * 7 ^ bs.length ≤ 343 ∧ (extB b rows).length ≤ 343 := by
  have p1 : 1 ≤ 7 ^ bs.length := Nat.pow_pos (by decide)
  rw [Nat.pow_succ] at hl
  have e : rows.length * (7 ^ bs.length * 7) = rows.length * 7 * 7 ^ bs.length := by ac_rfl
  rw [e] at hl
  have h1 : (extB b rows).length * 7 ^ bs.length ≤ 343 := by
    rw [len_extB]
    exact Nat.le_trans (Nat.mul_le_mul_right _ (Nat.mul_le_mul_left _ hb)) hl
  have h3 : rows.length * 7 ≤ 343 := Nat.le_trans (Nat.le_mul_of_pos_right _ p1) hl
  exact ⟨by omega, h1, Nat.le_trans (Nat.le_mul_of_pos_right _ p1) h1⟩
theorem ext_comp {b : Bar} {rows : List (List Int)} {n : Nat} {ds : DSt} {Q : List D → Mem → Prop} {M : Mem} {ti1 : DTI} {te : DTE} {i j : Nat} (h : ∀ r ∈ rows, r.length = n) (hn : n ≤ 100) (hz : (extB b rows).length ≤ 343)
    (s1 : ∀ r ∈ rows, ∀ R : List D → Mem → Prop, R (upto 0 b.length) M → ti1 ((dwipe ds [i, j]).set i (some (stD r))) M R)
    (s2 : ∀ r ∈ rows, ∀ (m : Nat) (R : D → Mem → Prop), R (stD (r ++ [(m : Int)])) M → te ((dwipe ((dwipe ds [i, j]).set i (some (stD r))) [j]).set j (some (.int m))) M R)
    (q : Q ((extB b rows).map stD) M) : compL2 [i, j] [j] (dgN i) dYes ti1 (dgN j) dYes te ds Q (rows.map stD) [] M := by
  refine comp_2 (fun _ => List.range b.length) (fun m : Nat => D.int m) (fun r m => stD (r ++ [(m : Int)])) rows [] (fun r hr R hR => s1 r hr R (by rw [upto0]; exact hR)) (fun r hr m _ R hR => s2 r hr m R hR) ?_ ?_
  · have e : (rows.map fun _ => (List.range b.length).length).sum = (extB b rows).length := by
      unfold extB
      rw [List.length_flatMap]
      simp
    rw [e, sizeLine_eq]
    simp
    omega
  · unfold extB at q
    rw [List.map_flatMap] at q
    simpa [List.map_map, Function.comp_def] using q
theorem beg_loop {J : Type} {W : DEnds} {tb : DTS} {M : Mem} {σ : D → J → DSt}
    (htb : ∀ (b : Bar) (rows : List (List Int)) (n : Nat) (x : J) (V : DEnds), GBar b → (∀ r ∈ rows, r.length = n) → n ≤ 100 → rows.length ≤ 343 → (extB b rows).length ≤ 343 → (∀ y, V.nx (σ (.lst ((extB b rows).map stD)) y) M) → dgN 2 (barD b) (σ (.lst (rows.map stD)) x) M fun ds1 M1 => tb V ds1 M1) :
    ∀ (bs : List Bar) (rows : List (List Int)) (n : Nat) (x : J), (∀ b ∈ bs, GBar b) → (∀ r ∈ rows, r.length = n) → n + bs.length ≤ 100 → rows.length * 7 ^ bs.length ≤ 343 → (∀ x, W.nx (σ (.lst ((begsF bs rows).map stD)) x) M) →
    forL (dgN 2) tb W (bs.map barD) (σ (.lst (rows.map stD)) x) M
  | [], rows, n, x, _, _, _, _, q => q x
  | b :: bs, rows, n, x, hb, hr, hn, hl, q => by
    have g := hb b List.mem_cons_self
    rw [List.length_cons] at hn hl
    obtain ⟨h0, h1, h2⟩ := bound_begs (bs := bs) g.2.1 hl
    refine htb b rows n x _ g hr (by omega) h0 h2 fun y => ?_
    exact beg_loop htb bs (extB b rows) (n + 1) y (fun c hc => hb c (List.mem_cons_of_mem _ hc)) (extB_len hr) (by omega) h1 q
theorem l_all_beginnings (ds : List D) (M : Mem) (P : D → Mem → Prop) (PX : DX) (h : sp_all_beginnings ds M P PX) : t_all_beginnings PX (dEnds P) (dst 5 ds) M := by
  obtain ⟨k, bs, rfl, g, h⟩ := h
  have h' := Fz.here h
  simp only [t_all_beginnings]
  refine seq_ fun V hr _ _ hV => ?_
  simp [dSet, dLst, dTup, dCons, dNil, dst]
  refine ⟨by rw [sizeLine_eq]; omega, hV _ _ ?_⟩
  refine seq_ fun V hr _ _ hV => ?_
  simp [dFor, dIter, dBin, dVar, dC, gIx, bxD]
  show (match seqD (.tup (bs.map barD)) with | some xs => _ | none => False)
  simp only [seqD]
  refine beg_loop (σ := fun r x => [some (bxD k bs), some r, x, none, none]) (fun b rows n x V2 gb hr hn h0 h2 hV2 => ?_) bs [[]] 0 none g.2.2 (by simp) (by have := g.2.1; omega) ?_ (fun x => hV _ _ ?_)
  · simp [dgN, dSet, dComp2, dIter, dVar, seqD]
    refine ext_comp hr hn h2 (fun r hr2 R hR => ?_) (fun r hr2 m R hR => ?_) (hV2 _)
    · simp [dRng1, dCons, dNil, dApp, dVar, dwipe, gLen, barD]
      exact ⟨by have := gb.2.1; omega, hR⟩
    · have := hr r hr2
      simp [dBin, dVar, dC, dTup, dCons, dNil, dwipe, stD, gAdd]
      refine ⟨by rw [sizeLine_eq]; omega, by rw [sizeLine_eq]; omega, ?_⟩
      rw [stD_snoc] at hR
      exact hR
  · have : 7 ^ bs.length ≤ 7 ^ 3 := Nat.pow_le_pow_right (by decide) g.2.1
    simp; omega
  · simp [dRet, dVar, dEnds]
    exact h'
def sp_law_starts : DSp := fun ds M P _ => ∃ k bs, ds = [bxD k bs] ∧ GBs bs ∧ P (.lst ((begs bs).map stD)) M
theorem row_loop {J : Type} {b : Bar} {n : Nat} {M : Mem} {W : DEnds} {tb : DTS} {σ : D → J → DSt} (htb : ∀ (r : List Int) (acc : List (List Int)) (x : J) (V : DEnds), r.length = n → acc.length ≤ 343 → (acc ++ (List.range b.length).map fun m : Nat => r ++ [(m : Int)]).length ≤ 343 →
      (∀ y, V.nx (σ (.lst ((acc ++ (List.range b.length).map fun m : Nat => r ++ [(m : Int)]).map stD)) y) M) → dgN 4 (stD r) (σ (.lst (acc.map stD)) x) M fun ds1 M1 => tb V ds1 M1) :
    ∀ (rows acc : List (List Int)) (x : J), (∀ r ∈ rows, r.length = n) → (acc ++ extB b rows).length ≤ 343 → (∀ x, W.nx (σ (.lst ((acc ++ extB b rows).map stD)) x) M) → forL (dgN 4) tb W (rows.map stD) (σ (.lst (acc.map stD)) x) M
  | [], acc, x, _, _, q => by
    have := q x
    simp only [extB, List.flatMap_nil, List.append_nil] at this
    exact this
  | r :: rows, acc, x, hr, hl, q => by
    have e : acc ++ extB b (r :: rows) = (acc ++ (List.range b.length).map fun m : Nat => r ++ [(m : Int)]) ++ extB b rows := by
      unfold extB
      rw [List.flatMap_cons, List.append_assoc]
    rw [e] at hl q
    have l1 : (acc ++ (List.range b.length).map fun m : Nat => r ++ [(m : Int)]).length ≤ 343 := by
      rw [List.length_append] at hl; omega
    refine htb r acc x _ (hr r List.mem_cons_self) (by rw [List.length_append] at l1; omega) l1 fun y => ?_
    exact row_loop htb rows _ y (fun y hy => hr y (List.mem_cons_of_mem _ hy)) hl q
theorem l_law_starts (ds : List D) (M : Mem) (P : D → Mem → Prop) (PX : DX) (h : sp_law_starts ds M P PX) : t_law_starts PX (dEnds P) (dst 6 ds) M := by
  obtain ⟨k, bs, rfl, g, h⟩ := h
  have h' := Fz.here h
  simp only [t_law_starts]
  refine seq_ fun V hr _ _ hV => ?_
  simp [dSet, dLst, dTup, dCons, dNil, dst]
  refine ⟨by rw [sizeLine_eq]; omega, hV _ _ ?_⟩
  refine seq_ fun V hr _ _ hV => ?_
  simp [dFor, dIter, dBin, dVar, dC, gIx, bxD]
  show (match seqD (.tup (bs.map barD)) with | some xs => _ | none => False)
  simp only [seqD]
  refine beg_loop (J := Option D × Option D × Option D × Option D) (σ := fun r x => [some (bxD k bs), some r, x.1, x.2.1, x.2.2.1, x.2.2.2]) (fun b rows n x V2 gb hr hn h0 h2 hV2 => ?_) bs [[]] 0 ⟨none, none, none, none⟩ g.2.2 (by simp) (by have := g.2.1; omega) ?_ (fun x => hV _ _ ?_)
  · simp only [dgN, List.set]
    refine seq_ fun V hr2 _ _ hV => ?_
    simp [dSet, dLst, dNil]
    refine hV _ _ ?_
    refine seq_ fun V hr2 _ _ hV => ?_
    simp [dFor, dIter, dVar, seqD]
    refine row_loop (J := Option D × Option D) (b := b) (n := n) (σ := fun r x => [some (bxD k bs), some (.lst (rows.map stD)), some (barD b), some r, x.1, x.2]) (fun r acc x V3 hrl ha hl3 hV3 => ?_) rows [] ⟨_, _⟩ hr (by simpa using h2) (fun x => hV _ _ ?_)
    · have hb7 := gb.2.1
      simp [dgN, dSet, dBin, dVar, dComp, dRng1, dApp, dCons, dNil, gLen, barD, upto0]
      refine ⟨by omega, by rw [sizeLine_eq]; omega, ?_⟩
      refine comp_1 (fun m : Nat => stD (r ++ [(m : Int)])) _ (fun m hm R hR => ?_) ?_
      · simp [dBin, dVar, dTup, dCons, dNil, dwipe, stD, gAdd]
        refine ⟨by rw [sizeLine_eq]; omega, by rw [sizeLine_eq]; omega, ?_⟩
        rw [stD_snoc] at hR
        exact hR
      · rw [List.length_append, List.length_map] at hl3
        simp [gAdd]
        simp at hl3
        refine ⟨by rw [sizeLine_eq]; omega, ?_⟩
        have := hV3 (some (stD r), x.2)
        simpa [barD, List.map_map, Function.comp_def] using this
    · simp [dSet, dVar]
      exact hV2 (some (barD b), some (.lst ((extB b rows).map stD)), x.1, x.2)
  · have : 7 ^ bs.length ≤ 7 ^ 3 := Nat.pow_le_pow_right (by decide) g.2.1
    simp; omega
  · simp [dRet, dVar, dEnds]
    exact h'
/-! ### members -/
theorem begsF_eq : ∀ (bs : List Bar) (rows : List (List Int)), begsF bs rows = rows.flatMap fun r => (begs bs).map (r ++ ·)
  | [], rows => by simp [begs, begsF]
  | b :: bs, rows => by
    have e1 : begsF (b :: bs) rows = begsF bs (extB b rows) := rfl
    have e2 : begs (b :: bs) = begsF bs (extB b [[]]) := rfl
    rw [e1, e2, begsF_eq bs (extB b rows), begsF_eq bs (extB b [[]])]
    unfold extB
    simp [List.flatMap_assoc, List.map_flatMap, List.flatMap_map, List.map_map, Function.comp_def]
def begsR : List Bar → List (List Int)
  | [] => [[]]
  | b :: bs => (List.range b.length).flatMap fun n : Nat => (begsR bs).map fun s => (n : Int) :: s
theorem begs_cons (b : Bar) (bs : List Bar) : begs (b :: bs) = (List.range b.length).flatMap fun n : Nat => (begs bs).map fun s => (n : Int) :: s := by
  have e2 : begs (b :: bs) = begsF bs (extB b [[]]) := rfl
  rw [e2, begsF_eq]
  unfold extB
  simp [List.flatMap_map]
theorem begs_eq : ∀ bs : List Bar, begs bs = begsR bs
  | [] => rfl
  | b :: bs => by rw [begs_cons, begs_eq bs]; rfl
theorem begs_mem : ∀ {bs : List Bar} {ss : List Int}, ss ∈ begs bs ↔ GSt bs ss
  | [], ss => by
    cases ss <;> simp [begs, begsF, GSt]
  | b :: bs, ss => by
    rw [begs_cons]
    simp only [List.mem_flatMap, List.mem_range, List.mem_map]
    cases ss with
    | nil => simp [GSt]
    | cons s ss =>
      constructor
      · rintro ⟨n, hn, x, hx, e⟩
        injection e with e1 e2
        subst e1 e2
        exact ⟨⟨by omega, by omega⟩, begs_mem.mp hx⟩
      · rintro ⟨⟨h1, h2⟩, h3⟩
        exact ⟨s.toNat, by omega, ss, begs_mem.mpr h3, by congr 1; omega⟩
end DL

set_option Elab.async false
set_option linter.all false
set_option maxRecDepth 100000
set_option maxHeartbeats 4000000
namespace DL
open PySem PySem.Spec PyProof.Rows L2
/-! ### greatest -/
def mxN (l : List Nat) : Nat := l.foldr max 0
theorem mxN_le {l : List Nat} {x : Nat} (h : x ∈ l) : x ≤ mxN l := by
  induction l with
  | nil => cases h
  | cons y l ih =>
    show x ≤ max y (mxN l)
    rcases List.mem_cons.mp h with rfl | h
    · omega
    · have := ih h; omega
theorem mxN_mem {l : List Nat} (h : l ≠ []) : mxN l ∈ l := by
  induction l with
  | nil => exact absurd rfl h
  | cons y l ih =>
    show max y (mxN l) ∈ _
    by_cases e : l = []
    · subst e
      simp [mxN]
    · have := ih e
      rcases Nat.le_total y (mxN l) with z | z
      · rw [Nat.max_eq_right z]; exact List.mem_cons_of_mem _ this
      · rw [Nat.max_eq_left z]; exact List.mem_cons_self
theorem mxN_uniq {l : List Nat} {m : Int} (h : m ∈ l.map fun n : Nat => (n : Int)) (hb : ∀ y ∈ l.map fun n : Nat => (n : Int), y ≤ m) : m = mxN l := by
  obtain ⟨x, hx, rfl⟩ := List.mem_map.mp h
  have h1 := mxN_le hx
  have h2 := hb _ (List.mem_map_of_mem (mxN_mem (List.ne_nil_of_mem hx)))
  omega
theorem max_call {l : List Nat} {M : Mem} {P : D → Mem → Prop} (h : l ≠ []) (q : P (.int (mxN l)) M) : gMax [.lst (l.map fun n : Nat => D.int n)] M P := by
  have e : (l.map fun n : Nat => D.int n) = (l.map fun n : Nat => (n : Int)).map D.int := by rw [List.map_map]; rfl
  show (match intsOf (l.map fun n : Nat => D.int n) with | some ns => _ | none => False)
  rw [e, intsOf_map]
  refine ⟨by rw [List.length_map]; exact List.length_pos_iff.mpr h, fun m h1 h2 => ?_⟩
  rw [mxN_uniq h1 h2]
  exact q
/-! ### runs of silence -/
def rstep (p : Nat × Nat) (x : Bool) : Nat × Nat := (max p.1 (if x then p.2 + 1 else 0), if x then p.2 + 1 else 0)
theorem rfold (l : List Bool) : ∀ f h : Nat, l.foldl rstep (f, h) = (max f (l.foldl rstep (0, h)).1, (l.foldl rstep (0, h)).2) := by
  induction l with
  | nil => intro f h; simp
  | cons x l ih =>
    intro f h
    simp only [List.foldl_cons, rstep]
    rw [ih (max f _), ih (max 0 _)]
    simp only [Prod.mk.injEq, and_true]
    omega
theorem rround {u v : List Bool} (f h : Nat) : (u ++ false :: v).foldl rstep (f, h) = (max f (max (u.foldl rstep (0, h)).1 (v.foldl rstep (0, 0)).1), (v.foldl rstep (0, 0)).2) := by
  rw [List.foldl_append, List.foldl_cons, rfold u f h]
  simp only [rstep, Bool.false_eq_true, if_false]
  rw [rfold v]
  simp only [Prod.mk.injEq, and_true]
  omega
theorem rthree {t : List Bool} (h : false ∈ t) : ((t ++ t ++ t).foldl rstep (0, 0)).1 = ((t ++ t).foldl rstep (0, 0)).1 := by
  obtain ⟨u, v, e⟩ := List.append_of_mem h
  have r : ∀ f h, t.foldl rstep (f, h) = (max f (max (u.foldl rstep (0, h)).1 (v.foldl rstep (0, 0)).1), (v.foldl rstep (0, 0)).2) := fun f h => by rw [e]; exact rround f h
  rw [List.foldl_append, List.foldl_append, r 0 0, r, r]
  simp only
  omega
def pls : Nat → List Bool → List Nat
  | a, [] => [a]
  | a, true :: r => pls (a + 1) r
  | a, false :: r => a :: pls 0 r
theorem pls_ge : ∀ (l : List Bool) (a : Nat), a ≤ mxN (pls a l)
  | [], a => by simp [pls, mxN]
  | true :: r, a => by have := pls_ge r (a + 1); rw [pls]; omega
  | false :: r, a => by rw [pls]; show a ≤ max a _; omega
theorem pls_fold : ∀ (l : List Bool) (f a : Nat), a ≤ f → (l.foldl rstep (f, a)).1 = max f (mxN (pls a l))
  | [], f, a, h => by simp [pls, mxN]; omega
  | true :: r, f, a, h => by
    rw [List.foldl_cons, pls]
    show (r.foldl rstep (max f (a + 1), a + 1)).1 = _
    have := pls_ge r (a + 1)
    rw [pls_fold r _ _ (by omega)]
    omega
  | false :: r, f, a, h => by
    rw [List.foldl_cons, pls]
    show (r.foldl rstep (max f 0, 0)).1 = max f (max a (mxN (pls 0 r)))
    rw [pls_fold r _ _ (by omega)]
    omega
def mk1 (x : Bool) : Nat := if x then 46 else 35
theorem spl_pls : ∀ (l : List Bool) (acc : List Nat), (TL.spl [35] 0 acc (l.map mk1)).map List.length = pls acc.length l
  | [], acc => by simp [TL.spl_nil, pls]
  | true :: r, acc => by
    rw [List.map_cons, pls]
    show ((if TL.pre [35] (46 :: r.map mk1) = true then _ else TL.spl [35] 0 (acc ++ [46]) (r.map mk1)) : List (List Nat)).map List.length = _
    rw [if_neg (by simp [TL.pre]), spl_pls r]
    simp
  | false :: r, acc => by
    rw [List.map_cons, pls]
    show ((if TL.pre [35] (35 :: r.map mk1) = true then acc :: TL.spl [35] 0 [] (r.map mk1) else _) : List (List Nat)).map List.length = _
    rw [if_pos (by simp [TL.pre]), List.map_cons, spl_pls r]
    rfl
/-! ### tunes of any length -/
def sil (bs : List Bar) (ss : List Int) (n : Nat) : List Bool := (List.range n).map fun j : Nat => decide (heard bs ss j = [])
theorem sil_add (bs : List Bar) (ss : List Int) (n : Nat) : sil bs ss (perN bs + n) = sil bs ss (perN bs) ++ sil bs ss n := by
  unfold sil
  rw [List.range_add, List.map_append, List.map_map]
  congr 1
  refine List.map_congr_left fun j _ => ?_
  show decide (heard bs ss ((perN bs + j : Nat) : Int) = []) = _
  rw [Nat.add_comm, Int.natCast_add, heard_per]
def silN (bs : List Bar) (ss : List Int) : Nat := ((sil bs ss (perN bs) ++ sil bs ss (perN bs)).foldl rstep (0, 0)).1
def mute (bs : List Bar) (ss : List Int) : Bool := (sil bs ss (perN bs)).all id
def silV (bs : List Bar) (ss : List Int) : D := if mute bs ss = true then .non else .int (silN bs ss)
theorem flat_nil {l : List (List Nat)} : l.flatten = [] ↔ ∀ x ∈ l, x = [] := by
  rw [List.flatten_eq_nil_iff]
theorem mute_flat (bs : List Bar) (ss : List Int) : mute bs ss = decide ((tuneL bs ss).flatten = []) := by
  rw [Bool.eq_iff_iff, decide_eq_true_iff, flat_nil]
  unfold mute sil tuneL
  simp [List.all_eq_true]
theorem heard_len (bs : List Bar) (ss : List Int) (t : Int) : (heard bs ss t).length ≤ 4 := canon_len _
theorem tune_len (bs : List Bar) (ss : List Int) : (tuneL bs ss).length = perN bs := by simp [tuneL]
theorem tune_sum (bs : List Bar) (ss : List Int) : ((tuneL bs ss).map List.length).sum ≤ perN bs * 4 := by
  have := sum_le (l := tuneL bs ss) fun x hx => by
    obtain ⟨j, _, rfl⟩ := List.mem_map.mp hx
    exact canon_idem _
  rw [tune_len] at this
  exact this
theorem dkn_s (n : Nat) (l : List Nat) (h : ∀ c ∈ l, c < 1114112) : dkn n (sD l) = true := by
  have := okS h
  cases n <;> simpa [dkn] using this
theorem heard_ok (bs : List Bar) (ss : List Int) (t : Int) : ∀ c ∈ heard bs ss t, c ∈ teeth := canon_teeth (canon_idem _)
theorem teeth_ok {c : Nat} (h : c ∈ teeth) : c < 1114112 := by simp [teeth] at h; omega
theorem dkn_heard (n : Nat) (bs : List Bar) (ss : List Int) (t : Int) : dkn n (sD (heard bs ss t)) = true := dkn_s n _ fun c hc => teeth_ok (heard_ok bs ss t c hc)
theorem dq_snil (l : List Nat) : dq (sD l) (.str "") = decide (l = []) := dq_s l []
def sp_silence_of : DSp := fun ds M P _ => ∃ k bs ss, ds = [bxD k bs, stD ss] ∧ GBs bs ∧ GSt bs ss ∧ P (silV bs ss) M
theorem l_silence_of (ds : List D) (M : Mem) (P : D → Mem → Prop) (PX : DX) (h : sp_silence_of ds M P PX) : t_silence_of sp_tune_of PX (dEnds P) (dst 6 ds) M := by
  obtain ⟨k, bs, ss, rfl, g, gs, h⟩ := h
  have h' := Fz.here h
  have pl := perN_le g
  simp only [t_silence_of]
  refine seq_ fun V hr _ _ hV => ?_
  simp [dSet, dCall, dCons, dNil, dVar, dst]
  refine ⟨k, bs, ss, rfl, g, gs, hV _ _ ?_⟩
  refine seq_ fun V hr _ _ hV => ?_
  simp [dIf, dB, dBin, dJoin, dVar, dC]
  simp only [tuneD]
  refine join_strs (by have := tune_sum bs ss; omega) ?_
  have dk : dkn 64 (sD (tuneL bs ss).flatten) = true := dkn_s _ _ fun c hc => by
    obtain ⟨l, hl, hc⟩ := List.mem_flatten.mp hc
    obtain ⟨j, _, rfl⟩ := List.mem_map.mp hl
    exact teeth_ok (heard_ok _ _ _ _ hc)
  have em := mute_flat bs ss
  unfold silV at h'
  simp only [gEq, dq_snil, ← em]
  refine ⟨⟨dk, by decide +kernel⟩, fun e => ?_, fun e => ?_⟩
  · rw [if_pos e] at h'
    simp [dRet, dC, hr, dEnds]
    exact h'
  · rw [if_neg (by rw [e]; decide)] at h'
    refine hV _ _ ?_
    refine seq_ fun V hr _ _ hV => ?_
    simp [dAsg, dTup, dCons, dNil, dC, dgT, dgCons, dgNil, dgN]
    refine ⟨by rw [sizeLine_eq]; omega, hV _ _ ?_⟩
    refine seq_ fun V hr _ _ hV => ?_
    simp [dFor, dIter, dBin, dVar, gAdd, tuneL]
    refine ⟨by rw [sizeLine_eq]; omega, ?_⟩
    simp only [seqD, List.map_map, ← List.map_append]
    have key : ∀ (l : List Nat) (f x : Nat) (o : Option D) (W : DEnds), (∀ o, W.nx [some (bxD k bs), some (stD ss), some (tuneD bs ss), some (.int ((l.map fun j : Nat => decide (heard bs ss j = [])).foldl rstep (f, x)).1), some (.int ((l.map fun j : Nat => decide (heard bs ss j = [])).foldl rstep (f, x)).2), o] M) →
        forL (dgN 5) (dSeq (dSet 4 (dIfE (dB (dBin gEq (dVar 5) (dC (.str "")))) (dBin gAdd (dVar 4) (dC (.int 1))) (dC (.int 0)))) (dSet 3 (dApp gMax2 (dCons (dVar 3) (dCons (dVar 4) dNil))))) W (l.map fun j : Nat => sD (heard bs ss j)) [some (bxD k bs), some (stD ss), some (tuneD bs ss), some (.int f), some (.int x), o] M := by
      intro l
      induction l with
      | nil => intro f x o W q; exact q o
      | cons j l ih =>
        intro f x o W q
        show dSeq _ _ _ (List.set _ 5 _) _
        simp only [List.set]
        refine seq_ fun V hr _ _ hV => ?_
        simp [dSet, dIfE, dB, dBin, dVar, dC, gEq, dq_snil, gAdd]
        refine ⟨⟨dkn_heard _ _ _ _, by decide +kernel⟩, fun e => hV _ _ ?_, fun e => hV _ _ ?_⟩
        · simp [dSet, dApp, dCons, dNil, dVar, gMax2]
          have := ih (max f (x + 1)) (x + 1) (some (sD (heard bs ss j))) W (by
            simpa [List.foldl_cons, rstep, e] using q)
          have e1 : (if (f : Int) < (x : Int) + 1 then (x : Int) + 1 else (f : Int)) = ((max f (x + 1) : Nat) : Int) := by split <;> omega
          rw [e1]
          exact_mod_cast this
        · simp [dSet, dApp, dCons, dNil, dVar, gMax2]
          have := ih f 0 (some (sD (heard bs ss j))) W (by
            simpa [List.foldl_cons, rstep, e] using q)
          have e1 : (if (f : Int) < 0 then (0 : Int) else (f : Int)) = (f : Int) := by split <;> omega
          rw [e1]
          exact this
    have fin := key (List.range (perN bs) ++ List.range (perN bs)) 0 0 none V fun o => hV _ _ (by
      simp [dRet, dVar, dEnds]
      unfold silN sil at h'
      simpa using h')
    simpa [tuneD, tuneL, Function.comp_def] using fin
end DL

set_option Elab.async false
set_option linter.all false
set_option maxRecDepth 100000
set_option maxHeartbeats 4000000
namespace DL
open PySem PySem.Spec PyProof.Rows L2
theorem dq_int (a b : Int) : dq (.int a) (.int b) = decide (a = b) := by
  show (a == b) = _
  rw [Bool.eq_iff_iff]; simp
/-! ### loops that know what has been walked -/
theorem forL_pre {α : Type} {g : DTG} {tb : DTS} {W : DEnds} {h : α → D} (Inv : List α → DSt → Mem → Prop) (l0 : List α) : ∀ (l pre : List α) (ds : DSt) (M : Mem), l0 = pre ++ l →
    (∀ (a : α) (pre post : List α), l0 = pre ++ a :: post → ∀ ds M, Inv pre ds M → ∀ V : DEnds, V.rt = W.rt → (∀ ds M, Inv (pre ++ [a]) ds M → V.nx ds M) → g (h a) ds M fun ds1 M1 => tb V ds1 M1) →
    Inv pre ds M → (∀ ds M, Inv l0 ds M → W.nx ds M) → forL g tb W (l.map h) ds M
  | [], pre, ds, M, e, _, i, q => q ds M (by rw [e, List.append_nil]; exact i)
  | a :: l, pre, ds, M, e, s, i, q => by
    refine s a pre l e ds M i _ rfl fun ds2 M2 i2 => ?_
    exact forL_pre Inv l0 l (pre ++ [a]) ds2 M2 (by rw [e, List.append_assoc]; rfl) s i2 q
theorem for_pre {α : Type} {g : DTG} {tb : DTS} {W : DEnds} {h : α → D} {ds : DSt} {M : Mem} (l : List α) (Inv : List α → DSt → Mem → Prop)
    (s : ∀ (a : α) (pre post : List α), l = pre ++ a :: post → ∀ ds M, Inv pre ds M → ∀ V : DEnds, V.rt = W.rt → (∀ ds M, Inv (pre ++ [a]) ds M → V.nx ds M) → g (h a) ds M fun ds1 M1 => tb V ds1 M1)
    (i : Inv [] ds M) (q : ∀ ds M, Inv l ds M → W.nx ds M) : forL g tb W (l.map h) ds M := forL_pre Inv l l [] ds M rfl s i q
/-! ### silent boxes -/
def muteB (bs : List Bar) : Bool := bs.all fun b => b.all fun i => decide (i = [])
theorem canon_eq_nil {l : List Nat} (h : ∀ c ∈ l, c ∈ teeth) : canon l = [] ↔ l = [] := by
  constructor
  · intro e
    cases l with
    | nil => rfl
    | cons c l =>
      have : c ∈ canon (c :: l) := List.mem_filter.mpr ⟨h c List.mem_cons_self, by simp⟩
      rw [e] at this
      cases this
  · rintro rfl
    decide
theorem heard_nil {bs : List Bar} {ss : List Int} {t : Int} (g : ∀ b ∈ bs, GBar b) (gs : GSt bs ss) : heard bs ss t = [] ↔ ∀ l ∈ picks bs ss t, l = [] := by
  unfold heard
  rw [canon_eq_nil, flat_nil]
  intro c hc
  obtain ⟨l, hl, hc⟩ := List.mem_flatten.mp hc
  exact canon_teeth (picks_ok t gs g l hl) c hc
theorem mute_items {n : Nat} (hn : 0 < n) : ∀ {bs : List Bar} {ss : List Int}, GSt bs ss → (∀ b ∈ bs, b.length ∣ n) → (∀ j : Nat, j < n → ∀ l ∈ picks bs ss j, l = []) → ∀ b ∈ bs, ∀ i ∈ b, i = []
  | [], _, _, _, _, b, hb, _, _ => by cases hb
  | b0 :: bs, s :: ss, h, hd, hp, b, hb, i, hi => by
    rcases List.mem_cons.mp hb with rfl | hb
    · obtain ⟨k, hk, rfl⟩ := List.getElem_of_mem hi
      have dv := hd b List.mem_cons_self
      have hn' : (0 : Int) < n := by omega
      have j0 := Int.emod_nonneg ((k : Int) - s) (show (n : Int) ≠ 0 by omega)
      have j1 := Int.emod_lt_of_pos ((k : Int) - s) hn'
      have := hp (((k : Int) - s) % n).toNat (by omega) (pick b (s + (((k : Int) - s) % n).toNat)) (by
        show _ ∈ pick b _ :: _
        exact List.mem_cons_self)
      rw [← this]
      unfold pick
      rw [Int.toNat_of_nonneg j0]
      have e : (s + ((k : Int) - s) % n) % (b.length : Int) = k := by
        obtain ⟨c, hc⟩ := dv
        have e1 : ((k : Int) - s) % n % (b.length : Int) = ((k : Int) - s) % (b.length : Int) := Int.emod_emod_of_dvd _ ⟨c, by rw [hc]; push_cast; rfl⟩
        rw [Int.add_emod, e1, ← Int.add_emod]
        have e2 : s + ((k : Int) - s) = k := by omega
        rw [e2]
        exact Int.emod_eq_of_lt (by omega) (by omega)
      rw [e, Int.toNat_natCast, List.getD_eq_getElem?_getD, List.getElem?_eq_getElem hk]
      rfl
    · exact mute_items hn h.2 (fun c hc => hd c (List.mem_cons_of_mem _ hc)) (fun j hj l hl => hp j hj l (List.mem_cons_of_mem _ hl)) b hb i hi
theorem picks_mute {t : Int} : ∀ {bs : List Bar} {ss : List Int}, (∀ b ∈ bs, ∀ i ∈ b, i = []) → ∀ l ∈ picks bs ss t, l = []
  | [], _, _, l, hl => by cases hl
  | _ :: _, [], _, l, hl => by cases hl
  | b :: bs, s :: ss, h, l, hl => by
    rcases List.mem_cons.mp hl with rfl | hl
    · unfold pick
      rw [List.getD_eq_getElem?_getD]
      cases e : b[((s + t) % (b.length : Int)).toNat]? with
      | none => rfl
      | some x => exact h b List.mem_cons_self x (List.mem_of_getElem? e)
    · exact picks_mute (fun c hc => h c (List.mem_cons_of_mem _ hc)) l hl
theorem mute_eq {bs : List Bar} {ss : List Int} (g : GBs bs) (gs : GSt bs ss) : mute bs ss = muteB bs := by
  rw [Bool.eq_iff_iff]
  unfold mute sil muteB
  simp only [List.all_eq_true, List.mem_map, List.mem_range, id, forall_exists_index, and_imp, decide_eq_true_eq]
  constructor
  · intro h
    refine mute_items (perN_pos g) gs (fun b hb => perN_dvd hb) fun j hj => ?_
    have := h _ j hj rfl
    exact (heard_nil g.2.2 gs).mp (by simpa using this)
  · rintro h _ j hj rfl
    simpa using (heard_nil g.2.2 gs).mpr (picks_mute h)
theorem begs_ne {bs : List Bar} (g : GBs bs) : begs bs ≠ [] := by
  have : (bs.map fun _ => (0 : Int)) ∈ begs bs := begs_mem.mpr (by
    have h := g.2.2
    clear g
    induction bs with
    | nil => trivial
    | cons b bs ih => exact ⟨⟨Int.le_refl _, by have := (h b List.mem_cons_self).1; show (0 : Int) ≤ _; omega⟩, ih fun c hc => h c (List.mem_cons_of_mem _ hc)⟩)
  exact List.ne_nil_of_mem this
/-! ### the program -/
def sp_silence (eB eS : Addr) : DSp := fun ds M P PX => ∃ b s, ds = [b, s] ∧ dkn 50 b = true ∧ dkn 50 s = true ∧
  ((isBox b = false ∧ PX (.ref eB) none M) ∨ ∃ k bs, b = bxD k bs ∧ GBox k bs ∧ ((beg (bs.map barD) s = false ∧ PX (.ref eS) none M) ∨ ∃ ss, s = stD ss ∧ GSt bs ss ∧ P (silV bs ss) M))
theorem l_silence {eB eS : Addr} (ds : List D) (M : Mem) (P : D → Mem → Prop) (PX : DX) (h : sp_silence eB eS ds M P PX) : t_silence (sp_need_box eB) (sp_need_beginning eS) sp_silence_of PX (dEnds P) (dst 2 ds) M := by
  obtain ⟨b, s, rfl, kb, ks, h⟩ := h
  simp [t_silence, dSeq, dExpr, dCall, dCons, dNil, dVar, dEnds, dst, sp_need_box]
  refine ⟨dkn_mono 50 55 b (by omega) kb, ?_⟩
  rcases h with ⟨e, h⟩ | ⟨k, bs, rfl, gb, h⟩
  · exact .inl ⟨e, h⟩
  refine .inr ⟨isBox_of gb, ?_⟩
  have hz : bs.length ≤ 1000 := by have := gb.2.2.2.1; omega
  refine ⟨barD_tup, by simpa using hz, ks, ?_⟩
  rcases h with ⟨e, h⟩ | ⟨ss, rfl, gs, h⟩
  · exact .inl ⟨e, h⟩
  refine .inr ⟨beg_of gs, ?_⟩
  exact ⟨k, bs, ss, rfl, gb.bs, gs, Fz.here h⟩
def longM (bs : List Bar) : Nat := mxN ((begs bs).map (silN bs))
def longV (bs : List Bar) : D := if muteB bs = true then .non else .tup [.int (longM bs), .lst (((begs bs).filter fun ss => decide (silN bs ss = longM bs)).map stD)]
def sp_longest_silence (eB : Addr) : DSp := fun ds M P PX => ∃ b, ds = [b] ∧ dkn 50 b = true ∧ ((isBox b = false ∧ PX (.ref eB) none M) ∨ ∃ k bs, b = bxD k bs ∧ GBox k bs ∧ P (longV bs) M)
theorem atI_zero {x : D} {l : List D} : atI (x :: l) 0 = some x := atI_nat (xs := x :: l) (i := 0) rfl
theorem l_longest_silence {eB : Addr} (ds : List D) (M : Mem) (P : D → Mem → Prop) (PX : DX) (h : sp_longest_silence eB ds M P PX) : t_longest_silence (sp_need_box eB) sp_all_beginnings sp_silence_of PX (dEnds P) (dst 5 ds) M := by
  obtain ⟨b, rfl, kb, h⟩ := h
  simp only [t_longest_silence]
  refine seq_ fun V hr _ _ hV => ?_
  simp [dExpr, dCall, dCons, dNil, dVar, dst, sp_need_box]
  refine ⟨dkn_mono 50 55 b (by omega) kb, ?_⟩
  rcases h with ⟨e, h⟩ | ⟨k, bs, rfl, gb, h⟩
  · exact .inl ⟨e, h⟩
  refine .inr ⟨isBox_of gb, hV _ _ ?_⟩
  have g := gb.bs
  have lb := len_begs g
  have h' := Fz.here h
  refine seq_ fun V hr _ _ hV => ?_
  simp [dSet, dComp, dIter, dCall, dCons, dNil, dVar]
  refine ⟨k, bs, rfl, g, ?_⟩
  simp only [seqD]
  refine ⟨by rw [sizeLine_eq]; simp; omega, ?_⟩
  refine comp_1 (fun ss => .tup [silV bs ss, stD ss]) _ (fun ss hs R hR => ?_) (hV _ _ ?_)
  · simp [dTup, dCall, dCons, dNil, dVar, dwipe]
    exact ⟨k, bs, ss, rfl, g, begs_mem.mp hs, by rw [sizeLine_eq]; omega, hR⟩
  have eS : ∀ ss ∈ begs bs, silV bs ss = if muteB bs = true then .non else .int (silN bs ss) := fun ss hs => by
    unfold silV
    rw [mute_eq g (begs_mem.mp hs)]
  obtain ⟨s0, rest, eb⟩ := List.exists_cons_of_ne_nil (begs_ne g)
  refine seq_ fun V hr2 _ _ hV => ?_
  simp only [dIf, dB, dBin, dVar, dC, List.set, List.getElem?_cons_succ, List.getElem?_cons_zero]
  simp only [eb, List.map_cons, gIx, atI_zero]
  rw [eS s0 (by rw [eb]; exact List.mem_cons_self)]
  simp only [gIsN]
  unfold longV at h'
  refine ⟨fun e => ?_, fun e => hV _ _ ?_⟩
  · have : muteB bs = true := by
      cases q : muteB bs
      · rw [q] at e; simp [dIsN] at e
      · rfl
    rw [if_pos this] at h'
    simp [dRet, dC, hr2, dEnds]
    exact h'
  · have em : muteB bs = false := by
      cases q : muteB bs
      · rfl
      · rw [q] at e; simp [dIsN] at e
    rw [if_neg (by rw [em]; decide)] at h'
    have eL : ((D.tup [if muteB bs = true then D.non else D.int (silN bs s0), stD s0]) :: rest.map fun ss => D.tup [silV bs ss, stD ss]) = (begs bs).map fun ss => D.tup [.int (silN bs ss), stD ss] := by
      rw [eb, List.map_cons, em]
      simp only [Bool.false_eq_true, if_false, List.cons.injEq, true_and]
      refine List.map_congr_left fun ss hs => ?_
      rw [eS ss (by rw [eb]; exact List.mem_cons_of_mem _ hs), em]
      rfl
    have eL' : ((D.tup [silV bs s0, stD s0]) :: rest.map fun ss => D.tup [silV bs ss, stD ss]) = (begs bs).map fun ss => D.tup [.int (silN bs ss), stD ss] := by
      rw [← eL, eS s0 (by rw [eb]; exact List.mem_cons_self)]
    rw [eL]
    refine seq_ fun V hr3 _ _ hV => ?_
    simp [dSet, dApp, dCons, dNil, dComp, dIter, dVar, seqD]
    refine ⟨by rw [sizeLine_eq]; omega, ?_⟩
    refine comp_f (fun _ => true) (fun ss => .int (silN bs ss)) _ [] (fun ss hs R h1 _ => ?_) ?_
    · simp [dgT, dgCons, dgNil, dgN, dYes, dVar, dwipe]
      exact h1 rfl
    have e1 : ((begs bs).filter fun _ => true).map (fun ss => D.int (silN bs ss)) = ((begs bs).map (silN bs)).map fun n : Nat => D.int n := by
      rw [List.filter_eq_self.mpr (fun _ _ => rfl), List.map_map]; rfl
    rw [List.nil_append, e1]
    refine max_call (by simp [begs_ne g]) (hV _ _ ?_)
    simp [dRet, dTup, dCons, dNil, dComp, dIter, dVar, seqD]
    refine ⟨by rw [sizeLine_eq]; omega, ?_⟩
    refine comp_f (fun ss => decide (silN bs ss = longM bs)) stD _ [] (fun ss hs R h1 h2 => ?_) ?_
    · have en : mxN ((begs bs).map (silN bs)) = longM bs := rfl
      simp [dgT, dgCons, dgNil, dgN, dB, dBin, dVar, dwipe, gEq, dkn, dq_int, en]
      exact ⟨fun e => h1 (by simp only [decide_eq_true_eq]; omega), fun e => h2 (by simp only [decide_eq_false_iff_not]; omega)⟩
    · refine ⟨by rw [sizeLine_eq]; omega, ?_⟩
      simp [dEnds]
      exact h'
/-! fullest -/
def clen (bs : List Bar) (ss : List Int) : Nat := (heard bs ss 0).length
def fullM (bs : List Bar) : Nat := mxN ((begs bs).map (clen bs))
def fullV (bs : List Bar) : D := match (begs bs).filter fun ss => decide (clen bs ss = fullM bs) with | ss :: _ => .tup [.int (fullM bs), stD ss] | [] => .non
def sp_fullest (eB : Addr) : DSp := fun ds M P PX => ∃ b, ds = [b] ∧ dkn 50 b = true ∧ ((isBox b = false ∧ PX (.ref eB) none M) ∨ ∃ k bs, b = bxD k bs ∧ GBox k bs ∧ P (fullV bs) M)
theorem full_ne {bs : List Bar} (g : GBs bs) : (begs bs).filter (fun ss => decide (clen bs ss = fullM bs)) ≠ [] := by
  have := mxN_mem (l := (begs bs).map (clen bs)) (by simp [begs_ne g])
  obtain ⟨ss, hs, e⟩ := List.mem_map.mp this
  exact List.ne_nil_of_mem (List.mem_filter.mpr ⟨hs, by simp only [decide_eq_true_eq]; exact e⟩)
theorem l_fullest {eB : Addr} (ds : List D) (M : Mem) (P : D → Mem → Prop) (PX : DX) (h : sp_fullest eB ds M P PX) : t_fullest (sp_need_box eB) sp_all_beginnings sp_chord_at PX (dEnds P) (dst 5 ds) M := by
  obtain ⟨b, rfl, kb, h⟩ := h
  simp only [t_fullest]
  refine seq_ fun V hr _ _ hV => ?_
  simp [dExpr, dCall, dCons, dNil, dVar, dst, sp_need_box]
  refine ⟨dkn_mono 50 55 b (by omega) kb, ?_⟩
  rcases h with ⟨e, h⟩ | ⟨k, bs, rfl, gb, h⟩
  · exact .inl ⟨e, h⟩
  refine .inr ⟨isBox_of gb, hV _ _ ?_⟩
  have g := gb.bs
  have lb := len_begs g
  have h' := Fz.here h
  refine seq_ fun V hr _ _ hV => ?_
  simp [dSet, dComp, dIter, dCall, dCons, dNil, dVar]
  refine ⟨k, bs, rfl, g, ?_⟩
  simp only [seqD]
  refine ⟨by rw [sizeLine_eq]; simp; omega, ?_⟩
  refine comp_1 (fun ss => .tup [.int (clen bs ss), stD ss]) _ (fun ss hs R hR => ?_) (hV _ _ ?_)
  · have hl := heard_len bs ss 0
    simp [dTup, dApp, dCall, dCons, dNil, dVar, dC, dwipe]
    refine ⟨k, bs, ss, 0, rfl, begs_mem.mp hs, by have := g.2.1; omega, g.2.2, ?_⟩
    refine ⟨?_, by rw [sizeLine_eq]; omega, hR⟩
    show (heard bs ss 0).length ≤ sizeLine
    rw [sizeLine_eq]; omega
  refine seq_ fun V hr3 _ _ hV => ?_
  simp [dSet, dApp, dCons, dNil, dComp, dIter, dVar, seqD]
  refine ⟨by rw [sizeLine_eq]; omega, ?_⟩
  refine comp_f (fun _ => true) (fun ss => .int (clen bs ss)) _ [] (fun ss hs R h1 _ => ?_) ?_
  · simp [dgT, dgCons, dgNil, dgN, dYes, dVar, dwipe]
    exact h1 rfl
  have e1 : ((begs bs).filter fun _ => true).map (fun ss => D.int (clen bs ss)) = ((begs bs).map (clen bs)).map fun n : Nat => D.int n := by
    rw [List.filter_eq_self.mpr (fun _ _ => rfl), List.map_map]; rfl
  rw [List.nil_append, e1]
  refine max_call (by simp [begs_ne g]) (hV _ _ ?_)
  simp [dRet, dTup, dCons, dNil, dBin, dComp, dIter, dVar, dC, seqD]
  refine ⟨by rw [sizeLine_eq]; omega, ?_⟩
  refine comp_f (fun ss => decide (clen bs ss = fullM bs)) stD _ [] (fun ss hs R h1 h2 => ?_) ?_
  · have en : mxN ((begs bs).map (clen bs)) = fullM bs := rfl
    simp [dgT, dgCons, dgNil, dgN, dB, dBin, dVar, dwipe, gEq, dkn, dq_int, en]
    exact ⟨fun e => h1 (by simp only [decide_eq_true_eq]; omega), fun e => h2 (by simp only [decide_eq_false_iff_not]; omega)⟩
  · unfold fullV at h'
    obtain ⟨s0, rest, es⟩ := List.exists_cons_of_ne_nil (full_ne g)
    rw [es] at h' ⊢
    simp [gIx, atI_zero, dEnds]
    exact ⟨by rw [sizeLine_eq]; omega, h'⟩
end DL

set_option Elab.async false
set_option linter.all false
set_option maxRecDepth 100000
set_option maxHeartbeats 4000000
namespace DL
open PySem PySem.Spec PyProof.Rows L2
def sp_law_tune : DSp := fun ds M P _ => ∃ (k : Int) (bs : List Bar) (ss : List Int) (n : Nat), ds = [bxD k bs, stD ss, .int n] ∧ (∀ b ∈ bs, GBar b) ∧ bs.length ≤ 3 ∧ GSt bs ss ∧ n ≤ 100000 ∧ P (.tup ((List.range n).map fun j : Nat => sD (heard bs ss j))) M
theorem l_law_tune (ds : List D) (M : Mem) (P : D → Mem → Prop) (PX : DX) (h : sp_law_tune ds M P PX) : t_law_tune sp_law_heard PX (dEnds P) (dst 4 ds) M := by
  obtain ⟨k, bs, ss, n, rfl, gb, gl, gs, hn, h⟩ := h
  have h' := Fz.here h
  simp [t_law_tune, dRet, dApp, dCons, dNil, dComp, dRng1, dVar, dst, dEnds, upto0]
  refine ⟨by omega, by rw [sizeLine_eq]; omega, ?_⟩
  refine comp_1 (fun j : Nat => sD (heard bs ss j)) _ (fun j hj R hR => ?_) ?_
  · simp [dCall, dCons, dNil, dVar, dwipe]
    exact ⟨k, bs, ss, j, rfl, gb, gl, gs, hR⟩
  · exact h'
theorem sil_three (bs : List Bar) (ss : List Int) : sil bs ss (3 * perN bs) = sil bs ss (perN bs) ++ sil bs ss (perN bs) ++ sil bs ss (perN bs) := by
  rw [show 3 * perN bs = perN bs + (perN bs + perN bs) by omega, sil_add, sil_add, List.append_assoc]
theorem mk1_mem (l : List Bool) : 35 ∈ l.map mk1 ↔ false ∈ l := by
  rw [List.mem_map]
  constructor
  · rintro ⟨x, hx, e⟩
    cases x
    · exact hx
    · simp [mk1] at e
  · intro h; exact ⟨false, h, rfl⟩
def sp_law_quiet : DSp := fun ds M P _ => ∃ k bs ss, ds = [bxD k bs, stD ss] ∧ GBs bs ∧ GSt bs ss ∧ P (silV bs ss) M
theorem l_law_quiet (ds : List D) (M : Mem) (P : D → Mem → Prop) (PX : DX) (h : sp_law_quiet ds M P PX) : t_law_quiet sp_law_tune sp_law_size PX (dEnds P) (dst 6 ds) M := by
  obtain ⟨k, bs, ss, rfl, g, gs, h⟩ := h
  have h' := Fz.here h
  have pl := perN_le g
  have pp := perN_pos g
  simp only [t_law_quiet]
  refine seq_ fun V hr _ _ hV => ?_
  simp [dSet, dCall, dCons, dNil, dBin, dVar, dC, dst]
  refine ⟨k, bs, rfl, g, ?_⟩
  simp [gMul, CMul]
  refine ⟨k, bs, ss, 3 * perN bs, by simp, g.2.2, g.2.1, gs, by omega, hV _ _ ?_⟩
  refine seq_ fun V hr _ _ hV => ?_
  simp [dSet, dJoin, dComp, dIter, dVar, dC, seqD]
  refine ⟨by rw [sizeLine_eq]; omega, ?_⟩
  refine comp_1 (fun j : Nat => sD [mk1 (decide (heard bs ss j = []))]) _ (fun j hj R hR => ?_) ?_
  · simp [dIfE, dB, dBin, dVar, dC, dwipe, gEq, dq_snil]
    refine ⟨⟨dkn_heard _ _ _ _, by decide +kernel⟩, fun e => ?_, fun e => ?_⟩
    · rw [show mk1 (decide (heard bs ss j = [])) = 46 by simp [mk1, e]] at hR; exact hR
    · rw [show mk1 (decide (heard bs ss j = [])) = 35 by simp [mk1, e]] at hR; exact hR
  have e1 : (List.range (3 * perN bs)).map (fun j : Nat => sD [mk1 (decide (heard bs ss j = []))]) = ((sil bs ss (3 * perN bs)).map mk1).map fun c => sD [c] := by
    unfold sil
    rw [List.map_map, List.map_map]; rfl
  have ls : (sil bs ss (3 * perN bs)).length = 3 * perN bs := by simp [sil]
  simp only [e1]
  refine join_chars (by rw [List.length_map, ls]; omega) (hV _ _ ?_)
  have em : false ∈ sil bs ss (perN bs) ↔ mute bs ss = false := by
    unfold mute
    rw [List.all_eq_false]
    simp
  have ein : decide (35 ∈ (sil bs ss (3 * perN bs)).map mk1) = !mute bs ss := by
    rw [Bool.eq_iff_iff, decide_eq_true_iff, mk1_mem, sil_three]
    simp only [List.mem_append, or_self, Bool.not_eq_true']
    exact em
  have ein2 : strIn (sN [35]) (sN ((sil bs ss (3 * perN bs)).map mk1)) = !mute bs ss := by rw [strIn_one, ein]
  refine seq_ fun V hr _ _ hV => ?_
  simp only [dIf, dB, dBin, dVar, dC, List.set, List.getElem?_cons_succ, List.getElem?_cons_zero, gIn]
  simp only [show (Str.ofString "#") = sN [35] from rfl, ein2]
  unfold silV at h'
  refine ⟨fun e => ?_, fun e => hV _ _ ?_⟩
  · have e' : mute bs ss = true := by simpa using e
    rw [if_pos e'] at h'
    simp [dRet, dC, hr, dEnds]
    exact h'
  · have e' : mute bs ss = false := by simpa using e
    rw [if_neg (by rw [e']; decide)] at h'
    simp only [dRet, dApp, dCons, dNil, dComp, dIter, dSplit, dVar, dC, List.set, List.getElem?_cons_succ, List.getElem?_cons_zero]
    have sp : Txt.split (sN ((sil bs ss (3 * perN bs)).map mk1)) (sN [35]) = (TL.spl [35] 0 [] ((sil bs ss (3 * perN bs)).map mk1)).map sN := _root_.SX.split_S (by decide) (by decide)
    simp only [show (Str.ofString "#") = sN [35] from rfl, sp]
    refine ⟨⟨rfl, by show ((sil bs ss (3 * perN bs)).map mk1).length + 2 ≤ _; rw [sizeLine_eq, List.length_map, ls]; omega⟩, ?_⟩
    simp only [seqD, List.map_map]
    have sl : (TL.spl [35] 0 [] ((sil bs ss (3 * perN bs)).map mk1)).map List.length = pls 0 (sil bs ss (3 * perN bs)) := spl_pls _ []
    have pls_len : ∀ (l : List Bool) (a : Nat), (pls a l).length ≤ l.length + 1 := by
      intro l
      induction l with
      | nil => intro a; simp [pls]
      | cons x l ih => intro a; cases x <;> simp [pls]; exact ih 0; exact Nat.le_trans (ih _) (by omega)
    have nl : (TL.spl [35] 0 [] ((sil bs ss (3 * perN bs)).map mk1)).length ≤ 3 * perN bs + 1 := by
      have := pls_len (sil bs ss (3 * perN bs)) 0
      rw [← sl, List.length_map, ls] at this
      exact this
    have el : ∀ x ∈ TL.spl [35] 0 [] ((sil bs ss (3 * perN bs)).map mk1), x.length ≤ sizeLine := fun x hx => by
      have h1 := mxN_le (List.mem_map_of_mem (f := List.length) hx)
      rw [sl] at h1
      have h2 := pls_fold (sil bs ss (3 * perN bs)) 0 0 (Nat.le_refl _)
      have h3 : ∀ (l : List Bool) (f a : Nat), (l.foldl rstep (f, a)).1 ≤ max f a + l.length := by
        intro l
        induction l with
        | nil => intro f a; simp; omega
        | cons y l ih =>
          intro f a
          rw [List.foldl_cons]
          refine Nat.le_trans (ih _ _) ?_
          cases y <;> simp [rstep] <;> omega
      have h4 := h3 (sil bs ss (3 * perN bs)) 0 0
      rw [h2, ls] at h4
      rw [sizeLine_eq]
      omega
    refine ⟨by rw [sizeLine_eq, List.length_map]; omega, ?_⟩
    refine comp_1 (fun x : List Nat => .int x.length) _ (fun x hx R hR => ?_) ?_
    · simp [dApp, dCons, dNil, dVar, dwipe, gLen]
      refine ⟨?_, ?_⟩
      · have := el x hx
        exact this
      · exact hR
    · have e2 : (TL.spl [35] 0 [] ((sil bs ss (3 * perN bs)).map mk1)).map (fun x => D.int x.length) = (pls 0 (sil bs ss (3 * perN bs))).map fun n : Nat => D.int n := by
        rw [← sl, List.map_map]; rfl
      rw [e2]
      have pne : pls 0 (sil bs ss (3 * perN bs)) ≠ [] := by
        intro z
        have := pls_ge (sil bs ss (3 * perN bs)) 0
        cases q : sil bs ss (3 * perN bs) with
        | nil => rw [q] at z; simp [pls] at z
        | cons y l =>
          rw [q] at z
          have : ∀ (l : List Bool) (a : Nat), pls a l ≠ [] := by
            intro l
            induction l with
            | nil => intro a; simp [pls]
            | cons x l ih => intro a; cases x <;> simp [pls]; exact ih _
          exact this _ _ z
      refine max_call pne ?_
      have h2 := pls_fold (sil bs ss (3 * perN bs)) 0 0 (Nat.le_refl _)
      rw [Nat.zero_max] at h2
      rw [← h2, sil_three, rthree (em.mpr e')]
      exact h'
end DL

set_option Elab.async false
set_option linter.all false
set_option maxRecDepth 100000
set_option maxHeartbeats 4000000
namespace DL
open PySem PySem.Spec PyProof.Rows L2
theorem mxN_snoc (l : List Nat) (x : Nat) : mxN (l ++ [x]) = max (mxN l) x := by
  induction l with
  | nil => simp [mxN]
  | cons y l ih => show max y (mxN (l ++ [x])) = max (max y (mxN l)) x; rw [ih]; omega
def sp_law_good_k05 : DSp := fun ds M P _ => ∃ k bs, ds = [bxD k bs] ∧ GBox k bs ∧ P (.bl true) M
theorem silence_call {eB eS : Addr} {k : Int} {bs : List Bar} {ss : List Int} {M : Mem} {P : D → Mem → Prop} {PX : DX} (gb : GBox k bs) (gs : GSt bs ss) (q : P (silV bs ss) M) : sp_silence eB eS [bxD k bs, stD ss] M P PX :=
  ⟨_, _, rfl, dkn_bx gb.2.2.2.2, dkn_st, .inr ⟨k, bs, rfl, gb, .inr ⟨ss, rfl, gs, q⟩⟩⟩
theorem long_call {eB : Addr} {k : Int} {bs : List Bar} {M : Mem} {P : D → Mem → Prop} {PX : DX} (gb : GBox k bs) (q : P (longV bs) M) : sp_longest_silence eB [bxD k bs] M P PX :=
  ⟨_, rfl, dkn_bx gb.2.2.2.2, .inr ⟨k, bs, rfl, gb, q⟩⟩
theorem full_call {eB : Addr} {k : Int} {bs : List Bar} {M : Mem} {P : D → Mem → Prop} {PX : DX} (gb : GBox k bs) (q : P (fullV bs) M) : sp_fullest eB [bxD k bs] M P PX :=
  ⟨_, rfl, dkn_bx gb.2.2.2.2, .inr ⟨k, bs, rfl, gb, q⟩⟩
theorem dsm_silV (bs : List Bar) (ss : List Int) (n : Nat) : dsm n (silV bs ss) = true := by
  unfold silV; split
  · exact dsm_non n
  · exact dsm_int n _
theorem dsm_st {ss : List Int} {n : Nat} (h : ss.length ≤ 1000) : dsm (n + 1) (stD ss) = true := by
  simp only [stD, dsm, Bool.and_eq_true, decide_eq_true_eq, List.length_map, List.all_eq_true]
  refine ⟨by omega, fun y hy => ?_⟩
  obtain ⟨l, hl, rfl⟩ := List.mem_map.mp hy
  exact dsm_int _ _
theorem begs_len {bs : List Bar} {ss : List Int} (h : ss ∈ begs bs) : ss.length = bs.length := (begs_mem.mp h).len
theorem dsm_sts {bs : List Bar} {l : List (List Int)} {n : Nat} (g : GBs bs) (hl : ∀ ss ∈ l, ss ∈ begs bs) (hz : l.length ≤ 1000) : dsm (n + 2) (.lst (l.map stD)) = true := by
  simp only [dsm, Bool.and_eq_true, decide_eq_true_eq, List.length_map, List.all_eq_true]
  refine ⟨by omega, fun y hy => ?_⟩
  obtain ⟨ss, hs, rfl⟩ := List.mem_map.mp hy
  exact dsm_st (by rw [begs_len (hl ss hs)]; have := g.2.1; omega)
theorem dsm_tup2 {n : Nat} {a b : D} (ha : dsm n a = true) (hb : dsm n b = true) : dsm (n + 1) (.tup [a, b]) = true := by
  simp [dsm, ha, hb]
theorem dsm_longV {bs : List Bar} (g : GBs bs) : dsm 3 (longV bs) = true := by
  unfold longV; split
  · exact dsm_non 3
  · have := dsm_sts (n := 0) (l := (begs bs).filter fun ss => decide (silN bs ss = longM bs)) g (fun ss hs => (List.mem_filter.mp hs).1) (Nat.le_trans (List.length_filter_le _ _) (Nat.le_trans (len_begs g) (by decide)))
    exact dsm_tup2 (dsm_int _ _) this
theorem dsm_fullV {bs : List Bar} (g : GBs bs) : dsm 3 (fullV bs) = true := by
  unfold fullV
  split
  · rename_i ss rest e
    have hs : ss ∈ begs bs := (List.mem_filter.mp (by rw [e]; exact List.mem_cons_self)).1
    have := dsm_st (n := 1) (ss := ss) (by rw [begs_len hs]; have := g.2.1; omega)
    exact dsm_tup2 (dsm_int _ _) this
  · exact dsm_non 3
theorem l_law_good_k05 {eB eS : Addr} (ds : List D) (M : Mem) (P : D → Mem → Prop) (PX : DX) (h : sp_law_good_k05 ds M P PX) :
    t_law_good_k05 sp_law_starts sp_law_quiet (sp_law_same 3) (sp_silence eB eS) sp_law_heard (sp_fullest eB) (sp_longest_silence eB) PX (dEnds P) (dst 9 ds) M := by
  obtain ⟨k, bs, rfl, gb, h⟩ := h
  have g := gb.bs
  have lb := len_begs g
  have h' := Fz.here h
  simp only [t_law_good_k05]
  refine seq_ fun V hr _ _ hV => ?_
  simp only [dPar3, dCons, dLstH, dNil, dC, dst]
  refine ⟨Nat.zero_le _, fun q nq => ?_⟩
  refine hV _ _ ?_
  simp only [List.map_cons, List.map_nil, List.length_cons, List.length_nil, List.replicate, List.cons_append, List.nil_append, List.set]
  refine seq_ fun V hr _ _ hV => ?_
  simp [dFor, dIter, dCall, dCons, dNil, dVar]
  refine ⟨k, bs, rfl, g, ?_⟩
  simp only [seqD]
  refine for_pre (begs bs) (fun pre ds M' => ∃ (m : Nat) (fi : D) (x4 x5 x6 : Option D), ds = [some (bxD k bs), some (.ref q), some (.int m), some fi, x4, x5, x6, none, none] ∧ M' = mput M q (some (.lst (pre.map fun ss => .tup [silV bs ss, stD ss]))) ∧
    ((pre = [] ∧ m = 0 ∧ fi = .non) ∨ (m = mxN (pre.map (clen bs)) ∧ ∃ s0 rest, pre.filter (fun ss => decide (clen bs ss = m)) = s0 :: rest ∧ fi = stD s0))) (fun ss pre post e ds M' hI V hr hV => ?_) ⟨0, .non, none, none, none, rfl, rfl, .inl ⟨rfl, rfl, rfl⟩⟩ (fun ds M' hI => ?_)
  · obtain ⟨m, fi, x4, x5, x6, rfl, rfl, hm⟩ := hI
    have hs : ss ∈ begs bs := by rw [e]; simp
    have gs := begs_mem.mp hs
    have pl : pre.length ≤ 343 := by
      have := congrArg List.length e
      simp at this; omega
    simp only [dgN, List.set]
    refine seq_ fun V2 hr2 _ _ hV2 => ?_
    simp [dSet, dCall, dCons, dNil, dVar]
    refine ⟨k, bs, ss, rfl, g, gs, hV2 _ _ ?_⟩
    refine seq_ fun V2 hr2 _ _ hV2 => ?_
    simp [dIf, dNot, dB, dCall, dCons, dNil, dVar]
    refine silence_call gb gs (same_call (dsm_silV _ _ _) ?_)
    simp [dSkip]
    refine hV2 _ _ ?_
    refine seq_ fun V2 hr2 _ _ hV2 => ?_
    simp [dExpr, dAppend, dTup, dCons, dNil, dVar, mput_same]
    refine ⟨by rw [sizeLine_eq]; omega, by rw [sizeLine_eq]; omega, hV2 _ _ ?_⟩
    rw [mput_mput]
    refine seq_ fun V2 hr2 _ _ hV2 => ?_
    have hl := heard_len bs ss 0
    simp [dSet, dApp, dCall, dCons, dNil, dVar, dC]
    refine ⟨k, bs, ss, 0, rfl, g.2.2, g.2.1, gs, ?_⟩
    refine ⟨by show (heard bs ss 0).length ≤ sizeLine; rw [sizeLine_eq]; omega, hV2 _ _ ?_⟩
    show dIf _ _ _ _ [_, _, _, _, _, _, some (.int (clen bs ss)), _, _] _
    simp [dIf, dOr, dB, dBin, dVar, dC, gIsN, gGt, gI, gIC, dPar, dCons, dNil, dSkip]
    have fin : ∀ (m' : Nat) (fi' : D), (m' = mxN ((pre ++ [ss]).map (clen bs)) ∧ ∃ s0 rest, (pre ++ [ss]).filter (fun ss => decide (clen bs ss = m')) = s0 :: rest ∧ fi' = stD s0) →
        V.nx [some (bxD k bs), some (.ref q), some (.int m'), some fi', some (stD ss), some (silV bs ss), some (.int (clen bs ss)), none, none] (mput M q (some (.lst (pre.map (fun ss => .tup [silV bs ss, stD ss]) ++ [.tup [silV bs ss, stD ss]])))) := fun m' fi' hh =>
      hV _ _ ⟨m', fi', _, _, _, rfl, by simp, .inr hh⟩
    rcases hm with ⟨rfl, rfl, rfl⟩ | ⟨em, s0, rest, ef, rfl⟩
    · simp [dIsN]
      have := fin (clen bs ss) (stD ss) ⟨by simp [mxN], ss, [], by simp, rfl⟩
      simpa using this
    · simp [dIsN, stD]
      have mle : ∀ x ∈ pre, clen bs x ≤ m := fun x hx => by rw [em]; exact mxN_le (List.mem_map_of_mem hx)
      refine ⟨fun hlt => ?_, fun hle => ?_⟩
      · have ep : pre.filter (fun x => decide (clen bs x = clen bs ss)) = [] := List.filter_eq_nil_iff.mpr fun x hx => by
          have := mle x hx
          simp; omega
        have := fin (clen bs ss) (stD ss) ⟨by rw [List.map_append]; show _ = mxN (_ ++ [clen bs ss]); rw [mxN_snoc, ← em]; omega, ss, [], by rw [List.filter_append, ep]; simp, rfl⟩
        simpa [stD] using this
      · have := fin m (stD s0) ⟨by rw [List.map_append]; show _ = mxN (_ ++ [clen bs ss]); rw [mxN_snoc, ← em]; omega, s0, _, by rw [List.filter_append, ef, List.cons_append], rfl⟩
        simpa [stD] using this
  obtain ⟨m, fi, x4, x5, x6, rfl, rfl, hm⟩ := hI
  refine hV _ _ ?_
  have hm' : m = fullM bs ∧ ∃ s0 rest, (begs bs).filter (fun ss => decide (clen bs ss = m)) = s0 :: rest ∧ fi = stD s0 := by
    rcases hm with ⟨e, _⟩ | hm
    · exact absurd e (begs_ne g)
    · exact hm
  obtain ⟨rfl, s0, rest, ef, rfl⟩ := hm'
  have eV : fullV bs = .tup [.int (fullM bs), stD s0] := by unfold fullV; rw [ef]
  refine seq_ fun V hr _ _ hV => ?_
  simp [dIf, dNot, dB, dCall, dTup, dCons, dNil, dVar]
  refine full_call gb ⟨by rw [sizeLine_eq]; omega, ?_⟩
  rw [← eV]
  refine same_call (dsm_fullV g) ?_
  simp [dSkip]
  refine hV _ _ ?_
  refine seq_ fun V hr _ _ hV => ?_
  simp [dSet, dC]
  refine hV _ _ ?_
  refine seq_ fun V hr _ _ hV => ?_
  have cold : mput (mput M q (some (.lst ((begs bs).map fun ss => .tup [silV bs ss, stD ss])))) q none = M := by rw [mput_mput]; exact mput_self nq
  refine ⟨q, _, rfl, mput_same, ?_⟩
  rw [cold]
  simp only [List.set]
  have eS : ∀ ss ∈ begs bs, silV bs ss = if muteB bs = true then .non else .int (silN bs ss) := fun ss hs => by
    unfold silV
    rw [mute_eq g (begs_mem.mp hs)]
  have eM : ((begs bs).map fun ss => D.tup [silV bs ss, stD ss]) = (begs bs).map fun ss => D.tup [if muteB bs = true then .non else .int (silN bs ss), stD ss] := List.map_congr_left fun ss hs => by rw [eS ss hs]
  rw [eM]
  obtain ⟨s1, rest1, eb⟩ := List.exists_cons_of_ne_nil (begs_ne g)
  have a0 : atI ((begs bs).map fun ss => D.tup [if muteB bs = true then .non else .int (silN bs ss), stD ss]) 0 = some (.tup [if muteB bs = true then .non else .int (silN bs s1), stD s1]) := by rw [eb]; exact atI_zero
  have fin : ∀ x8 : Option D, ∀ x5 : Option D, V.nx [some (bxD k bs), some (.lst ((begs bs).map fun ss => .tup [if muteB bs = true then .non else .int (silN bs ss), stD ss])), some (.int (fullM bs)), some (stD s0), x4, x5, x6, some (longV bs), x8] M := fun x8 x5 => hV _ _ (by
    simp [dRet, dCall, dCons, dNil, dVar]
    refine long_call gb (same_call (dsm_longV g) ?_)
    exact h')
  simp only [dIf, dB, dBin, dVar, dC, List.getElem?_cons_succ, List.getElem?_cons_zero, gIx, a0, atI_zero, gNotN]
  cases hmu : muteB bs with
  | true =>
    refine ⟨fun z => by simp [dIsN] at z, fun _ => ?_⟩
    have := fin none x5
    unfold longV at this
    rw [hmu, if_pos rfl] at this
    simpa [dSkip] using this
  | false =>
    refine ⟨fun _ => ?_, fun z => by simp [dIsN] at z⟩
    simp only [Bool.false_eq_true, if_false]
    refine seq_ fun V2 hr2 _ _ hV2 => ?_
    simp [dSet, dApp, dCons, dNil, dComp, dIter, dVar, seqD]
    refine ⟨by rw [sizeLine_eq]; omega, ?_⟩
    refine comp_f (fun _ => true) (fun ss => .int (silN bs ss)) _ [] (fun ss hs R h1 _ => ?_) ?_
    · simp [dgT, dgCons, dgNil, dgN, dYes, dVar, dwipe]
      exact h1 rfl
    have e1 : ((begs bs).filter fun _ => true).map (fun ss => D.int (silN bs ss)) = ((begs bs).map (silN bs)).map fun n : Nat => D.int n := by
      rw [List.filter_eq_self.mpr (fun _ _ => rfl), List.map_map]; rfl
    rw [List.nil_append, e1]
    refine max_call (by simp [begs_ne g]) (hV2 _ _ ?_)
    simp [dSet, dTup, dCons, dNil, dComp, dIter, dVar, seqD]
    refine ⟨by rw [sizeLine_eq]; omega, ?_⟩
    refine comp_f (fun ss => decide (silN bs ss = longM bs)) stD _ [] (fun ss hs R h1 h2 => ?_) ?_
    · have en : mxN ((begs bs).map (silN bs)) = longM bs := rfl
      simp [dgT, dgCons, dgNil, dgN, dB, dBin, dVar, dwipe, gEq, dkn, dq_int, en]
      exact ⟨fun e => h1 (by simp only [decide_eq_true_eq]; omega), fun e => h2 (by simp only [decide_eq_false_iff_not]; omega)⟩
    · refine ⟨by rw [sizeLine_eq]; omega, ?_⟩
      have := fin (some (.int (longM bs))) x5
      unfold longV at this
      rw [hmu] at this
      simpa [longM] using this
end DL

set_option Elab.async false
set_option linter.all false
set_option maxRecDepth 100000
set_option maxHeartbeats 4000000
namespace DL
open PySem PySem.Spec PyProof.Rows L2
theorem cutD_ints {ns : List Int} {x : D} {n : Int} (h : x ∈ cutD (.int 0 :: ns.map D.int) none (some n)) : ∃ c, x = .int c := by
  have := cutD_mem h
  rcases List.mem_cons.mp this with rfl | h
  · exact ⟨0, rfl⟩
  · obtain ⟨i, _, rfl⟩ := List.mem_map.mp h
    exact ⟨i, rfl⟩
section
variable {K : Fg} {mg : Str → Option Value} {sk : DSpE} {T : List (Addr × Str)} {Pt eB eS fl ff : Addr} {fv : Addr → DSp → Prop}
theorem l_law_k05 (hB : Lbl K mg sk eB "box +") (hS : Lbl K mg sk eS "beginning +")
    (v1 : fv fl (sp_longest_silence eB)) (v2 : fv ff (sp_fullest eB)) (a : Addr) (ns : List Int) (hns : ns.length ≤ 63) :
    t_law_k05 sp_law_known sp_law_deck sp_law_a_box sp_law_good_k05 (sp_silence eB eS) (sp_longest_silence eB) (sp_fullest eB) (.ref ff) (.ref fl) fv (dTry K mg sk T Pt) (dScr a ns) DX0 (dEnds fun d _ => d = .bl true) (dst 12 [.ref a]) (memT Pt T) := by
  have z : ∀ n : Nat, n ≤ 20 → n ≤ sizeLine := fun n h => by rw [sizeLine_eq]; omega
  have g1 : GBox 0 [[[97], [98]]] := isBoxG _ _ (by decide +kernel)
  have g2 : GBox 1 [[[97], [], [98]], [[98], []]] := isBoxG _ _ (by decide +kernel)
  have g4 : GBox 0 [[[], []]] := isBoxG _ _ (by decide +kernel)
  simp only [t_law_k05]
  refine seq_ fun V hr _ _ hV => ?_
  simp only [dAsg, dCall, dNil]
  refine ⟨rfl, ?_⟩
  simp only [dgT, dgCons, dgNil, dgN, dst, List.map_cons, List.map_nil, List.length_cons, List.length_nil, List.replicate, List.cons_append, List.nil_append, List.set]
  refine ⟨trivial, hV _ _ ?_⟩
  refine seq_ fun V hr _ _ hV => ?_
  simp only [dFor, dIter, dSlice, dScr, dNoPart, dPart, dC, seqD]
  refine ⟨rfl, ?_⟩
  refine forL_decW (fun k ds M' => (∃ x5 x6 x7 x8 x9 x10 x11 : Option D, ds = [some (.ref a), some bxK1, some bxK2, some bxK3, some bxK4, x5, x6, x7, x8, x9, x10, x11]) ∧ TabOk T Pt M') _ _ _ (fun x hx k ds M hI V hV hR => ?_) ⟨⟨_, _, _, _, _, _, _, rfl⟩, memT_ok⟩ ?_
  · clear hr
    obtain ⟨⟨x5, x6, x7, x8, x9, x10, x11, rfl⟩, hM⟩ := hI
    obtain ⟨c, rfl⟩ := cutD_ints hx
    simp only [dgN, List.set]
    refine seq_ fun V1 _ _ _ hV1 => ?_
    simp [dSet, dCall, dCons, dNil, dVar, dC]
    refine ⟨c, 5, rfl, by decide, by decide, fun p M1 np kp1 hd1 => ?_⟩
    have pne : p ≠ Pt := fun e => by rw [e, hM.1] at np; cases np
    have hM1 := hM.kp kp1 pne
    refine hV1 _ _ ?_
    refine seq_ fun V1 _ _ _ hV1 => ?_
    simp [dFor, dIter, dLst, dCall, dCons, dNil, dVar, dC]
    refine ⟨p, 4, 600, rfl, by decide, by decide, hd1.less (by decide), fun k1 b1 M2 gb1 _ kp2 hd2 => ?_⟩
    refine ⟨p, 5, 300, rfl, by decide, by decide, hd2, fun k2 b2 M3 gb2 _ kp3 hd3 => ?_⟩
    refine ⟨p, 3, 0, rfl, by decide, by decide, hd3, fun k3 b3 M4 gb3 _ kp4 hd4 => ?_⟩
    have hM4 := hM1.kp ((kp2.trans kp3).trans kp4) pne
    simp only [seqD]
    refine ⟨z _ (by decide), ?_⟩
    refine forL_decW (fun j ds M' => ∃ x7 : Option D, ds = [some (.ref a), some bxK1, some bxK2, some bxK3, some bxK4, some (.int c), some (.ref p), x7, x8, x9, x10, x11] ∧ M' = M4) _ _ _ (fun x hx j ds M hI V3 hV3 hR3 => ?_) ⟨x7, rfl, rfl⟩ ?_
    · obtain ⟨x7, rfl, rfl⟩ := hI
      obtain ⟨kk, bs, rfl, gb⟩ : ∃ kk bs, x = bxD kk bs ∧ GBox kk bs := by
        simp only [List.mem_cons, List.not_mem_nil, or_false] at hx
        rcases hx with rfl | rfl | rfl
        · exact ⟨_, _, rfl, gb1⟩
        · exact ⟨_, _, rfl, gb2⟩
        · exact ⟨_, _, rfl, gb3⟩
      simp [dgN, dIf, dNot, dB, dCall, dCons, dNil, dVar]
      refine ⟨kk, bs, rfl, gb, ?_⟩
      simp [dSkip]
      exact hV3 _ _ ⟨_, rfl, rfl⟩
    rintro ds M' ⟨x7, rfl, rfl⟩
    refine hV1 _ _ ?_
    refine seq_ fun V1 _ _ _ hV1 => ?_
    simp only [dFor, dIter, dTup, dCons, dNil, dC, seqD, List.length_cons, List.length_nil]
    refine ⟨z _ (by decide), ?_⟩
    refine forL_decW (fun j ds M2 => ∃ x8 : Option D, ds = [some (.ref a), some bxK1, some bxK2, some bxK3, some bxK4, some (.int c), some (.ref p), x7, x8, x9, x10, x11] ∧ M2 = M') _ _ _ (fun x hx j ds M hI V3 hV3 hR3 => ?_) ⟨x8, rfl, rfl⟩ ?_
    · obtain ⟨x8, rfl, rfl⟩ := hI
      simp only [dgN, List.set]
      refine try_ne hM4 hB (by decide +kernel) (fun PX P h => ?_) (hV3 _ _ ⟨_, rfl, rfl⟩)
      simp only [List.mem_cons, List.not_mem_nil, or_false] at hx
      rcases hx with rfl | rfl
      · exact ⟨fl, _, rfl, v1, _, rfl, by decide +kernel, .inl ⟨by decide +kernel, h⟩⟩
      · exact ⟨ff, _, rfl, v2, _, rfl, by decide +kernel, .inl ⟨by decide +kernel, h⟩⟩
    rintro ds M2 ⟨x8, rfl, rfl⟩
    refine hV1 _ _ ?_
    refine seq_ fun V1 _ _ _ hV1 => ?_
    refine try_ne hM4 hB (by decide +kernel) (fun PX P h => ?_) (hV1 _ _ ?_)
    · exact ⟨_, _, rfl, rfl, rfl, .inl ⟨rfl, h⟩⟩
    refine try_ne hM4 hS (by decide +kernel) (fun PX P h => ?_) (hV _ _ ⟨⟨_, _, _, _, _, _, _, rfl⟩, hM4⟩)
    exact ⟨z _ (by decide), _, _, rfl, by decide +kernel, by decide +kernel, .inr ⟨_, _, rfl, g2, .inl ⟨by decide +kernel, h⟩⟩⟩
  · rintro ds M ⟨⟨x5, x6, x7, x8, x9, x10, x11, rfl⟩, hM⟩
    refine hV _ _ ?_
    clear hV
    have sc : ∀ (k : Int) (bs : List Bar) (ss : List Int) (M : Mem) (P : D → Mem → Prop) (PX : DX), GBox k bs → GSt bs ss → P (silV bs ss) M → sp_silence eB eS [bxD k bs, stD ss] M P PX := fun k bs ss M P PX gb gs q => silence_call gb gs q
    refine seq_ fun V hr _ _ hV => ?_
    refine ne_skip (v := .lst [.int 1, .int 0]) (by decide +kernel) (fun P q => ?_) (fun P q => ?_) (hV _ _ ?_)
    · simp only [dLst, dCall, dCons, dNil, dTup, dC, dVar, List.getElem?_cons_succ, List.getElem?_cons_zero, List.length_cons, List.length_nil]
      refine ⟨z _ (by decide), sc 1 _ [0, 1] _ _ _ g2 (by simp [GSt]) ⟨z _ (by decide), sc 0 _ [0] _ _ _ g1 (by simp [GSt]) ⟨z _ (by decide), ?_⟩⟩⟩
      have e1 : silV [[[97], [], [98]], [[98], []]] [0, 1] = .int 1 := by kernel_rfl
      have e2 : silV [[[97], [98]]] [0] = .int 0 := by kernel_rfl
      rw [e1, e2]
      exact q
    · simp only [dLst, dCons, dNil, dC, List.length_cons, List.length_nil]
      exact ⟨z _ (by decide), q⟩
    refine seq_ fun V hr _ _ hV => ?_
    refine if_no (no_or (no_notN fun P q => ?_) (no_notN fun P q => ?_)) (hV _ _ ?_)
    · simp only [dCall, dCons, dNil, dTup, dC, dVar, List.getElem?_cons_succ, List.getElem?_cons_zero, List.length_cons, List.length_nil]
      refine ⟨z _ (by decide), sc 0 _ [0] _ _ _ g4 (by simp [GSt]) ?_⟩
      have e1 : silV [[[], []]] [0] = .non := by kernel_rfl
      rw [e1]; exact q
    · simp only [dCall, dCons, dNil, dC, dVar, List.getElem?_cons_succ, List.getElem?_cons_zero]
      refine long_call g4 ?_
      have e1 : longV [[[], []]] = .non := by kernel_rfl
      rw [e1]; exact q
    refine seq_ fun V hr _ _ hV => ?_
    simp only [dSet, dLst, dTup, dCons, dNil, dC, List.length_cons, List.length_nil]
    refine ⟨z _ (by decide), z _ (by decide), z _ (by decide), z _ (by decide), z _ (by decide), z _ (by decide), z _ (by decide), hV _ _ ?_⟩
    refine seq_ fun V hr _ _ hV => ?_
    have g5 : GBox 0 [[[97], [], []], [[98], []]] := isBoxG _ _ (by decide +kernel)
    have g6 : GBox 0 [[[], [], [], [97], [], []]] := isBoxG _ _ (by decide +kernel)
    have g7 : GBox 0 [[[97], []], [[97], []]] := isBoxG _ _ (by decide +kernel)
    refine if_no (no_or (no_ne (longV [[[97], [], []], [[98], []]]) (by rw [show longV [[[97], [], []], [[98], []]] = .tup [.int 1, .lst [stD [0, 0], stD [0, 1], stD [1, 0], stD [1, 1], stD [2, 0], stD [2, 1]]] by kernel_rfl]; decide +kernel) (fun P q => ?_) (fun P q => ?_)) (no_ne (.tup [.int 2, stD [0, 0]]) (by decide +kernel) (fun P q => ?_) (fun P q => ?_))) (hV _ _ ?_)
    · simp only [dCall, dCons, dNil, dTup, dC, dVar, List.getElem?_cons_succ, List.getElem?_cons_zero, List.length_cons, List.length_nil]
      refine ⟨z _ (by decide), z _ (by decide), z _ (by decide), z _ (by decide), ?_⟩
      exact long_call g5 q
    · simp only [dTup, dCons, dNil, dC, dVar, List.set, List.getElem?_cons_succ, List.getElem?_cons_zero, List.length_cons, List.length_nil]
      refine ⟨z _ (by decide), ?_⟩
      rw [show longV [[[97], [], []], [[98], []]] = .tup [.int 1, .lst [stD [0, 0], stD [0, 1], stD [1, 0], stD [1, 1], stD [2, 0], stD [2, 1]]] by kernel_rfl] at q
      exact q
    · simp only [dCall, dCons, dNil, dVar, List.set, List.getElem?_cons_succ, List.getElem?_cons_zero]
      refine full_call g2 ?_
      rw [show fullV [[[97], [], [98]], [[98], []]] = .tup [.int 2, stD [0, 0]] by kernel_rfl]
      exact q
    · simp only [dTup, dCons, dNil, dC, List.length_cons, List.length_nil]
      exact ⟨z _ (by decide), z _ (by decide), q⟩
    refine seq_ fun V hr _ _ hV => ?_
    simp only [dSet, dTup, dCons, dNil, dC, List.length_cons, List.length_nil]
    refine ⟨z _ (by decide), z _ (by decide), z _ (by decide), hV _ _ ?_⟩
    refine seq_ fun V hr _ _ hV => ?_
    refine if_no (no_or (no_ne (.lst [.int 5, .int 5, .int 5, .int 5, .int 5, .int 5]) (by decide +kernel) (fun P q => ?_) (fun P q => ?_)) (no_ne (.tup [.int 0, stD [0]]) (by decide +kernel) (fun P q => ?_) (fun P q => ?_))) (hV _ _ ?_)
    · simp only [dComp, dRng1, dCons, dNil, dC, upto0]
      refine ⟨by decide, z _ (by decide), ?_⟩
      refine comp_1 (fun j : Nat => silV [[[], [], [], [97], [], []]] [(j : Int)]) _ (fun j hj R hR => ?_) ?_
      · simp [dCall, dCons, dNil, dTup, dC, dVar, dwipe]
        have hj' : j < 6 := List.mem_range.mp hj
        exact ⟨z _ (by decide), sc 0 _ [(j : Int)] _ _ _ g6 (by simp [GSt]; omega) hR⟩
      · have e1 : (List.range (6 : Int).toNat).map (fun j : Nat => silV [[[], [], [], [97], [], []]] [(j : Int)]) = [.int 5, .int 5, .int 5, .int 5, .int 5, .int 5] := by kernel_rfl
        rw [e1]
        exact q
    · simp only [dBin, dLst, dCons, dNil, dC, gMul, List.length_cons, List.length_nil]
      exact ⟨z _ (by decide), ⟨by decide, by decide, by rw [sizeLine_eq]; decide⟩, q⟩
    · simp only [dCall, dCons, dNil, dVar, List.set, List.getElem?_cons_succ, List.getElem?_cons_zero]
      refine full_call g4 ?_
      rw [show fullV [[[], []]] = .tup [.int 0, stD [0]] by kernel_rfl]
      exact q
    · simp only [dTup, dCons, dNil, dC, List.length_cons, List.length_nil]
      exact ⟨z _ (by decide), z _ (by decide), q⟩
    simp only [dRet]
    refine is_eq (.tup [.int 1, .lst [stD [0, 0], stD [1, 1]]]) (by decide +kernel) (fun P q => ?_) (fun P q => ?_) _ (Fz.here rfl)
    · simp only [dCall, dCons, dNil, dTup, dC, List.length_cons, List.length_nil]
      refine ⟨z _ (by decide), z _ (by decide), z _ (by decide), z _ (by decide), ?_⟩
      refine long_call g7 ?_
      rw [show longV [[[97], []], [[97], []]] = .tup [.int 1, .lst [stD [0, 0], stD [1, 1]]] by kernel_rfl]
      exact q
    · simp only [dTup, dLst, dCons, dNil, dC, List.length_cons, List.length_nil]
      exact ⟨z _ (by decide), z _ (by decide), z _ (by decide), z _ (by decide), q⟩
end
end DL

set_option Elab.async false
set_option linter.all false
set_option maxRecDepth 100000
set_option maxHeartbeats 4000000
namespace DL
open PySem PySem.Spec PyProof.Rows L2
/-! ### facts -/
inductive Wd where
  | ch
  | so
  | si
def wdS : Wd → Str
  | .ch => "chord"
  | .so => "sounds"
  | .si => "silent"
structure Fact where
  w : Wd
  t : Nat
  x : List Nat
def factD (f : Fact) : D := .tup [.str (wdS f.w), .int f.t, sD f.x]
def factsD (fs : List Fact) : D := .tup (fs.map factD)
def GX (w : Wd) (x : List Nat) : Prop := match w with | .ch => canon x = x | _ => ∃ c, c ∈ teeth ∧ x = [c]
def GFact (f : Fact) : Prop := (f.t : Int) ≤ GR ∧ GX f.w f.x
def isStr (v : D) : Bool := match v with | .str _ => true | _ => false
def isWd2 (v : D) : Bool := ([D.str "sounds", D.str "silent"] : List D).any fun u => dq u v
def isFact (v : D) : Bool := match v with | .tup [w, t, x] => isStr w && isW t 0 GR && (if dq w (.str "chord") = true then isT x else isWd2 w && isO x) | _ => false
def sp_is_fact : DSp := fun ds M P _ => match ds with | [v] => dkn 57 v = true ∧ P (.bl (isFact v)) M | _ => False
theorem l_is_fact (ds : List D) (M : Mem) (P : D → Mem → Prop) (PX : DX) (h : sp_is_fact ds M P PX) : t_is_fact sp_has_items sp_is_within sp_are_teeth sp_is_tooth (.int GR) PX (dEnds P) (dst 1 ds) M := by
  unfold sp_is_fact at h
  split at h <;> try exact h.elim
  rename_i v
  obtain ⟨hk, h⟩ := h
  have ht := dkn_top hk
  have h' := Fz.here h
  have no : hasI v 3 3 = false → t_is_fact sp_has_items sp_is_within sp_are_teeth sp_is_tooth (.int GR) PX (dEnds P) (dst 1 [v]) M := by
    intro hh
    have e : isFact v = false := by
      cases v <;> try rfl
      rename_i xs
      unfold isFact
      split
      · rename_i hv
        cases hv
        simp [hasI] at hh
      · rfl
    rw [e] at h'
    simp [t_is_fact, dRet, dRetN, dSkip, dSeq, dExpr, dSet, dIf, dAsg, dPar, dgT, dgN, dgCons, dgNil, dgSub, dVar, dC, dUn, dBin, dNil, dCons, dApp, dB, dAnd, dOr, dNot, dAndV, dOrV, dNotV, dIfE, dChain, dTup, dLst, dLstH, dCall, dRaise, dFor, dIter, dRng1, dRng2, dZip, dEnum, dComp, dYes, dJoin, dSlice, dPart, dNoPart, dAppend, dSrtSet, dLenSet, dSplit, dZipE, dEnds, dstart, dst, dwipe, gI, gIC, gMod, gDiv, gSub, gPow, gNeg, gLt, gLe, gGt, gGe, gEq, gNe, gIsN, gNotN, gAdd, gMul, gIx, gLen, gIsi, gInt1, gTuple, gList, gSorted, gIn, gAll, gAny, dFrz, gMax2, gMin2, dComp2, sp_has_items, ht, hh]
    exact h'
  cases v with
  | tup xs =>
    match xs, hk, h', no with
    | [a, b, c], hk, h', _ =>
      have ka := dkn_tup hk a (by simp)
      have kb := dkn_tup hk b (by simp)
      have kc := dkn_tup hk c (by simp)
      have ta := dkn_top ka
      have tb := dkn_top kb
      have hh : hasI (.tup [a, b, c]) 3 3 = true := by simp [hasI]
      simp only [t_is_fact]
      refine seq_ fun V hr _ _ hV => ?_
      simp [dIf, dOr, dNot, dB, dCall, dCons, dNil, dVar, dC, dst, sp_has_items, sp_is_within, hh, top_tup, dBin, gIx, atI, ixN, dApp, dSkip]
      have gi : ∀ P : D → Mem → Prop, P (.bl (isStr a)) M → gIsi [a, .ty "str"] M P := fun P q => by
        cases a <;> simp [gIsi, isiN, isiB, isStr, top] at ta q ⊢ <;> exact q
      refine gi _ ?_
      simp only [isFact] at h'
      cases a with
      | str z =>
        simp only [isStr]
        simp
        by_cases hw : isW b 0 GR = true
        · simp only [hw]
          refine ⟨tb, fun z => by simp at z, fun _ => hV _ _ ?_⟩
          refine seq_ fun V hr _ _ hV => ?_
          simp [dIf, dB, dBin, dVar, dC, gIx, atI, ixN, gEq]
          refine ⟨⟨dkn_mono 56 64 _ (by omega) ka, by decide +kernel⟩, fun e => ?_, fun e => hV _ _ ?_⟩
          · simp [dRet, dCall, dCons, dNil, dBin, dVar, dC, gIx, atI, ixN, sp_are_teeth, hr, dEnds]
            refine ⟨dkn_mono 56 60 _ (by omega) kc, ?_⟩
            simpa [isStr, hw, dq, e] using h'
          · have a0 : atI [.str z, b, c] 0 = some (.str z) := rfl
            have a2 : atI [.str z, b, c] 2 = some c := rfl
            simp only [dRet, dAndV, dBin, dVar, dC, gIx, a0, a2, dTup, dCons, dNil, gIn, dEnds, List.getElem?_cons_zero, Bool.false_eq_true, if_false, List.length_cons, List.length_nil]
            refine ⟨by rw [sizeLine_eq]; omega, ⟨rfl, rfl⟩, fun e2 => ?_, fun e2 => ?_⟩
            · simp only [dCall, dCons, dNil, dBin, dVar, dC, gIx, a2, List.getElem?_cons_zero, sp_is_tooth]
              refine ⟨dkn_mono 56 60 _ (by omega) kc, ?_⟩
              have e3 : isWd2 (.str z) = true := e2
              have e4 : dq (.str z) (.str "chord") = false := by simpa using e
              rw [e4, e3] at h'
              simpa [isStr, hw] using h'
            · have e3 : isWd2 (.str z) = false := e2
              have e4 : dq (.str z) (.str "chord") = false := by simpa using e
              rw [e4, e3] at h'
              simpa [isStr, hw] using h'
        · simp only [hw]
          refine ⟨tb, fun _ => ?_, fun z => by simp at z⟩
          simp [dRet, dC, hr, dEnds]
          simpa [isStr, hw] using h'
      | _ =>
        simp only [isStr]
        simp [dRet, dC, hr, dEnds]
        simpa [isStr] using h'
    | [], _, _, no => exact no rfl
    | [_], _, _, no => exact no rfl
    | [_, _], _, _, no => exact no rfl
    | a :: b :: c :: d :: r, _, _, no => exact no (by simp [hasI]; omega)
  | _ => exact no rfl
theorem wd_cases {z : Str} (h : dq (.str z) (.str "chord") = true ∨ isWd2 (.str z) = true) : ∃ w, z = wdS w ∧ (dq (.str z) (.str "chord") = true ↔ w = .ch) := by
  obtain ⟨l, rfl⟩ : ∃ l, z = sN l := ⟨z.cps.toList, (sN_tl z).symm⟩
  have e1 : dq (sD l) (.str "chord") = decide (l = [99, 104, 111, 114, 100]) := dq_s _ _
  have e2 : isWd2 (sD l) = (decide ([115, 111, 117, 110, 100, 115] = l) || decide ([115, 105, 108, 101, 110, 116] = l)) := by
    show (dq (sD [115, 111, 117, 110, 100, 115]) (sD l) || (dq (sD [115, 105, 108, 101, 110, 116]) (sD l) || false)) = _
    rw [dq_s, dq_s, Bool.or_false]
  rw [e1, e2] at h
  rw [e1]
  simp only [Bool.or_eq_true, decide_eq_true_eq] at h ⊢
  rcases h with rfl | rfl | rfl
  · exact ⟨.ch, rfl, by simp⟩
  · exact ⟨.so, rfl, by simp⟩
  · exact ⟨.si, rfl, by simp⟩
theorem isFact_inv {v : D} (h : isFact v = true) : ∃ f, v = factD f ∧ GFact f := by
  unfold isFact at h
  split at h
  · rename_i w t x
    simp only [Bool.and_eq_true] at h
    obtain ⟨⟨h1, h2⟩, h3⟩ := h
    cases w with
    | str z =>
      obtain ⟨i, rfl, i0, i1⟩ := isW_inv h2
      have hc : dq (.str z) (.str "chord") = true ∨ isWd2 (.str z) = true := by
        by_cases q : dq (.str z) (.str "chord") = true
        · exact .inl q
        · rw [if_neg q] at h3
          exact .inr (Bool.and_eq_true_iff.mp h3).1
      obtain ⟨w, rfl, hw⟩ := wd_cases hc
      by_cases q : dq (.str (wdS w)) (.str "chord") = true
      · rw [if_pos q] at h3
        obtain ⟨l, rfl, hl⟩ := isT_iff.mp h3
        have := hw.mp q
        subst this
        exact ⟨⟨.ch, i.toNat, l⟩, by unfold factD; rw [Int.toNat_of_nonneg i0], by show ((i.toNat : Nat) : Int) ≤ _; rw [Int.toNat_of_nonneg i0]; exact i1, hl⟩
      · rw [if_neg q] at h3
        obtain ⟨c, hc2, rfl⟩ := isO_iff.mp (Bool.and_eq_true_iff.mp h3).2
        refine ⟨⟨w, i.toNat, [c]⟩, by unfold factD; rw [Int.toNat_of_nonneg i0], by show ((i.toNat : Nat) : Int) ≤ _; rw [Int.toNat_of_nonneg i0]; exact i1, ?_⟩
        cases w with
        | ch => exact absurd (hw.mpr rfl) q
        | so => exact ⟨c, hc2, rfl⟩
        | si => exact ⟨c, hc2, rfl⟩
    | _ => cases h1
  · cases h
theorem isFact_of {f : Fact} (g : GFact f) : isFact (factD f) = true := by
  obtain ⟨w, t, x⟩ := f
  obtain ⟨h1, h2⟩ := g
  have hw : isW (.int t) 0 GR = true := by
    simp only [isW, Bool.and_eq_true, decide_eq_true_eq]
    exact ⟨by omega, h1⟩
  cases w with
  | ch =>
    have : dq (.str (wdS .ch)) (.str "chord") = true := by decide +kernel
    simp only [isFact, factD, isStr, hw, this, if_true, Bool.true_and]
    exact isT_iff.mpr ⟨x, rfl, h2⟩
  | so =>
    obtain ⟨c, hc, e⟩ := h2
    have h2 : x = [c] := e
    subst h2
    have q : dq (.str (wdS .so)) (.str "chord") = false := by decide +kernel
    have q2 : isWd2 (.str (wdS .so)) = true := by decide +kernel
    simp only [isFact, factD, isStr, hw, q, q2, Bool.true_and, Bool.false_eq_true, if_false]
    exact isO_iff.mpr ⟨c, hc, rfl⟩
  | si =>
    obtain ⟨c, hc, e⟩ := h2
    have h2 : x = [c] := e
    subst h2
    have q : dq (.str (wdS .si)) (.str "chord") = false := by decide +kernel
    have q2 : isWd2 (.str (wdS .si)) = true := by decide +kernel
    simp only [isFact, factD, isStr, hw, q, q2, Bool.true_and, Bool.false_eq_true, if_false]
    exact isO_iff.mpr ⟨c, hc, rfl⟩
def areFacts (v : D) : Bool := match v with | .tup xs => hasI v 0 6 && xs.all isFact | _ => false
def sp_are_facts_value : DSp := fun ds M P _ => match ds with | [v] => dkn 55 v = true ∧ P (.bl (areFacts v)) M | _ => False
theorem l_are_facts_value (ds : List D) (M : Mem) (P : D → Mem → Prop) (PX : DX) (h : sp_are_facts_value ds M P PX) : t_are_facts_value sp_has_items sp_is_fact PX (dEnds P) (dst 2 ds) M := by
  unfold sp_are_facts_value at h
  split at h <;> try exact h.elim
  rename_i v
  obtain ⟨hk, h⟩ := h
  have ht := dkn_top hk
  have h' := Fz.here h
  cases v with
  | tup xs =>
    simp [t_are_facts_value, dRet, dAndV, dCall, dCons, dNil, dVar, dC, dEnds, dst, sp_has_items, top]
    by_cases hh : hasI (.tup xs) 0 6 = true
    · simp [hh, dApp, dCons, dNil, dComp, dIter, seqD, dVar] at h' ⊢
      refine ⟨by simp [hasI] at hh; rw [sizeLine_eq]; omega, ?_⟩
      refine comp_map (fun x => .bl (isFact x)) xs (fun x hx R hR => ?_) ?_
      · simp [dCall, dCons, dNil, dVar, sp_is_fact]
        exact ⟨dkn_mono 54 57 x (by omega) (dkn_tup hk x hx), hR⟩
      · simp [gAll, bls_all, all_id]
        simpa [areFacts, hh] using h'
    · simp [hh] at h' ⊢
      simpa [areFacts, hh] using h'
  | _ =>
    simp [t_are_facts_value, dRet, dRetN, dSkip, dSeq, dExpr, dSet, dIf, dAsg, dPar, dgT, dgN, dgCons, dgNil, dgSub, dVar, dC, dUn, dBin, dNil, dCons, dApp, dB, dAnd, dOr, dNot, dAndV, dOrV, dNotV, dIfE, dChain, dTup, dLst, dLstH, dCall, dRaise, dFor, dIter, dRng1, dRng2, dZip, dEnum, dComp, dYes, dJoin, dSlice, dPart, dNoPart, dAppend, dSrtSet, dLenSet, dSplit, dZipE, dEnds, dstart, dst, dwipe, gI, gIC, gMod, gDiv, gSub, gPow, gNeg, gLt, gLe, gGt, gGe, gEq, gNe, gIsN, gNotN, gAdd, gMul, gIx, gLen, gIsi, gInt1, gTuple, gList, gSorted, gIn, gAll, gAny, dFrz, gMax2, gMin2, dComp2, sp_has_items, hasI, areFacts, top] at ht h' ⊢
    try exact h'
theorem areFacts_inv {v : D} (h : areFacts v = true) : ∃ fs, v = factsD fs ∧ (∀ f ∈ fs, GFact f) ∧ fs.length ≤ 6 := by
  cases v <;> simp [areFacts] at h
  rename_i xs
  obtain ⟨l, rfl, hl⟩ := mapAll (p := fun v => isFact v = true) (fun v hv => isFact_inv hv) h.2
  have hh := h.1
  simp [hasI] at hh
  exact ⟨l, rfl, hl, by omega⟩
theorem areFacts_of {fs : List Fact} (h : ∀ f ∈ fs, GFact f) (hl : fs.length ≤ 6) : areFacts (factsD fs) = true := by
  simp only [areFacts, factsD, Bool.and_eq_true, List.all_eq_true, hasI, List.length_map, decide_eq_true_eq]
  refine ⟨⟨by omega, by omega⟩, fun x hx => ?_⟩
  obtain ⟨f, hf, rfl⟩ := List.mem_map.mp hx
  exact isFact_of (h f hf)
def sp_need_facts (e : Addr) : DSp := fun ds M P PX => match ds with | [v] => dkn 55 v = true ∧ ((areFacts v = false ∧ PX (.ref e) none M) ∨ (areFacts v = true ∧ P .non M)) | _ => False
theorem l_need_facts (e : Addr) (ds : List D) (M : Mem) (P : D → Mem → Prop) (PX : DX) (h : sp_need_facts e ds M P PX) : t_need_facts sp_are_facts_value e PX (dEnds P) (dst 1 ds) M := by
  unfold sp_need_facts at h
  split at h <;> try exact h.elim
  rename_i v
  obtain ⟨hk, h⟩ := h
  rcases h with ⟨e, h⟩ | ⟨e, h⟩
  · simp [t_need_facts, dRet, dRetN, dSkip, dSeq, dExpr, dSet, dIf, dAsg, dPar, dgT, dgN, dgCons, dgNil, dgSub, dVar, dC, dUn, dBin, dNil, dCons, dApp, dB, dAnd, dOr, dNot, dAndV, dOrV, dNotV, dIfE, dChain, dTup, dLst, dLstH, dCall, dRaise, dFor, dIter, dRng1, dRng2, dZip, dEnum, dComp, dYes, dJoin, dSlice, dPart, dNoPart, dAppend, dSrtSet, dLenSet, dSplit, dZipE, dEnds, dstart, dst, dwipe, gI, gIC, gMod, gDiv, gSub, gPow, gNeg, gLt, gLe, gGt, gGe, gEq, gNe, gIsN, gNotN, gAdd, gMul, gIx, gLen, gIsi, gInt1, gTuple, gList, gSorted, gIn, gAll, gAny, dFrz, gMax2, gMin2, dComp2, sp_are_facts_value, hk, e]; exact h
  · have h' := Fz.here h
    simp [t_need_facts, dRet, dRetN, dSkip, dSeq, dExpr, dSet, dIf, dAsg, dPar, dgT, dgN, dgCons, dgNil, dgSub, dVar, dC, dUn, dBin, dNil, dCons, dApp, dB, dAnd, dOr, dNot, dAndV, dOrV, dNotV, dIfE, dChain, dTup, dLst, dLstH, dCall, dRaise, dFor, dIter, dRng1, dRng2, dZip, dEnum, dComp, dYes, dJoin, dSlice, dPart, dNoPart, dAppend, dSrtSet, dLenSet, dSplit, dZipE, dEnds, dstart, dst, dwipe, gI, gIC, gMod, gDiv, gSub, gPow, gNeg, gLt, gLe, gGt, gGe, gEq, gNe, gIsN, gNotN, gAdd, gMul, gIx, gLen, gIsi, gInt1, gTuple, gList, gSorted, gIn, gAll, gAny, dFrz, gMax2, gMin2, dComp2, sp_are_facts_value, hk, e]; exact h'
end DL

set_option Elab.async false
set_option linter.all false
set_option maxRecDepth 100000
set_option maxHeartbeats 4000000
namespace DL
open PySem PySem.Spec PyProof.Rows L2
/-! ### what is so -/
def holds (bs : List Bar) (ss : List Int) (f : Fact) : Bool := match f.w with
  | .ch => decide (heard bs ss f.t = f.x)
  | .so => f.x.all fun c => decide (c ∈ heard bs ss f.t)
  | .si => f.x.all fun c => decide (c ∉ heard bs ss f.t)
theorem dq_bl (a b : Bool) : dq (.bl a) (.bl b) = (a == b) := rfl
theorem dq_str (a b : Str) : dq (.str a) (.str b) = (a == b) := rfl
def sp_is_so : DSp := fun ds M P _ => ∃ k bs ss f, ds = [bxD k bs, stD ss, factD f] ∧ (∀ b ∈ bs, GBar b) ∧ bs.length ≤ 3 ∧ GSt bs ss ∧ GFact f ∧ P (.bl (holds bs ss f)) M
theorem gx_ok {w : Wd} {x : List Nat} (h : GX w x) : ∀ c ∈ x, c < 1114112 := by
  cases w with
  | ch => exact fun c hc => teeth_ok (canon_teeth h c hc)
  | so => obtain ⟨c, hc, rfl⟩ := h; intro d hd; rw [List.mem_singleton.mp hd]; exact teeth_ok hc
  | si => obtain ⟨c, hc, rfl⟩ := h; intro d hd; rw [List.mem_singleton.mp hd]; exact teeth_ok hc
theorem wd_eq (w : Wd) : dq (.str (wdS w)) (.str "chord") = (match w with | .ch => true | _ => false) ∧ dq (.str (wdS w)) (.str "sounds") = (match w with | .so => true | _ => false) ∧ PyData.strOk (wdS w) = true := by
  cases w <;> exact ⟨by decide +kernel, by decide +kernel, by decide +kernel⟩
theorem dkn_wd (n : Nat) (w : Wd) : dkn n (.str (wdS w)) = true := by
  have := (wd_eq w).2.2
  cases n <;> simpa [dkn] using this
theorem l_is_so (ds : List D) (M : Mem) (P : D → Mem → Prop) (PX : DX) (h : sp_is_so ds M P PX) : t_is_so sp_chord_at PX (dEnds P) (dst 7 ds) M := by
  obtain ⟨k, bs, ss, f, rfl, gb, gl, gs, gf, h⟩ := h
  have h' := Fz.here h
  obtain ⟨w, t, x⟩ := f
  obtain ⟨e1, e2, _⟩ := wd_eq w
  simp only [t_is_so]
  refine seq_ fun V hr _ _ hV => ?_
  simp [dAsg, dVar, dst, factD, dgT, dgCons, dgNil, dgN]
  refine hV _ _ ?_
  refine seq_ fun V hr _ _ hV => ?_
  simp [dSet, dCall, dCons, dNil, dVar]
  refine ⟨k, bs, ss, t, rfl, gs, by omega, gb, hV _ _ ?_⟩
  refine seq_ fun V hr _ _ hV => ?_
  simp only [dIf, dB, dBin, dVar, dC, gEq, List.set, List.getElem?_cons_succ, List.getElem?_cons_zero, e1]
  refine ⟨⟨dkn_wd _ _, by decide +kernel⟩, fun e => ?_, fun e => hV _ _ ?_⟩
  · cases w with
    | ch =>
      simp only [dRet, dBin, dVar, gEq, List.set, List.getElem?_cons_succ, List.getElem?_cons_zero, hr, dEnds]
      refine ⟨⟨dkn_heard _ _ _ _, dkn_s _ _ (gx_ok gf.2)⟩, ?_⟩
      rw [dq_s]
      exact h'
    | _ => cases e
  · have gx := gf.2
    cases w with
    | ch => cases e
    | so =>
      obtain ⟨c, hc, e3⟩ := gx
      have e3 : x = [c] := e3
      subst e3
      simp only [dRet, dBin, dVar, dC, gIn, gEq, List.set, List.getElem?_cons_succ, List.getElem?_cons_zero, dEnds, e2, Bool.false_eq_true, if_false, strIn_one]
      refine ⟨⟨dkn_wd _ _, by decide +kernel⟩, ⟨dkn_bl _ _, dkn_bl _ _⟩, ?_⟩
      rw [dq_bl]
      simpa [holds] using h'
    | si =>
      obtain ⟨c, hc, e3⟩ := gx
      have e3 : x = [c] := e3
      subst e3
      simp only [dRet, dBin, dVar, dC, gIn, gEq, List.set, List.getElem?_cons_succ, List.getElem?_cons_zero, dEnds, e2, Bool.false_eq_true, if_false, strIn_one]
      refine ⟨⟨dkn_wd _ _, by decide +kernel⟩, ⟨dkn_bl _ _, dkn_bl _ _⟩, ?_⟩
      rw [dq_bl]
      simpa [holds] using h'
/-! ### beginnings left -/
def leftL (bs : List Bar) (fs : List Fact) : List (List Int) := (begs bs).filter fun ss => fs.all (holds bs ss)
theorem left_begs {bs : List Bar} {fs : List Fact} {ss : List Int} (h : ss ∈ leftL bs fs) : ss ∈ begs bs := (List.mem_filter.mp h).1
theorem left_len {bs : List Bar} {fs : List Fact} (g : GBs bs) : (leftL bs fs).length ≤ 343 := Nat.le_trans (List.length_filter_le _ _) (len_begs g)
def GFs (fs : List Fact) : Prop := (∀ f ∈ fs, GFact f) ∧ fs.length ≤ 1000
def sp_left_ones : DSp := fun ds M P _ => ∃ k bs fs, ds = [bxD k bs, factsD fs] ∧ GBs bs ∧ GFs fs ∧ P (.lst ((leftL bs fs).map stD)) M
theorem bls_map {α : Type} (f : α → Bool) (l : List α) : blsOf (l.map fun a => D.bl (f a)) = some (l.map f) := by
  have := blsOf_map (l.map f)
  rw [List.map_map] at this
  exact this
theorem all_id' {α : Type} (f : α → Bool) (l : List α) : (l.map f).all id = l.all f := by rw [List.all_map]; rfl
theorem any_id' {α : Type} (f : α → Bool) (l : List α) : (l.map f).any id = l.any f := by rw [List.any_map]; rfl
theorem l_left_ones (ds : List D) (M : Mem) (P : D → Mem → Prop) (PX : DX) (h : sp_left_ones ds M P PX) : t_left_ones sp_all_beginnings sp_is_so PX (dEnds P) (dst 4 ds) M := by
  obtain ⟨k, bs, fs, rfl, g, gf, h⟩ := h
  have h' := Fz.here h
  have lb := len_begs g
  simp [t_left_ones, dRet, dComp, dIter, dCall, dCons, dNil, dVar, dst, dEnds]
  refine ⟨k, bs, rfl, g, ?_⟩
  simp only [seqD]
  refine ⟨by rw [sizeLine_eq, List.length_map]; omega, ?_⟩
  refine comp_1t (fun ss => fs.all (holds bs ss)) stD _ (fun ss hs R hR => ?_) (fun ss hs e R hR => ?_) ?_
  · simp [dB, dApp, dCons, dNil, dComp, dIter, dVar, dwipe, factsD, seqD]
    refine ⟨by rw [sizeLine_eq]; have := gf.2; omega, ?_⟩
    refine comp_1 (fun f => .bl (holds bs ss f)) _ (fun f hf R hR => ?_) ?_
    · simp [dCall, dCons, dNil, dVar, dwipe]
      exact ⟨k, bs, ss, f, rfl, g.2.2, g.2.1, begs_mem.mp hs, gf.1 f hf, hR⟩
    · simp only [gAll, bls_map, all_id']
      exact hR
  · simpa [dVar, dwipe] using hR
  · exact h'
def sp_left (eB eF : Addr) : DSp := fun ds M P PX => ∃ b f, ds = [b, f] ∧ dkn 50 b = true ∧ dkn 50 f = true ∧
  ((isBox b = false ∧ PX (.ref eB) none M) ∨ ∃ k bs, b = bxD k bs ∧ GBox k bs ∧ ((areFacts f = false ∧ PX (.ref eF) none M) ∨ ∃ fs, f = factsD fs ∧ (∀ x ∈ fs, GFact x) ∧ fs.length ≤ 6 ∧ P (.lst ((leftL bs fs).map stD)) M))
theorem l_left {eB eF : Addr} (ds : List D) (M : Mem) (P : D → Mem → Prop) (PX : DX) (h : sp_left eB eF ds M P PX) : t_left (sp_need_box eB) (sp_need_facts eF) sp_left_ones PX (dEnds P) (dst 2 ds) M := by
  obtain ⟨b, f, rfl, kb, kf, h⟩ := h
  simp [t_left, dSeq, dExpr, dCall, dCons, dNil, dVar, dEnds, dst, sp_need_box, sp_need_facts]
  refine ⟨dkn_mono 50 55 b (by omega) kb, ?_⟩
  rcases h with ⟨e, h⟩ | ⟨k, bs, rfl, gb, h⟩
  · exact .inl ⟨e, h⟩
  refine .inr ⟨isBox_of gb, ?_⟩
  refine ⟨dkn_mono 50 55 f (by omega) kf, ?_⟩
  rcases h with ⟨e, h⟩ | ⟨fs, rfl, gf, hl, h⟩
  · exact .inl ⟨e, h⟩
  refine .inr ⟨areFacts_of gf hl, ?_⟩
  exact ⟨k, bs, fs, rfl, gb.bs, ⟨gf, by omega⟩, Fz.here h⟩
def sp_need_left (eN : Addr) : DSp := fun ds M P PX => ∃ k bs fs, ds = [bxD k bs, factsD fs] ∧ GBs bs ∧ GFs fs ∧ ((leftL bs fs = [] ∧ PX (.ref eN) none M) ∨ (leftL bs fs ≠ [] ∧ P (.lst ((leftL bs fs).map stD)) M))
theorem dkn_sts (l : List (List Int)) : dkn 64 (.lst (l.map stD)) = true := by
  simp only [dkn, List.all_eq_true]
  intro y hy
  obtain ⟨ss, _, rfl⟩ := List.mem_map.mp hy
  exact dkn_mono 50 63 _ (by decide) dkn_st
theorem l_need_left (eN : Addr) (ds : List D) (M : Mem) (P : D → Mem → Prop) (PX : DX) (h : sp_need_left eN ds M P PX) : t_need_left sp_left_ones eN PX (dEnds P) (dst 3 ds) M := by
  obtain ⟨k, bs, fs, rfl, g, gf, h⟩ := h
  simp only [t_need_left]
  refine seq_ fun V hr _ _ hV => ?_
  simp [dSet, dCall, dCons, dNil, dVar, dst]
  refine ⟨k, bs, fs, rfl, g, gf, hV _ _ ?_⟩
  refine seq_ fun V hr _ _ hV => ?_
  have e0 : decide ((leftL bs fs).map stD = []) = decide (leftL bs fs = []) := by simp
  simp only [dIf, dB, dBin, dVar, dLst, dNil, gEq, dq_nil, e0, dSkip, dRaise, List.set, List.getElem?_cons_succ, List.getElem?_cons_zero, List.length_nil]
  refine ⟨Nat.zero_le _, ⟨dkn_sts _, by decide +kernel⟩, fun e => ?_, fun e => hV _ _ ?_⟩
  · rcases h with ⟨_, h⟩ | ⟨h, _⟩
    · exact h
    · exact absurd (by simpa using e) h
  · rcases h with ⟨h, _⟩ | ⟨_, h⟩
    · rw [h] at e; simp at e
    · simp only [dRet, dVar, dEnds, List.set, List.getElem?_cons_succ, List.getElem?_cons_zero]
      exact Fz.here h
/-! ### how -/
def howV (bs : List Bar) (fs : List Fact) (f : Fact) : D := if (leftL bs fs).all (fun ss => holds bs ss f) = true then .str "sure" else if (leftL bs fs).any (fun ss => holds bs ss f) = true then .str "open" else .str "never"
def sp_how (eB eF eN : Addr) : DSp := fun ds M P PX => ∃ b f x, ds = [b, f, x] ∧ dkn 50 b = true ∧ dkn 50 f = true ∧ dkn 50 x = true ∧
  ((isBox b = false ∧ PX (.ref eB) none M) ∨ ∃ k bs, b = bxD k bs ∧ GBox k bs ∧ ((areFacts f = false ∧ PX (.ref eF) none M) ∨ ∃ fs, f = factsD fs ∧ (∀ x ∈ fs, GFact x) ∧ fs.length ≤ 6 ∧
    ((isFact x = false ∧ PX (.ref eF) none M) ∨ ∃ fa, x = factD fa ∧ GFact fa ∧ ((leftL bs fs = [] ∧ PX (.ref eN) none M) ∨ (leftL bs fs ≠ [] ∧ P (howV bs fs fa) M)))))
theorem l_how {eB eF eN : Addr} (ds : List D) (M : Mem) (P : D → Mem → Prop) (PX : DX) (h : sp_how eB eF eN ds M P PX) : t_how (sp_need_box eB) (sp_need_facts eF) sp_is_fact (sp_need_left eN) sp_is_so eF PX (dEnds P) (dst 5 ds) M := by
  obtain ⟨b, f, x, rfl, kb, kf, kx, h⟩ := h
  simp only [t_how]
  refine seq_ fun V hr _ _ hV => ?_
  simp [dExpr, dCall, dCons, dNil, dVar, dst, sp_need_box]
  refine ⟨dkn_mono 50 55 b (by omega) kb, ?_⟩
  rcases h with ⟨e, h⟩ | ⟨k, bs, rfl, gb, h⟩
  · exact .inl ⟨e, h⟩
  refine .inr ⟨isBox_of gb, hV _ _ ?_⟩
  refine seq_ fun V hr _ _ hV => ?_
  simp [dExpr, dCall, dCons, dNil, dVar, sp_need_facts]
  refine ⟨dkn_mono 50 55 f (by omega) kf, ?_⟩
  rcases h with ⟨e, h⟩ | ⟨fs, rfl, gf, hl, h⟩
  · exact .inl ⟨e, h⟩
  refine .inr ⟨areFacts_of gf hl, hV _ _ ?_⟩
  have gfs : GFs fs := ⟨gf, by omega⟩
  refine seq_ fun V hr _ _ hV => ?_
  simp [dIf, dNot, dB, dCall, dCons, dNil, dVar, sp_is_fact, dRaise, dSkip]
  refine ⟨dkn_mono 50 57 x (by omega) kx, ?_⟩
  rcases h with ⟨e, h⟩ | ⟨fa, rfl, gfa, h⟩
  · exact ⟨fun _ => h, fun z => by rw [e] at z; cases z⟩
  have e1 := isFact_of gfa
  refine ⟨fun z => (by rw [e1] at z; cases z), fun _ => hV _ _ ?_⟩
  refine seq_ fun V hr _ _ hV => ?_
  simp [dSet, dComp, dIter, dCall, dCons, dNil, dVar]
  refine ⟨k, bs, fs, rfl, gb.bs, gfs, ?_⟩
  rcases h with ⟨e, h⟩ | ⟨e, h⟩
  · exact .inl ⟨e, h⟩
  refine .inr ⟨e, ?_⟩
  have ll := left_len (fs := fs) gb.bs
  simp only [seqD]
  refine ⟨by rw [sizeLine_eq, List.length_map]; omega, ?_⟩
  refine comp_1 (fun ss => .bl (holds bs ss fa)) _ (fun ss hs R hR => ?_) (hV _ _ ?_)
  · simp [dCall, dCons, dNil, dVar, dwipe]
    exact ⟨k, bs, ss, fa, rfl, gb.bs.2.2, gb.bs.2.1, begs_mem.mp (left_begs hs), gfa, hR⟩
  have h' := Fz.here h
  unfold howV at h'
  refine seq_ fun V hr2 _ _ hV => ?_
  simp only [dIf, dB, dApp, dCons, dNil, dVar, dSkip, gAll, bls_map, all_id', List.set, List.getElem?_cons_succ, List.getElem?_cons_zero]
  refine ⟨fun e => ?_, fun e => hV _ _ ?_⟩
  · rw [if_pos e] at h'
    simp only [dRet, dC, hr2, dEnds]
    exact h'
  · rw [if_neg (by rw [e]; decide)] at h'
    simp only [dRet, dIfE, dB, dApp, dCons, dNil, dVar, dC, gAny, bls_map, any_id', List.set, List.getElem?_cons_succ, List.getElem?_cons_zero, dEnds]
    refine ⟨fun e => ?_, fun e => ?_⟩
    · rw [if_pos e] at h'; exact h'
    · rw [if_neg (by rw [e]; decide)] at h'; exact h'
/-! ### teeth_at -/
def sureL (cs : List (List Nat)) : List Nat := teeth.filter fun c => cs.all fun l => decide (c ∈ l)
def someL (cs : List (List Nat)) : List Nat := teeth.filter fun c => cs.any fun l => decide (c ∈ l)
def bothV (cs : List (List Nat)) : D := .tup [sD (sureL cs), sD (someL cs)]
def atL (bs : List Bar) (fs : List Fact) (t : Int) : List (List Nat) := (leftL bs fs).map fun ss => heard bs ss t
end DL

set_option Elab.async false
set_option linter.all false
set_option maxRecDepth 100000
set_option maxHeartbeats 4000000
namespace DL
open PySem PySem.Spec PyProof.Rows L2
def sp_teeth_at (eB eF eT eN : Addr) (G : Int) : DSp := fun ds M P PX => ∃ b f x, ds = [b, f, x] ∧ dkn 50 b = true ∧ dkn 50 f = true ∧ top x = true ∧
  ((isBox b = false ∧ PX (.ref eB) none M) ∨ ∃ k bs, b = bxD k bs ∧ GBox k bs ∧ ((areFacts f = false ∧ PX (.ref eF) none M) ∨ ∃ fs, f = factsD fs ∧ (∀ x ∈ fs, GFact x) ∧ fs.length ≤ 6 ∧
    ((isW x 0 G = false ∧ PX (.ref eT) none M) ∨ ∃ t, x = .int t ∧ 0 ≤ t ∧ t ≤ G ∧ ((leftL bs fs = [] ∧ PX (.ref eN) none M) ∨ (leftL bs fs ≠ [] ∧ P (bothV (atL bs fs t)) M)))))
theorem sel_comp {i j : Nat} {te : DTE} {ds : DSt} {M : Mem} {P : Str → Mem → Prop} (p : Nat → Bool) (hi : i < ds.length)
    (ht : ∀ c ∈ teeth, ∀ R : Bool → Mem → Prop, R (p c) M → dB te ((dwipe ds [i]).set i (some (sD [c]))) M R) (h : P (sN (teeth.filter p)) M) :
    compL [i] (dgN i) (dB te) (dVar i) ds (fun ys M2 => joinD (sN []) ys fun z => P z M2) [sD [97], sD [98], sD [99], sD [100]] [] M := by
  refine comp_1t (h := fun c => sD [c]) p (fun c => sD [c]) teeth (fun c hc R hR => ht c hc R hR) (fun c hc e R hR => ?_) ?_
  · show dVar i _ M R
    unfold dVar
    rw [List.getElem?_set_self (by rw [dwipe_length]; exact hi)]
    exact hR
  · exact join_chars (Nat.le_trans (List.length_filter_le _ _) (by decide)) h
theorem l_teeth_at {eB eF eT eN : Addr} {G : Int} (ds : List D) (M : Mem) (P : D → Mem → Prop) (PX : DX) (h : sp_teeth_at eB eF eT eN G ds M P PX) : t_teeth_at (sp_need_box eB) (sp_need_facts eF) (sp_need_tick eT G) (sp_need_left eN) sp_chord_at cTEETH PX (dEnds P) (dst 8 ds) M := by
  obtain ⟨b, f, x, rfl, kb, kf, kx, h⟩ := h
  simp only [t_teeth_at]
  refine seq_ fun V hr _ _ hV => ?_
  simp [dExpr, dCall, dCons, dNil, dVar, dst, sp_need_box]
  refine ⟨dkn_mono 50 55 b (by omega) kb, ?_⟩
  rcases h with ⟨e, h⟩ | ⟨k, bs, rfl, gb, h⟩
  · exact .inl ⟨e, h⟩
  refine .inr ⟨isBox_of gb, hV _ _ ?_⟩
  refine seq_ fun V hr _ _ hV => ?_
  simp [dExpr, dCall, dCons, dNil, dVar, sp_need_facts]
  refine ⟨dkn_mono 50 55 f (by omega) kf, ?_⟩
  rcases h with ⟨e, h⟩ | ⟨fs, rfl, gf, hl, h⟩
  · exact .inl ⟨e, h⟩
  refine .inr ⟨areFacts_of gf hl, hV _ _ ?_⟩
  have gfs : GFs fs := ⟨gf, by omega⟩
  refine seq_ fun V hr _ _ hV => ?_
  simp [dExpr, dCall, dCons, dNil, dVar, sp_need_tick]
  refine ⟨kx, ?_⟩
  rcases h with ⟨e, h⟩ | ⟨t, rfl, t0, t1, h⟩
  · exact .inl ⟨e, h⟩
  refine .inr ⟨by simp [isW, t0, t1], hV _ _ ?_⟩
  refine seq_ fun V hr _ _ hV => ?_
  simp [dSet, dComp, dIter, dCall, dCons, dNil, dVar]
  refine ⟨k, bs, fs, rfl, gb.bs, gfs, ?_⟩
  rcases h with ⟨e, h⟩ | ⟨e, h⟩
  · exact .inl ⟨e, h⟩
  refine .inr ⟨e, ?_⟩
  have ll := left_len (fs := fs) gb.bs
  have h' := Fz.here h
  simp only [seqD]
  refine ⟨by rw [sizeLine_eq, List.length_map]; omega, ?_⟩
  refine comp_1 (fun ss => sD (heard bs ss t)) _ (fun ss hs R hR => ?_) (hV _ _ ?_)
  · simp [dCall, dCons, dNil, dVar, dwipe]
    exact ⟨k, bs, ss, t, rfl, begs_mem.mp (left_begs hs), by have := gb.bs.2.1; omega, gb.bs.2.2, hR⟩
  have ec : (leftL bs fs).map (fun ss => sD (heard bs ss t)) = (atL bs fs t).map sD := by unfold atL; rw [List.map_map]; rfl
  have la : (atL bs fs t).length ≤ 343 := by unfold atL; rw [List.length_map]; exact ll
  rw [ec]
  refine seq_ fun V hr _ _ hV => ?_
  simp only [dSet, dJoin, dC, dComp, dIter, cTEETH, seqD]
  refine ⟨by rw [sizeLine_eq]; simp, ?_⟩
  refine sel_comp (j := 7) (P := fun z M2 => V.nx [some (bxD k bs), some (factsD fs), some (.int t), some (.lst ((atL bs fs t).map sD)), some (.str z), none, none, none] M2) (fun c => (atL bs fs t).all fun l => decide (c ∈ l)) (by simp) (fun c hc R hR => ?_) (hV _ _ ?_)
  · simp [dB, dApp, dCons, dNil, dComp, dIter, dVar, dwipe, seqD]
    refine ⟨by rw [sizeLine_eq]; omega, ?_⟩
    refine comp_1 (fun l => .bl (decide (c ∈ l))) _ (fun l hl R hR => ?_) ?_
    · simp [dBin, dVar, dwipe, gIn, strIn_one]
      exact hR
    · simp only [gAll, bls_map, all_id']
      exact hR
  simp only [dRet, dTup, dCons, dNil, dJoin, dC, dComp, dIter, dVar, cTEETH, seqD, List.set, List.getElem?_cons_succ, List.getElem?_cons_zero]
  refine ⟨by rw [sizeLine_eq]; simp, ?_⟩
  refine sel_comp (j := 7) (fun c => (atL bs fs t).any fun l => decide (c ∈ l)) (by simp) (fun c hc R hR => ?_) ?_
  · simp [dB, dApp, dCons, dNil, dComp, dIter, dVar, dwipe, seqD]
    refine ⟨by rw [sizeLine_eq]; omega, ?_⟩
    refine comp_1 (fun l => .bl (decide (c ∈ l))) _ (fun l hl R hR => ?_) ?_
    · simp [dBin, dVar, dwipe, gIn, strIn_one]
      exact hR
    · simp only [gAny, bls_map, any_id']
      exact hR
  · exact ⟨by rw [sizeLine_eq]; simp, h'⟩
end DL

set_option Elab.async false
set_option linter.all false
set_option maxRecDepth 100000
set_option maxHeartbeats 4000000
namespace DL
open PySem PySem.Spec PyProof.Rows L2
/-! ### the harness of k07 -/
def sp_law_truth : DSp := fun ds M P _ => ∃ k bs ss f, ds = [bxD k bs, stD ss, factD f] ∧ (∀ b ∈ bs, GBar b) ∧ bs.length ≤ 3 ∧ GSt bs ss ∧ GFact f ∧ P (.bl (holds bs ss f)) M
theorem l_law_truth (ds : List D) (M : Mem) (P : D → Mem → Prop) (PX : DX) (h : sp_law_truth ds M P PX) : t_law_truth sp_law_heard PX (dEnds P) (dst 4 ds) M := by
  obtain ⟨k, bs, ss, f, rfl, gb, gl, gs, gf, h⟩ := h
  have h' := Fz.here h
  obtain ⟨w, t, x⟩ := f
  obtain ⟨e1, e2, _⟩ := wd_eq w
  have a0 : ∀ a b c : D, atI [a, b, c] 0 = some a := fun _ _ _ => rfl
  have a1 : ∀ a b c : D, atI [a, b, c] 1 = some b := fun _ _ _ => rfl
  have a2 : ∀ a b c : D, atI [a, b, c] 2 = some c := fun _ _ _ => rfl
  simp only [t_law_truth]
  refine seq_ fun V hr _ _ hV => ?_
  simp only [dSet, dCall, dCons, dNil, dBin, dVar, dC, dst, factD, gIx, a1, List.map_cons, List.map_nil, List.cons_append, List.getElem?_cons_succ, List.getElem?_cons_zero]
  refine ⟨k, bs, ss, t, rfl, gb, gl, gs, hV _ _ ?_⟩
  simp only [dRet, dIfE, dB, dBin, dVar, dC, gIx, a0, a2, gEq, gIn, e1, e2, List.length_cons, List.length_nil, List.replicate, List.nil_append, List.set, List.getElem?_cons_succ, List.getElem?_cons_zero, dEnds, Bool.false_eq_true, if_false]
  refine ⟨⟨dkn_wd _ _, by decide +kernel⟩, fun e => ?_, fun e => ?_⟩
  · cases w with
    | ch =>
      refine ⟨⟨dkn_heard _ _ _ _, dkn_s _ _ (gx_ok gf.2)⟩, ?_⟩
      rw [dq_s]
      exact h'
    | _ => cases e
  · have gx := gf.2
    cases w with
    | ch => cases e
    | so =>
      obtain ⟨c, hc, e3⟩ := gx
      have e3 : x = [c] := e3
      subst e3
      refine ⟨⟨dkn_wd _ _, by decide +kernel⟩, ⟨dkn_bl _ _, dkn_bl _ _⟩, ?_⟩
      rw [dq_bl, strIn_one]
      simpa [holds] using h'
    | si =>
      obtain ⟨c, hc, e3⟩ := gx
      have e3 : x = [c] := e3
      subst e3
      refine ⟨⟨dkn_wd _ _, by decide +kernel⟩, ⟨dkn_bl _ _, dkn_bl _ _⟩, ?_⟩
      rw [dq_bl, strIn_one]
      simpa [holds] using h'
theorem sN_app (l m : List Nat) : sN l ++ sN m = sN (l ++ m) := by
  show Str.mk (l.toArray ++ m.toArray) = Str.mk (l ++ m).toArray
  rw [List.append_toArray]
def sp_law_both : DSp := fun ds M P _ => ∃ cs : List (List Nat), ds = [.lst (cs.map sD)] ∧ cs.length ≤ 1000 ∧ P (bothV cs) M
theorem l_law_both (ds : List D) (M : Mem) (P : D → Mem → Prop) (PX : DX) (h : sp_law_both ds M P PX) : t_law_both PX (dEnds P) (dst 6 ds) M := by
  obtain ⟨cs, rfl, hl, h⟩ := h
  have h' := Fz.here h
  simp only [t_law_both]
  refine seq_ fun V hr _ _ hV => ?_
  simp [dAsg, dTup, dCons, dNil, dC, dgT, dgCons, dgNil, dgN, dst]
  refine ⟨by rw [sizeLine_eq]; omega, hV _ _ ?_⟩
  refine seq_ fun V hr _ _ hV => ?_
  simp only [dFor, dIter, dC, seqD]
  have es : signs "abcd" = teeth.map fun c => sD [c] := rfl
  rw [es]
  have sub : ∀ p : Nat → Bool, ∀ pre post : List Nat, teeth = pre ++ post → (pre.filter p).length ≤ 4 := fun p pre post e => by
    have := congrArg List.length e
    simp [teeth] at this
    exact Nat.le_trans (List.length_filter_le _ _) (by omega)
  refine for_pre teeth (fun pre ds M' => ∃ x3 x4 : Option D, ds = [some (.lst (cs.map sD)), some (sD (pre.filter fun c => cs.all fun l => decide (c ∈ l))), some (sD (pre.filter fun c => cs.any fun l => decide (c ∈ l))), x3, x4, none] ∧ M' = M) (fun c pre post e ds M' hI V2 hr2 hV2 => ?_) ⟨none, none, rfl, rfl⟩ ?_
  · obtain ⟨x3, x4, rfl, rfl⟩ := hI
    have b1 := sub (fun c => cs.all fun l => decide (c ∈ l)) pre (c :: post) e
    have b2 := sub (fun c => cs.any fun l => decide (c ∈ l)) pre (c :: post) e
    simp only [dgN, List.set]
    refine seq_ fun V hr _ _ hV => ?_
    simp [dSet, dApp, dCons, dNil, dComp, dIter, dVar, seqD]
    refine ⟨by rw [sizeLine_eq]; omega, ?_⟩
    refine comp_1t (fun l => decide (c ∈ l)) (fun _ => D.int 1) cs (fun l hl R hR => ?_) (fun l hl e R hR => hR) ?_
    · simp [dB, dBin, dVar, dwipe, gIn, strIn_one]
      exact hR
    simp [gLen]
    refine hV _ _ ?_
    have eall : decide (((cs.filter fun l => decide (c ∈ l)).length : Int) = (cs.length : Int)) = cs.all fun l => decide (c ∈ l) := by
      rw [Bool.eq_iff_iff, decide_eq_true_iff, List.all_eq_true]
      have := List.length_filter_eq_length_iff (p := fun l => decide (c ∈ l)) (l := cs)
      rw [← this]
      omega
    have eany : decide ((0 : Int) < ((cs.filter fun l => decide (c ∈ l)).length : Int)) = cs.any fun l => decide (c ∈ l) := by
      rw [Bool.eq_iff_iff, decide_eq_true_iff, List.any_eq_true]
      constructor
      · intro h
        obtain ⟨l, hl⟩ := List.exists_mem_of_length_pos (show 0 < (cs.filter fun l => decide (c ∈ l)).length by omega)
        exact ⟨l, (List.mem_filter.mp hl).1, (List.mem_filter.mp hl).2⟩
      · rintro ⟨l, hl, e⟩
        have hm : l ∈ cs.filter (fun l => decide (c ∈ l)) := List.mem_filter.mpr ⟨hl, e⟩
        have := List.length_pos_of_mem hm
        omega
    refine seq_ fun V hr _ _ hV => ?_
    have k64 : ∀ i : Int, dkn 64 (.int i) = true := fun i => rfl
    have b3 := sub (fun c => cs.all fun l => decide (c ∈ l)) (pre ++ [c]) post (by rw [e, List.append_assoc]; rfl)
    have b4 := sub (fun c => cs.any fun l => decide (c ∈ l)) (pre ++ [c]) post (by rw [e, List.append_assoc]; rfl)
    have step : ∀ (p : Nat → Bool) (Q : D → Prop), (pre.filter p).length ≤ 4 → Q (sD ((pre ++ [c]).filter p)) → Q (.str (sN (pre.filter p) ++ (if p c = true then sN [c] else sN []))) := fun p Q hp q => by
      rw [List.filter_append] at q
      cases hpc : p c with
      | true =>
        simp only [List.filter_cons, hpc, if_true, List.filter_nil] at q ⊢
        rw [sN_app]; exact q
      | false =>
        simp only [List.filter_cons, hpc, Bool.false_eq_true, if_false, List.filter_nil] at q ⊢
        rw [sN_app]; exact q
    simp only [dSet, dBin, dIfE, dB, dApp, dCons, dNil, dVar, dC, gEq, gLen, dq_int, eall, List.set, List.getElem?_cons_succ, List.getElem?_cons_zero, List.length_map]
    refine ⟨⟨rfl, rfl⟩, fun ea => ?_, fun ea => ?_⟩
    all_goals
      simp only [gAdd]
      refine ⟨by show (pre.filter _).length + _ ≤ _; rw [sizeLine_eq]; first | (show _ + 1 ≤ _; omega) | (show _ + 0 ≤ _; omega), hV _ _ ?_⟩
      simp only [dSet, dBin, dIfE, dB, dC, dVar, gGt, gI, eany, List.set, List.getElem?_cons_succ, List.getElem?_cons_zero]
      refine ⟨fun ey => ?_, fun ey => ?_⟩
      all_goals
        simp only [gAdd]
        refine ⟨by show (pre.filter _).length + _ ≤ _; rw [sizeLine_eq]; first | (show _ + 1 ≤ _; omega) | (show _ + 0 ≤ _; omega), ?_⟩
        refine hV2 _ _ ⟨some (sD [c]), some (.int ((cs.filter fun l => decide (c ∈ l)).length : Nat)), ?_, rfl⟩
        have s1 := step (fun c => cs.all fun l => decide (c ∈ l)) (fun d => d = _) b1 rfl
        have s2 := step (fun c => cs.any fun l => decide (c ∈ l)) (fun d => d = _) b2 rfl
        simp only [ea, ey, if_true, Bool.false_eq_true, if_false] at s1 s2
        rw [← s1, ← s2]
        try rfl
  · rintro ds M' ⟨x3, x4, rfl, rfl⟩
    refine hV _ _ ?_
    simp [dRet, dTup, dCons, dNil, dVar, dEnds]
    exact ⟨by rw [sizeLine_eq]; omega, h'⟩
end DL

set_option Elab.async false
set_option linter.all false
set_option maxRecDepth 100000
set_option maxHeartbeats 4000000
namespace DL
open PySem PySem.Spec PyProof.Rows L2
def sp_law_a_fact_k07 : DSp := fun ds M P _ => ∃ (a : Addr) (k : Int) (bs : List Bar) (n : Nat), ds = [.ref a, bxD k bs] ∧ GBs bs ∧ DeckAt M a (n + 6) ∧ ∀ f M', GFact f → KpM a M M' → DeckAt M' a n → P (factD f) M'
theorem l_law_a_fact_k07 (ds : List D) (M : Mem) (P : D → Mem → Prop) (PX : DX) (h : sp_law_a_fact_k07 ds M P PX) : t_law_a_fact_k07 sp_law_one sp_law_pick sp_law_heard sp_law_a_start PX (dEnds P) (dst 4 ds) M := by
  obtain ⟨a, k, bs, n, rfl, g, hd, h⟩ := h
  have z : ∀ n : Nat, n ≤ 20 → n ≤ sizeLine := fun n h => by rw [sizeLine_eq]; omega
  simp only [t_law_a_fact_k07]
  refine seq_ fun V hr _ _ hV => ?_
  simp [dSet, dCall, dCons, dNil, dLst, dVar, dC, dst]
  refine ⟨z _ (by decide), a, _, n + 5, rfl, by simp, by simp, hd, fun w M1 hw kp1 hd1 => hV _ _ ?_⟩
  obtain ⟨w, rfl⟩ : ∃ wd, w = .str (wdS wd) := by
    simp at hw
    rcases hw with rfl | rfl | rfl
    · exact ⟨.ch, rfl⟩
    · exact ⟨.so, rfl⟩
    · exact ⟨.si, rfl⟩
  refine seq_ fun V hr _ _ hV => ?_
  simp [dSet, dCall, dCons, dNil, dLst, dBin, dVar, dC, gPow, gIC, CPow]
  refine ⟨a, 9, n + 4, rfl, by decide, by decide, hd1, fun r M2 r0 r1 kp2 hd2 => ?_⟩
  refine ⟨z _ (by decide), a, _, n + 3, rfl, by simp, by simp, hd2, fun t M3 ht kp3 hd3 => hV _ _ ?_⟩
  obtain ⟨t, rfl, t1⟩ : ∃ t' : Nat, t = .int t' ∧ (t' : Int) ≤ GR := by
    simp at ht
    rcases ht with rfl | rfl
    · exact ⟨r.toNat, by rw [Int.toNat_of_nonneg r0], by rw [Int.toNat_of_nonneg r0]; show r ≤ (1000000000000000000000000000000 : Int); omega⟩
    · exact ⟨1000000000000000000000000000000, rfl, by decide⟩
  obtain ⟨e1, _, _⟩ := wd_eq w
  have kp := (kp1.trans kp2).trans kp3
  refine seq_ fun V hr _ _ hV => ?_
  simp only [dIf, dB, dBin, dVar, dC, gEq, List.set, List.getElem?_cons_succ, List.getElem?_cons_zero, e1]
  refine ⟨⟨dkn_wd _ _, by decide +kernel⟩, fun e => ?_, fun e => hV _ _ ?_⟩
  · cases w with
    | ch =>
      simp only [dRet, dTup, dCall, dCons, dNil, dVar, List.set, List.getElem?_cons_succ, List.getElem?_cons_zero, hr, dEnds]
      refine ⟨a, k, bs, n, rfl, g.2.2, g.2.1, hd3, fun ss M4 gs kp4 hd4 => ?_⟩
      refine ⟨k, bs, ss, t, rfl, g.2.2, g.2.1, gs, z 3 (by decide), ?_⟩
      exact Fz.here (h ⟨.ch, t, heard bs ss t⟩ M4 ⟨t1, canon_idem _⟩ (kp.trans kp4) hd4)
    | _ => cases e
  · simp only [dRet, dTup, dCall, dCons, dNil, dLst, dVar, dC, List.set, List.getElem?_cons_succ, List.getElem?_cons_zero, dEnds]
    refine ⟨z _ (by decide), a, _, n + 2, rfl, by simp, by simp, hd3, fun y M4 hy kp4 hd4 => ?_⟩
    obtain ⟨c, rfl, hc⟩ : ∃ c, y = sD [c] ∧ c ∈ teeth := by
      simp only [List.mem_cons, List.not_mem_nil, or_false] at hy
      rcases hy with rfl | rfl | rfl | rfl
      · exact ⟨97, rfl, by decide⟩
      · exact ⟨98, rfl, by decide⟩
      · exact ⟨99, rfl, by decide⟩
      · exact ⟨100, rfl, by decide⟩
    refine ⟨z 3 (by decide), Fz.here (h ⟨w, t, [c]⟩ M4 ⟨t1, ?_⟩ (kp.trans kp4) (hd4.less (by omega)))⟩
    cases w with
    | ch => cases e
    | so => exact ⟨c, hc, rfl⟩
    | si => exact ⟨c, hc, rfl⟩
/-! ### told, in the law -/
theorem dkn_tupI {n : Nat} {xs : List D} (h : ∀ x ∈ xs, dkn n x = true) : dkn (n + 1) (.tup xs) = true := by
  show xs.all (dkn n) = true
  exact List.all_eq_true.mpr h
theorem dkn_lstI {n : Nat} {xs : List D} (h : ∀ x ∈ xs, dkn n x = true) : dkn (n + 1) (.lst xs) = true := by
  show xs.all (dkn n) = true
  exact List.all_eq_true.mpr h
theorem dkn_dt (d : D) (h : dkn 63 d = true) : dkn 64 (.tup [.str "told", d]) = true := by
  simp only [dkn, List.all_cons, List.all_nil, h, Bool.and_true]
  decide +kernel
theorem dkn_howV (bs : List Bar) (fs : List Fact) (f : Fact) (n : Nat) : dkn n (howV bs fs f) = true := by
  have h : ∀ z : Str, PyData.strOk z = true → dkn n (.str z) = true := fun z h => by cases n <;> simpa [dkn] using h
  unfold howV
  split
  · exact h _ (by decide +kernel)
  · split
    · exact h _ (by decide +kernel)
    · exact h _ (by decide +kernel)
theorem sure_ok (cs : List (List Nat)) : ∀ c ∈ sureL cs, c < 1114112 := fun c hc => teeth_ok (List.mem_filter.mp hc).1
theorem some_ok (cs : List (List Nat)) : ∀ c ∈ someL cs, c < 1114112 := fun c hc => teeth_ok (List.mem_filter.mp hc).1
theorem dkn_both (cs : List (List Nat)) (n : Nat) : dkn (n + 1) (bothV cs) = true := by
  refine dkn_tupI fun x hx => ?_
  simp only [List.mem_cons, List.not_mem_nil, or_false] at hx
  rcases hx with rfl | rfl
  · exact dkn_s _ _ (sure_ok cs)
  · exact dkn_s _ _ (some_ok cs)
theorem dkn_factN (f : Fact) (g : GFact f) (n : Nat) : dkn (n + 1) (factD f) = true := by
  refine dkn_tupI fun x hx => ?_
  simp only [List.mem_cons, List.not_mem_nil, or_false] at hx
  rcases hx with rfl | rfl | rfl
  · exact dkn_wd _ _
  · exact dkn_int _ _
  · exact dkn_s _ _ (gx_ok g.2)
theorem dkn_facts {fs : List Fact} (h : ∀ f ∈ fs, GFact f) (n : Nat) : dkn (n + 2) (factsD fs) = true := by
  simp only [factsD, dkn, List.all_eq_true]
  intro y hy
  obtain ⟨f, hf, rfl⟩ := List.mem_map.mp hy
  exact dkn_factN f (h f hf) n
theorem left_call {eB eF : Addr} {k : Int} {bs : List Bar} {fs : List Fact} {M : Mem} {P : D → Mem → Prop} {PX : DX} (gb : GBox k bs) (gf : ∀ x ∈ fs, GFact x) (hl : fs.length ≤ 6) (q : P (.lst ((leftL bs fs).map stD)) M) : sp_left eB eF [bxD k bs, factsD fs] M P PX :=
  ⟨_, _, rfl, dkn_bx gb.2.2.2.2, dkn_facts gf 48, .inr ⟨k, bs, rfl, gb, .inr ⟨fs, rfl, gf, hl, q⟩⟩⟩
theorem how_call {eB eF eN : Addr} {k : Int} {bs : List Bar} {fs : List Fact} {f : Fact} {M : Mem} {P : D → Mem → Prop} {PX : DX} (gb : GBox k bs) (gf : ∀ x ∈ fs, GFact x) (hl : fs.length ≤ 6) (g : GFact f) (q : (leftL bs fs = [] ∧ PX (.ref eN) none M) ∨ (leftL bs fs ≠ [] ∧ P (howV bs fs f) M)) : sp_how eB eF eN [bxD k bs, factsD fs, factD f] M P PX :=
  ⟨_, _, _, rfl, dkn_bx gb.2.2.2.2, dkn_facts gf 48, dkn_factN f g 49, .inr ⟨k, bs, rfl, gb, .inr ⟨fs, rfl, gf, hl, .inr ⟨f, rfl, g, q⟩⟩⟩⟩
theorem at_call {eB eF eT eN : Addr} {k : Int} {bs : List Bar} {fs : List Fact} {t : Int} {M : Mem} {P : D → Mem → Prop} {PX : DX} (gb : GBox k bs) (gf : ∀ x ∈ fs, GFact x) (hl : fs.length ≤ 6) (t0 : 0 ≤ t) (t1 : t ≤ GR) (q : (leftL bs fs = [] ∧ PX (.ref eN) none M) ∨ (leftL bs fs ≠ [] ∧ P (bothV (atL bs fs t)) M)) : sp_teeth_at eB eF eT eN GR [bxD k bs, factsD fs, .int t] M P PX :=
  ⟨_, _, _, rfl, dkn_bx gb.2.2.2.2, dkn_facts gf 48, rfl, .inr ⟨k, bs, rfl, gb, .inr ⟨fs, rfl, gf, hl, .inr ⟨t, rfl, t0, t1, q⟩⟩⟩⟩
end DL

set_option Elab.async false
set_option linter.all false
set_option maxRecDepth 100000
set_option maxHeartbeats 4000000
namespace DL
open PySem PySem.Spec PyProof.Rows L2
theorem in_bls (l : List Bool) (b : Bool) : ((l.map D.bl).any fun u => dq u (.bl b)) = decide (b ∈ l) := by
  rw [Bool.eq_iff_iff, List.any_eq_true, decide_eq_true_iff]
  constructor
  · rintro ⟨x, hx, e⟩
    obtain ⟨c, hc, rfl⟩ := List.mem_map.mp hx
    rw [dq_bl] at e
    have : c = b := by simpa using e
    rw [← this]; exact hc
  · intro h
    exact ⟨.bl b, List.mem_map_of_mem h, by rw [dq_bl]; simp⟩
theorem dkn_bls (l : List Bool) : dkn 64 (.lst (l.map D.bl)) = true := dkn_lstI fun x hx => by
  obtain ⟨c, hc, rfl⟩ := List.mem_map.mp hx
  rfl
section
variable {K : Fg} {mg : Str → Option Value} {sk : DSpE} {T : List (Addr × Str)} {Pt eB eF eT eN fh ft : Addr} {fv : Addr → DSp → Prop}
theorem l_law_k07 (hB : Lbl K mg sk eB "box +") (hF : Lbl K mg sk eF "facts +") (hT : Lbl K mg sk eT "tick +") (hN : Lbl K mg sk eN "none +")
    (v1 : fv fh (sp_how eB eF eN)) (v2 : fv ft (sp_teeth_at eB eF eT eN GR)) (a : Addr) (ns : List Int) (hns : ns.length ≤ 63) :
    t_law_k07 sp_law_deck sp_law_a_box sp_law_pick sp_law_a_fact_k07 (sp_left eB eF) sp_law_truth sp_law_one (sp_how eB eF eN) (sp_teeth_at eB eF eT eN GR) sp_law_heard sp_law_both sp_law_known (.ref ft) (.ref fh) fv (dTry K mg sk T Pt) (dScr a ns) DX0 (dEnds fun d _ => d = .bl true) (dst 24 [.ref a]) (memT Pt T) := by
  have z : ∀ n : Nat, n ≤ 20 → n ≤ sizeLine := fun n h => by rw [sizeLine_eq]; omega
  simp only [t_law_k07]
  refine seq_ fun V hr _ _ hV => ?_
  simp only [dFor, dIter, dSlice, dScr, dNoPart, dPart, dC, seqD]
  refine ⟨rfl, ?_⟩
  refine forL_decW (fun k ds M' => (∃ x0 x1 x2 x3 x4 x5 x6 x7 x8 x9 x10 x11 x12 x13 x14 x15 x16 x17 x18 x19 x20 x21 x22 x23 : Option D, ds = [x0, x1, x2, x3, x4, x5, x6, x7, x8, x9, x10, x11, x12, x13, x14, x15, x16, x17, x18, x19, x20, x21, x22, x23]) ∧ TabOk T Pt M') _ _ _ (fun x hx k ds M hI V hV hR => ?_) ⟨⟨_, _, _, _, _, _, _, _, _, _, _, _, _, _, _, _, _, _, _, _, _, _, _, _, rfl⟩, memT_ok⟩ ?_
  · clear hr
    obtain ⟨⟨x0, x1, x2, x3, x4, x5, x6, x7, x8, x9, x10, x11, x12, x13, x14, x15, x16, x17, x18, x19, x20, x21, x22, x23, rfl⟩, hM⟩ := hI
    obtain ⟨c, rfl⟩ := cutD_ints hx
    simp only [dgN, List.set]
    refine seq_ fun V1 _ _ _ hV1 => ?_
    simp [dSet, dCall, dCons, dNil, dVar, dC]
    refine ⟨c, 7, rfl, by decide, by decide, fun p M1 np kp1 hd1 => ?_⟩
    have pne : p ≠ Pt := fun e => by rw [e, hM.1] at np; cases np
    have hM1 := hM.kp kp1 pne
    refine hV1 _ _ ?_
    refine seq_ fun V1 _ _ _ hV1 => ?_
    simp only [dFor, dRng1, dCons, dNil, dC]
    refine ⟨by decide, ?_⟩
    refine forL_decW (fun k ds M' => ∃ x3 x4 x5 x6 x7 x8 x9 x10 x11 x12 x13 x22 x23 : Option D, ds = [x0, some (.int c), some (.ref p), x3, x4, x5, x6, x7, x8, x9, x10, x11, x12, x13, x14, x15, x16, x17, x18, x19, x20, x21, x22, x23] ∧ TabOk T Pt M' ∧ DeckAt M' p (400 * k) ∧ (k < 4 → ∃ kk bs, x4 = some (bxD kk bs) ∧ GBox kk bs)) _ _ _ (fun x hx k ds M hI V2 hV2 hR2 => ?_) ⟨_, _, _, _, _, _, _, _, _, _, _, _, _, rfl, hM1, hd1.less (by decide), fun h => absurd h (by simp [upto])⟩ ?_
    · clear hR2 hV hV1 hR
      obtain ⟨x3, x4, x5, x6, x7, x8, x9, x10, x11, x12, x13, x22, x23, rfl, hM2, hd2, -⟩ := hI
      simp only [dgN, List.set]
      refine seq_ fun V1 _ _ _ hV1 => ?_
      simp [dSet, dCall, dCons, dNil, dVar, dC]
      refine ⟨p, 5, 400 * k + 100, rfl, by decide, by decide, hd2.less (by omega), fun kk bs M3 gb _ kp3 hd3 => ?_⟩
      have g := gb.bs
      refine hV1 _ _ ?_
      refine seq_ fun V1 _ _ _ hV1 => ?_
      simp [dSet, dApp, dComp, dRng1, dCall, dCons, dNil, dVar, dC]
      refine ⟨p, 3, 400 * k + 99, rfl, by decide, by decide, hd3, fun r M4 r0 r1 kp4 hd4 => ?_⟩
      obtain ⟨N, rfl⟩ := Int.eq_ofNat_of_zero_le r0
      refine ⟨by omega, by rw [sizeLine_eq]; simp [upto]; omega, ?_⟩
      refine compL_dec (fun j acc M' => ∃ fs : List Fact, acc = fs.map factD ∧ fs.length + j = N ∧ (∀ f ∈ fs, GFact f) ∧ KpM p M4 M' ∧ DeckAt M' p (400 * k + 60 + 6 * j)) _ [] M4 (fun x hx j acc M5 hI R hR => ?_) ?_ ?_
      · obtain ⟨fs, rfl, hfl, hfg, kp5, hd5⟩ := hI
        simp [dgN, dYes, dCall, dCons, dNil, dVar, dwipe]
        refine ⟨p, kk, bs, 400 * k + 60 + 6 * j, rfl, g, hd5.less (by omega), fun f M6 gf kp6 hd6 => ?_⟩
        refine hR _ M6 ⟨fs ++ [f], by simp, by simp; omega, fun x hx => ?_, kp5.trans kp6, hd6⟩
        rcases List.mem_append.mp hx with hx | hx
        · exact hfg x hx
        · rw [List.mem_singleton.mp hx]; exact gf
      · exact ⟨[], rfl, by simp [upto], (fun _ h => by cases h), .refl, hd4.less (by simp [upto]; omega)⟩
      rintro ys M5 ⟨fs, rfl, hfl, hfg, kp5, hd5⟩
      have hf6 : fs.length ≤ 6 := by omega
      simp only [gTuple]
      refine hV1 _ _ ?_
      refine seq_ fun V1 _ _ _ hV1 => ?_
      simp only [dAsg, dTup, dCall, dCons, dNil, dVar, List.set, List.getElem?_cons_succ, List.getElem?_cons_zero]
      refine left_call gb hfg hf6 ?_
      refine ⟨p, kk, bs, 400 * k + 54, rfl, g, hd5.less (by omega), fun fa M6 gfa kp6 hd6 => ?_⟩
      refine ⟨z 2 (by decide), ?_⟩
      simp only [dgT, dgCons, dgNil, dgN, List.set]
      refine ⟨rfl, hV1 _ _ ?_⟩
      have ll := left_len (fs := fs) g
      refine seq_ fun V1 _ _ _ hV1 => ?_
      simp [dSet, dComp, dIter, dVar, seqD]
      refine ⟨by rw [sizeLine_eq]; omega, ?_⟩
      refine comp_1 (fun ss => .bl (holds bs ss fa)) _ (fun ss hs R hR => ?_) (hV1 _ _ ?_)
      · simp [dCall, dCons, dNil, dVar, dwipe]
        exact ⟨kk, bs, ss, fa, rfl, g.2.2, g.2.1, begs_mem.mp (left_begs hs), gfa, hR⟩
      have etr : (leftL bs fs).map (fun ss => D.bl (holds bs ss fa)) = ((leftL bs fs).map fun ss => holds bs ss fa).map D.bl := by rw [List.map_map]; rfl
      rw [etr]
      refine seq_ fun V1 _ _ _ hV1 => ?_
      simp [dSet, dCall, dCons, dNil, dLst, dBin, dVar, dC, gPow, gIC, CPow, gSub, gI]
      refine ⟨p, 12, 400 * k + 53, rfl, by decide, by decide, hd6.less (by omega), fun q1 M7 q10 q11 kp7 hd7 => ?_⟩
      refine ⟨p, 99, 400 * k + 52, rfl, by decide, by decide, hd7, fun q2 M8 q20 q21 kp8 hd8 => ?_⟩
      refine ⟨z _ (by decide), p, _, 400 * k + 51, rfl, by simp, by simp, hd8, fun t M9 ht kp9 hd9 => hV1 _ _ ?_⟩
      obtain ⟨t, rfl, t0, t1⟩ : ∃ t', t = .int t' ∧ 0 ≤ t' ∧ t' ≤ GR := by
        simp at ht
        rcases ht with rfl | rfl
        · exact ⟨q1, rfl, q10, by show q1 ≤ (1000000000000000000000000000000 : Int); omega⟩
        · exact ⟨_, rfl, by omega, by show _ ≤ (1000000000000000000000000000000 : Int); omega⟩
      have kp39 := (((((kp3.trans kp4).trans kp5).trans kp6).trans kp7).trans kp8).trans kp9
      have hM9 := hM2.kp kp39 pne
      have fin : ∀ ds M', M' = M9 → (∃ x3 x5 x6 x7 x8 x9 x10 x11 x12 x13 x22 x23 : Option D, ds = [x0, some (.int c), some (.ref p), x3, some (bxD kk bs), x5, x6, x7, x8, x9, x10, x11, x12, x13, x14, x15, x16, x17, x18, x19, x20, x21, x22, x23]) → V2.nx ds M' := by
        rintro ds M' rfl ⟨x3, x5, x6, x7, x8, x9, x10, x11, x12, x13, x22, x23, rfl⟩
        exact hV2 _ _ ⟨_, _, _, _, _, _, _, _, _, _, _, _, _, rfl, hM9, hd9.less (by omega), fun _ => ⟨kk, bs, rfl, gb⟩⟩
      by_cases hL : leftL bs fs = []
      · refine seq_ fun V1 _ _ _ hV1 => ?_
        simp only [dSet, dTry]
        refine ⟨hM9, ?_⟩
        simp only [dCall, dCons, dNil, dVar, List.getElem?_cons_succ, List.getElem?_cons_zero]
        refine how_call gb hfg hf6 gfa (.inl ⟨hL, px_try hN (hV1 _ _ ?_)⟩)
        refine seq_ fun V1 _ _ _ hV1 => ?_
        simp only [dSet, dTry]
        refine ⟨hM9, ?_⟩
        simp only [dCall, dCons, dNil, dVar, List.set, List.getElem?_cons_succ, List.getElem?_cons_zero]
        refine at_call gb hfg hf6 t0 t1 (.inl ⟨hL, px_try hN (hV1 _ _ ?_)⟩)
        have ny : Yes (dB (dBin gEq (dVar 6) (dLst dNil))) [x0, some (.int c), some (.ref p), some x, some (bxD kk bs), some (factsD fs), some (.lst ((leftL bs fs).map stD)), some (factD fa), some (.lst (((leftL bs fs).map fun ss => holds bs ss fa).map D.bl)), some (.int t), some (.str "none +"), some (.str "none +"), x12, x13, x14, x15, x16, x17, x18, x19, x20, x21, x22, x23] M9 := fun P q => by
          rw [hL]
          simp only [dB, dBin, dVar, dLst, dNil, gEq, List.getElem?_cons_succ, List.getElem?_cons_zero, dq_nil, List.map_nil, List.length_nil]
          exact ⟨Nat.zero_le _, ⟨by decide, by decide⟩, q⟩
        refine ny _ ⟨fun _ => ?_, fun z => (by cases z)⟩
        refine if_no (no_or (no_ne (.str "none +") (by decide +kernel) (fun P q => q) (fun P q => q)) (no_ne (.str "none +") (by decide +kernel) (fun P q => q) (fun P q => q))) ?_
        exact fin _ _ rfl ⟨_, _, _, _, _, _, _, _, _, _, _, _, rfl⟩
      · refine seq_ fun V1 _ _ _ hV1 => ?_
        simp only [dSet, dTry]
        refine ⟨hM9, ?_⟩
        simp only [dCall, dCons, dNil, dVar, List.getElem?_cons_succ, List.getElem?_cons_zero]
        refine how_call gb hfg hf6 gfa (.inr ⟨hL, hV1 _ _ ?_⟩)
        refine seq_ fun V1 _ _ _ hV1 => ?_
        simp only [dSet, dTry]
        refine ⟨hM9, ?_⟩
        simp only [dCall, dCons, dNil, dVar, List.set, List.getElem?_cons_succ, List.getElem?_cons_zero]
        refine at_call gb hfg hf6 t0 t1 (.inr ⟨hL, hV1 _ _ ?_⟩)
        have nn : No (dB (dBin gEq (dVar 6) (dLst dNil))) [x0, some (.int c), some (.ref p), some x, some (bxD kk bs), some (factsD fs), some (.lst ((leftL bs fs).map stD)), some (factD fa), some (.lst (((leftL bs fs).map fun ss => holds bs ss fa).map D.bl)), some (.int t), some (.tup [.str "told", howV bs fs fa]), some (.tup [.str "told", bothV (atL bs fs t)]), x12, x13, x14, x15, x16, x17, x18, x19, x20, x21, x22, x23] M9 := fun P q => by
          simp only [dB, dBin, dVar, dLst, dNil, gEq, List.getElem?_cons_succ, List.getElem?_cons_zero, dq_nil, List.length_nil]
          refine ⟨Nat.zero_le _, ⟨dkn_sts _, by decide⟩, ?_⟩
          rw [show decide ((leftL bs fs).map stD = []) = false by simpa using hL]
          exact q
        refine nn _ ⟨fun z => (by cases z), fun _ => ?_⟩
        refine seq_ fun V1 _ _ _ hV1 => ?_
        have e12 : ∀ (ds : DSt) (W : D → Mem → Prop), ds[8]? = some (some (.lst ((leftL bs fs).map fun ss => D.bl (holds bs ss fa)))) → W (howV bs fs fa) M9 → dIfE (dB (dBin (gIn true) (dC (.bl false)) (dVar 8))) (dC (.str "sure")) (dIfE (dB (dBin (gIn false) (dC (.bl true)) (dVar 8))) (dC (.str "open")) (dC (.str "never"))) ds M9 W := fun ds W h8 q => by
          rw [etr] at h8
          have dk := dkn_bls ((leftL bs fs).map fun ss => holds bs ss fa)
          have h1 : (!decide (false ∈ (leftL bs fs).map fun ss => holds bs ss fa)) = (leftL bs fs).all fun ss => holds bs ss fa := by
            rw [Bool.eq_iff_iff, List.all_eq_true]
            simp
          have h2 : decide (true ∈ (leftL bs fs).map fun ss => holds bs ss fa) = (leftL bs fs).any fun ss => holds bs ss fa := by
            rw [Bool.eq_iff_iff, List.any_eq_true]
            simp
          unfold howV at q
          simp only [dIfE, dB, dBin, dC, dVar, h8, gIn, in_bls, if_true, Bool.false_eq_true, if_false, h1, h2]
          refine ⟨⟨rfl, dk⟩, fun e => ?_, fun e => ⟨⟨rfl, dk⟩, fun e2 => ?_, fun e2 => ?_⟩⟩
          · rw [if_pos e] at q; exact q
          · rw [if_neg (by rw [e]; decide), if_pos e2] at q; exact q
          · rw [if_neg (by rw [e]; decide), if_neg (by rw [e2]; decide)] at q; exact q
        simp only [dSet]
        refine e12 _ _ rfl (hV1 _ _ ?_)
        simp only [List.set]
        refine seq_ fun V1 _ _ _ hV1 => ?_
        simp [dSet, dComp, dIter, dVar, seqD]
        refine ⟨by rw [sizeLine_eq]; omega, ?_⟩
        refine comp_1 (fun ss => sD (heard bs ss t)) _ (fun ss hs R hR => ?_) (hV1 _ _ ?_)
        · simp [dCall, dCons, dNil, dVar, dwipe]
          exact ⟨kk, bs, ss, t, rfl, g.2.2, g.2.1, begs_mem.mp (left_begs hs), hR⟩
        have ec : (leftL bs fs).map (fun ss => sD (heard bs ss t)) = (atL bs fs t).map sD := by unfold atL; rw [List.map_map]; rfl
        have la : (atL bs fs t).length ≤ 343 := by unfold atL; rw [List.length_map]; exact ll
        rw [ec]
        refine if_no (no_or (no_ne (.tup [.str "told", howV bs fs fa]) (dkn_dt _ (dkn_howV _ _ _ _)) (fun P q => q) (fun P q => ?_)) (no_ne (.tup [.str "told", bothV (atL bs fs t)]) (dkn_dt _ (dkn_both _ 62)) (fun P q => q) (fun P q => ?_))) ?_
        · exact ⟨z 2 (by decide), q⟩
        · simp only [dTup, dCall, dCons, dNil, dC, dVar, List.getElem?_cons_succ, List.getElem?_cons_zero]
          exact ⟨atL bs fs t, rfl, by omega, z 2 (by decide), q⟩
        · exact fin _ _ rfl ⟨_, _, _, _, _, _, _, _, _, _, _, _, rfl⟩
    · rintro ds M2 ⟨x3, x4, x5, x6, x7, x8, x9, x10, x11, x12, x13, x22, x23, rfl, hM2, hd2, h8⟩
      obtain ⟨kk, bs, rfl, gb⟩ := h8 (by decide)
      refine hV1 _ _ ?_
      clear hV1
      have hkb : dkn 50 (bxD kk bs) = true := dkn_bx gb.2.2.2.2
      refine seq_ fun V1 _ _ _ hV1 => ?_
      simp only [dSet, dTup, dCons, dNil, dC, List.length_cons, List.length_nil]
      refine ⟨z _ (by decide), z _ (by decide), z _ (by decide), hV1 _ _ ?_⟩
      simp only [List.set]
      have nv : D.tup [.tup [.str "sounds", .int 0, .str "a"], .tup [.str "silent", .int 0, .str "a"]] = factsD [⟨.so, 0, [97]⟩, ⟨.si, 0, [97]⟩] := rfl
      rw [nv]
      have gnv : ∀ x ∈ [(⟨.so, 0, [97]⟩ : Fact), ⟨.si, 0, [97]⟩], GFact x := fun x hx => by
        simp only [List.mem_cons, List.not_mem_nil, or_false] at hx
        rcases hx with rfl | rfl
        · exact ⟨by decide, 97, by decide, rfl⟩
        · exact ⟨by decide, 97, by decide, rfl⟩
      refine seq_ fun V1 _ _ _ hV1 => ?_
      simp only [dFor, dIter, dLst, dTup, dCons, dNil, dC, seqD, List.length_cons, List.length_nil]
      refine ⟨z _ (by decide), z _ (by decide), z _ (by decide), z _ (by decide), z _ (by decide), z _ (by decide), ?_⟩
      refine forL_decW (fun j ds M' => ∃ x15 : Option D, ds = [x0, some (.int c), some (.ref p), x3, some (bxD kk bs), x5, x6, x7, x8, x9, x10, x11, x12, x13, some (factsD [⟨.so, 0, [97]⟩, ⟨.si, 0, [97]⟩]), x15, x16, x17, x18, x19, x20, x21, x22, x23] ∧ M' = M2) _ _ _ (fun x hx j ds M' hI V4 hV4 _ => ?_) ⟨x15, rfl, rfl⟩ ?_
      · obtain ⟨x15, rfl, rfl⟩ := hI
        have hxb : dkn 50 x = true ∧ isFact x = false := by
          simp only [List.mem_cons, List.not_mem_nil, or_false] at hx
          rcases hx with rfl | rfl | rfl | rfl | rfl <;> exact ⟨by decide +kernel, by decide +kernel⟩
        refine try_ne hM2 hF (by decide +kernel) (fun PX P h => ?_) (hV4 _ _ ⟨_, rfl, rfl⟩)
        exact ⟨_, _, _, rfl, hkb, dkn_facts gnv 48, hxb.1, .inr ⟨kk, bs, rfl, gb, .inr ⟨_, rfl, gnv, by decide, .inl ⟨hxb.2, h⟩⟩⟩⟩
      rintro ds M' ⟨x15, rfl, rfl⟩
      refine hV1 _ _ ?_
      refine seq_ fun V1 _ _ _ hV1 => ?_
      simp only [dFor, dIter, dLst, dBin, dUn, gNeg, gPow, gIC, gAdd, dCons, dNil, dC, seqD, List.length_cons, List.length_nil]
      refine ⟨by simp [CPow], z _ (by decide), ?_⟩
      refine forL_decW (fun j ds M2 => ∃ x15 : Option D, ds = [x0, some (.int c), some (.ref p), x3, some (bxD kk bs), x5, x6, x7, x8, x9, x10, x11, x12, x13, some (factsD [⟨.so, 0, [97]⟩, ⟨.si, 0, [97]⟩]), x15, x16, x17, x18, x19, x20, x21, x22, x23] ∧ M2 = M') _ _ _ (fun x hx j ds M2 hI V4 hV4 _ => ?_) ⟨x15, rfl, rfl⟩ ?_
      · obtain ⟨x15, rfl, rfl⟩ := hI
        have hxb : top x = true ∧ isW x 0 GR = false := by
          simp only [List.mem_cons, List.not_mem_nil, or_false] at hx
          rcases hx with rfl | rfl | rfl | rfl <;> exact ⟨by decide +kernel, by decide +kernel⟩
        refine try_ne hM2 hT (by decide +kernel) (fun PX P h => ?_) (hV4 _ _ ⟨_, rfl, rfl⟩)
        exact ⟨_, _, _, rfl, hkb, dkn_facts gnv 48, hxb.1, .inr ⟨kk, bs, rfl, gb, .inr ⟨_, rfl, gnv, by decide, .inl ⟨hxb.2, h⟩⟩⟩⟩
      rintro ds M3 ⟨x15, rfl, rfl⟩
      refine hV1 _ _ ?_
      simp only [dFor, dIter, dTup, dCons, dNil, dC, seqD, List.length_cons, List.length_nil]
      refine ⟨z _ (by decide), ?_⟩
      refine forL_decW (fun j ds M' => ∃ x16 : Option D, ds = [x0, some (.int c), some (.ref p), x3, some (bxD kk bs), x5, x6, x7, x8, x9, x10, x11, x12, x13, some (factsD [⟨.so, 0, [97]⟩, ⟨.si, 0, [97]⟩]), x15, x16, x17, x18, x19, x20, x21, x22, x23] ∧ M' = M3) _ _ _ (fun x hx j ds M' hI V3 hV3 hR3 => ?_) ⟨x16, rfl, rfl⟩ ?_
      · obtain ⟨x16, rfl, rfl⟩ := hI
        simp only [dgN, List.set]
        simp only [List.mem_cons, List.not_mem_nil, or_false] at hx
        refine seq_ fun V1 _ _ _ hV1 => ?_
        refine try_ne hM2 hB (by decide +kernel) (fun PX P h => ?_) (hV1 _ _ ?_)
        · rcases hx with rfl | rfl
          · exact ⟨_, _, rfl, v1, _, _, _, rfl, rfl, rfl, rfl, .inl ⟨rfl, h⟩⟩
          · exact ⟨_, _, rfl, v2, _, _, _, rfl, rfl, rfl, rfl, .inl ⟨rfl, h⟩⟩
        refine try_ne hM2 hF (by decide +kernel) (fun PX P h => ?_) (hV3 _ _ ⟨_, rfl, rfl⟩)
        rcases hx with rfl | rfl
        · exact ⟨_, _, rfl, v1, z 0 (by decide), _, _, _, rfl, hkb, rfl, rfl, .inr ⟨kk, bs, rfl, gb, .inl ⟨rfl, h⟩⟩⟩
        · exact ⟨_, _, rfl, v2, z 0 (by decide), _, _, _, rfl, hkb, rfl, rfl, .inr ⟨kk, bs, rfl, gb, .inl ⟨rfl, h⟩⟩⟩
      · rintro ds M' ⟨x16, rfl, rfl⟩
        exact hV _ _ ⟨⟨_, _, _, _, _, _, _, _, _, _, _, _, _, _, _, _, _, _, _, _, _, _, _, _, rfl⟩, hM2⟩
  · rintro ds M ⟨⟨x0, x1, x2, x3, x4, x5, x6, x7, x8, x9, x10, x11, x12, x13, x14, x15, x16, x17, x18, x19, x20, x21, x22, x23, rfl⟩, hM⟩
    refine hV _ _ ?_
    clear hV
    refine seq_ fun V hr _ _ hV => ?_
    simp only [dAsg, dCall, dNil]
    refine ⟨rfl, ?_⟩
    simp only [dgT, dgCons, dgNil, dgN, List.set]
    refine ⟨rfl, hV _ _ ?_⟩
    refine seq_ fun V hr _ _ hV => ?_
    simp only [dSet, dTup, dCons, dNil, dC, List.length_cons, List.length_nil, List.set]
    refine ⟨z _ (by decide), z _ (by decide), hV _ _ ?_⟩
    refine seq_ fun V hr _ _ hV => ?_
    simp only [dSet, dLst, dTup, dCons, dNil, dC, List.length_cons, List.length_nil, List.set]
    refine ⟨z _ (by decide), z _ (by decide), z _ (by decide), z _ (by decide), z _ (by decide), hV _ _ ?_⟩
    have g2 : GBox 1 [[[97], [], [98]], [[98], []]] := isBoxG _ _ (by decide +kernel)
    have g3 : GBox 0 [[[97, 98]], [[99], [], [99], []]] := isBoxG _ _ (by decide +kernel)
    have kn : D.tup [.tup [.str "chord", .int 1, .str "b"]] = factsD [⟨.ch, 1, [98]⟩] := rfl
    have gkn : ∀ x ∈ [(⟨.ch, 1, [98]⟩ : Fact)], GFact x := fun x hx => by
      rw [List.mem_singleton.mp hx]; exact ⟨by decide, by show canon [98] = [98]; decide⟩
    rw [kn]
    refine seq_ fun V hr _ _ hV => ?_
    refine if_no (no_ne (.lst [.str "open", .str "sure", .str "never", .str "sure"]) (by decide +kernel) (fun P q => ?_) (fun P q => ?_)) (hV _ _ ?_)
    · simp only [dComp, dIter, dVar, seqD, List.getElem?_cons_succ, List.getElem?_cons_zero, List.length_cons, List.length_nil]
      refine ⟨z _ (by decide), ?_⟩
      refine comp_1 (h := factD) (howV [[[97], [], [98]], [[98], []]] [⟨.ch, 1, [98]⟩]) [⟨.so, 0, [97]⟩, ⟨.si, 0, [99]⟩, ⟨.ch, 1, []⟩, ⟨.so, 1, [98]⟩] (fun f hf R hR => ?_) ?_
      · simp only [dCall, dCons, dNil, dVar, dwipe, List.set, List.getElem?_cons_succ, List.getElem?_cons_zero]
        have gf : GFact f := by
          simp only [List.mem_cons, List.not_mem_nil, or_false] at hf
          rcases hf with rfl | rfl | rfl | rfl
          · exact ⟨by decide, 97, by decide, rfl⟩
          · exact ⟨by decide, 99, by decide, rfl⟩
          · exact ⟨by decide, by show canon [] = []; decide⟩
          · exact ⟨by decide, 98, by decide, rfl⟩
        exact how_call g2 gkn (by decide) gf (.inr ⟨by decide +kernel, hR⟩)
      · rw [show List.map (howV [[[97], [], [98]], [[98], []]] [⟨.ch, 1, [98]⟩]) [⟨.so, 0, [97]⟩, ⟨.si, 0, [99]⟩, ⟨.ch, 1, []⟩, ⟨.so, 1, [98]⟩] = [.str "open", .str "sure", .str "never", .str "sure"] by kernel_rfl]
        exact q
    · simp only [dLst, dCons, dNil, dC, List.length_cons, List.length_nil]
      exact ⟨z _ (by decide), q⟩
    simp only [dRet, dAndV]
    refine is_eq (.tup [.str "", .str "ab"]) (by decide +kernel) (fun P q => ?_) (fun P q => ?_) _ ⟨fun _ => ?_, fun z => (by cases z)⟩
    · simp only [dCall, dCons, dNil, dC, dVar, List.getElem?_cons_succ, List.getElem?_cons_zero]
      refine at_call g2 gkn (by decide) (by decide) (by decide) (.inr ⟨by decide +kernel, ?_⟩)
      rw [show bothV (atL [[[97], [], [98]], [[98], []]] [⟨.ch, 1, [98]⟩] 2) = .tup [.str "", .str "ab"] by kernel_rfl]
      exact q
    · simp only [dTup, dCons, dNil, dC, List.length_cons, List.length_nil]
      exact ⟨z _ (by decide), q⟩
    refine is_eq (.tup [.str "ab", .str "abc"]) (by decide +kernel) (fun P q => ?_) (fun P q => ?_) _ (Fz.here rfl)
    · simp only [dTup, dCall, dCons, dNil, dC, dVar, List.getElem?_cons_succ, List.getElem?_cons_zero, List.length_nil]
      refine ⟨z _ (by decide), at_call (fs := []) g3 (fun _ h => by cases h) (by decide) (by decide) (by decide) (.inr ⟨by decide +kernel, ?_⟩)⟩
      rw [show bothV (atL [[[97, 98]], [[99], [], [99], []]] [] 5) = .tup [.str "ab", .str "abc"] by kernel_rfl]
      exact q
    · simp only [dTup, dCons, dNil, dC, List.length_cons, List.length_nil]
      exact ⟨z _ (by decide), q⟩
end
end DL

set_option Elab.async false
set_option linter.all false
set_option maxRecDepth 100000
set_option maxHeartbeats 4000000
namespace DL
open PySem PySem.Spec PyProof.Rows L2
open PySem.W (AllAlike Sortable dataLt alike alikeAll keyToks keyToksAll dataLt_tuple dataLt_all_no dataLt_all_yes dataLt_int)
/-! ### lots: what is put together by a key, in the order of the first -/
def addL {κ α : Type} [DecidableEq κ] : List (κ × List α) → κ → α → List (κ × List α)
  | [], k, x => [(k, [x])]
  | (j, l) :: r, k, x => if j = k then (j, l ++ [x]) :: r else (j, l) :: addL r k x
def lookL {κ α : Type} [DecidableEq κ] : List (κ × List α) → κ → List α
  | [], _ => []
  | (j, l) :: r, k => if j = k then l else lookL r k
theorem addL_keys {κ α : Type} [DecidableEq κ] : ∀ (acc : List (κ × List α)) (k : κ) (x : α), (addL acc k x).map (·.1) = if k ∈ acc.map (·.1) then acc.map (·.1) else acc.map (·.1) ++ [k]
  | [], k, x => by simp [addL]
  | (j, l) :: r, k, x => by
    by_cases e : j = k
    · subst e; simp [addL]
    · have e' : ¬ k = j := fun z => e z.symm
      simp only [addL, if_neg e, List.map_cons, addL_keys r k x, List.mem_cons, e', false_or]
      split <;> simp
theorem addL_nodup {κ α : Type} [DecidableEq κ] {acc : List (κ × List α)} (h : (acc.map (·.1)).Nodup) (k : κ) (x : α) : ((addL acc k x).map (·.1)).Nodup := by
  rw [addL_keys]
  split
  · exact h
  · rename_i n
    rw [List.nodup_append]
    exact ⟨h, by simp, fun a ha b hb e => by rw [List.mem_singleton] at hb; subst hb; subst e; exact n ha⟩
theorem addL_len {κ α : Type} [DecidableEq κ] : ∀ (acc : List (κ × List α)) (k : κ) (x : α), (addL acc k x).length ≤ acc.length + 1
  | [], k, x => by simp [addL]
  | (j, l) :: r, k, x => by
    by_cases e : j = k
    · simp [addL, e]
    · simp only [addL, if_neg e, List.length_cons]
      have := addL_len r k x
      omega
/-- tables as the store has them -/
abbrev Tn := List (List Nat)
abbrev LotT := List (Tn × List (List Int))
def keyN (k : Tn) : List Key := k.map fun l => Sum.inr (sN l)
def stsD (l : List (List Int)) : D := .tup (l.map stD)
def lotT (acc : LotT) : List (List Key × D) := acc.map fun e => (keyN e.1, stsD e.2)
theorem keyN_inj {a b : Tn} : keyN a = keyN b ↔ a = b := by
  unfold keyN
  refine List.map_inj_right fun x y h => ?_
  injection h with h
  exact sN_inj.mp h
theorem valD_lot (k : Tn) : ∀ acc : LotT, (valD (lotT acc) (keyN k)).getD (.tup []) = stsD (lookL acc k)
  | [] => rfl
  | (j, l) :: r => by
    by_cases e : j = k
    · subst e
      simp [lotT, valD, lookL, List.find?_cons]
    · have e2 : ¬ keyN j = keyN k := fun z => e (keyN_inj.mp z)
      have ih := valD_lot k r
      have e3 : valD (lotT ((j, l) :: r)) (keyN k) = valD (lotT r) (keyN k) := by
        show valD ((keyN j, stsD l) :: lotT r) (keyN k) = _
        simp [valD, List.find?_cons, e2]
      rw [e3, ih, lookL, if_neg e]
theorem putD_lot (k : Tn) (x : List Int) : ∀ acc : LotT, (acc.map (·.1)).Nodup → putD (lotT acc) (keyN k) (stsD (lookL acc k ++ [x])) = lotT (addL acc k x)
  | [], _ => rfl
  | (j, l) :: r, h => by
    rw [List.map_cons, List.nodup_cons] at h
    by_cases e : j = k
    · subst e
      have z : ∀ m : LotT, (∀ y ∈ m.map (·.1), y ≠ j) → (lotT m).map (fun kv => if kv.1 = keyN j then (kv.1, stsD (l ++ [x])) else kv) = lotT m := by
        intro m hm
        unfold lotT
        rw [List.map_map]
        refine List.map_congr_left fun y hy => ?_
        have : ¬ keyN y.1 = keyN j := fun q => hm y.1 (List.mem_map_of_mem hy) (keyN_inj.mp q)
        simp [this]
      have e3 := z r fun y hy q => h.1 (q ▸ hy)
      unfold lotT at e3
      unfold putD
      simp only [lotT, lookL, addL, if_true, List.map_cons, List.any_cons, decide_true, Bool.true_or]
      rw [e3]
    · have e2 : ¬ keyN j = keyN k := fun z => e (keyN_inj.mp z)
      have ih := putD_lot k x r h.2
      have e3 : ∀ v, putD (lotT ((j, l) :: r)) (keyN k) v = (keyN j, stsD l) :: putD (lotT r) (keyN k) v := fun v => by
        show putD ((keyN j, stsD l) :: lotT r) (keyN k) v = _
        unfold putD
        simp only [List.any_cons, e2, decide_false, Bool.false_or, List.map_cons, if_false]
        split <;> rfl
      rw [e3, lookL, if_neg e, ih, addL, if_neg e]
      rfl
/-! ### in order -/
def ltS : List Int → List Int → Prop
  | a :: as, b :: bs => a < b ∨ (a = b ∧ ltS as bs)
  | _, _ => False
theorem begs_asc : ∀ bs : List Bar, (begs bs).Pairwise ltS
  | [] => by simp [begs, begsF]
  | b :: bs => by
    rw [begs_cons, List.pairwise_flatMap]
    refine ⟨fun n _ => ?_, ?_⟩
    · rw [List.pairwise_map]
      exact (begs_asc bs).imp fun h => .inr ⟨rfl, h⟩
    · refine (List.pairwise_lt_range).imp fun {m n} h x hx y hy => ?_
      obtain ⟨u, _, rfl⟩ := List.mem_map.mp hx
      obtain ⟨v, _, rfl⟩ := List.mem_map.mp hy
      exact .inl (by omega)
theorem py_st (s : List Int) : py (stD s) = .tuple (s.map PyData.int) := by
  unfold stD
  rw [py, pyL_map, List.map_map]
  rfl
theorem alike_ints : ∀ s t : List Int, alikeAll (s.map PyData.int) (t.map PyData.int) = true
  | [], t => by cases t <;> simp [alikeAll]
  | a :: s, [] => by simp [alikeAll]
  | a :: s, b :: t => by simp [alikeAll, alike, alike_ints s t]
theorem alike_st (s t : List Int) : alike (py (stD s)) (py (stD t)) = true := by
  rw [py_st, py_st]
  simp [alike, alike_ints]
theorem alike_sts : ∀ l m : List (List Int), alikeAll (pyL (l.map stD)) (pyL (m.map stD)) = true
  | [], m => by cases m <;> simp [alikeAll, pyL]
  | a :: s, [] => by simp [alikeAll, pyL]
  | a :: s, b :: t => by simp [alikeAll, pyL, alike_st, alike_sts s t]
theorem lt_ints : ∀ {s t : List Int}, ltS s t → PyData.eqvAll (t.map PyData.int) (s.map PyData.int) = false ∧ PyProof.Rows.lexLt itemOrd (keyToksAll (t.map PyData.int)) (keyToksAll (s.map PyData.int)) = false
  | [], _, h => by simp [ltS] at h
  | _ :: _, [], h => by simp [ltS] at h
  | a :: s, b :: t, h => by
    rw [List.map_cons, List.map_cons]
    have al : alike (.int b) (.int a) = true := by simp [alike]
    have ee : PyData.eqv (.int b) (.int a) = decide (b = a) := by
      have := dq_int b a
      simpa [dq, py] using this
    rcases h with h | ⟨rfl, h⟩
    · have ne : PyData.eqv (.int b) (.int a) = false := by rw [ee]; simp; omega
      refine ⟨by rw [PyData.eqvAll, ne, Bool.false_and], ?_⟩
      rw [dataLt_all_no al ne, dataLt_int]
      simp; omega
    · obtain ⟨i1, i2⟩ := lt_ints h
      have ye : PyData.eqv (.int a) (.int a) = true := by rw [ee]; simp
      refine ⟨by rw [PyData.eqvAll, i1, Bool.and_false], ?_⟩
      rw [dataLt_all_yes al ye]
      exact i2
theorem lt_st {s t : List Int} (h : ltS s t) : PyData.eqv (py (stD t)) (py (stD s)) = false ∧ dataLt (py (stD t)) (py (stD s)) = false := by
  rw [py_st, py_st, PyData.eqv, dataLt_tuple]
  exact lt_ints h
def headS (l : List (List Int)) : List Int := match l with | s :: _ => s | [] => []
theorem lt_sts {l m : List (List Int)} (hl : l ≠ []) (hm : m ≠ []) (h : ltS (headS l) (headS m)) : dataLt (py (stsD m)) (py (stsD l)) = false := by
  match l, m, hl, hm with
  | s :: l, t :: m, _, _ =>
    obtain ⟨e1, e2⟩ := lt_st h
    unfold stsD
    rw [py, py, dataLt_tuple]
    simp only [List.map_cons, pyL]
    rw [dataLt_all_no (alike_st t s) e1]
    exact e2
/-- the lots' first are in order, and before all that comes -/
structure LotOk (acc : LotT) (rest : List (List Int)) : Prop where
  nd : (acc.map (·.1)).Nodup
  ne : ∀ e ∈ acc, e.2 ≠ []
  asc : acc.Pairwise fun e f => ltS (headS e.2) (headS f.2)
  lo : ∀ e ∈ acc, ∀ s ∈ rest, ltS (headS e.2) s
theorem headS_snoc {l : List (List Int)} (x : List Int) (h : l ≠ []) : headS (l ++ [x]) = headS l := by
  cases l with
  | nil => exact absurd rfl h
  | cons s l => rfl
theorem addL_each (P : List (List Int) → Prop) (hP : ∀ l x, P l → P (l ++ [x])) (k : Tn) (x : List Int) (hx : P [x]) : ∀ acc : LotT, (∀ e ∈ acc, P e.2) → ∀ e ∈ addL acc k x, P e.2
  | [], _, e, he => by rw [List.mem_singleton.mp he]; exact hx
  | (j, l) :: r, h, e, he => by
    by_cases q : j = k
    · simp only [addL, if_pos q, List.mem_cons] at he
      rcases he with rfl | he
      · exact hP _ _ (h (j, l) List.mem_cons_self)
      · exact h e (List.mem_cons_of_mem _ he)
    · simp only [addL, if_neg q, List.mem_cons] at he
      rcases he with rfl | he
      · exact h (j, l) List.mem_cons_self
      · exact addL_each P hP k x hx r (fun e he => h e (List.mem_cons_of_mem _ he)) e he
theorem addL_heads (k : Tn) (x : List Int) : ∀ acc : LotT, (∀ e ∈ acc, e.2 ≠ []) → (addL acc k x).map (fun e => headS e.2) = if k ∈ acc.map (·.1) then acc.map (fun e => headS e.2) else acc.map (fun e => headS e.2) ++ [x]
  | [], _ => by simp [addL, headS]
  | (j, l) :: r, h => by
    have ih := addL_heads k x r fun e he => h e (List.mem_cons_of_mem _ he)
    by_cases q : j = k
    · subst q
      simp [addL, headS_snoc x (h (j, l) List.mem_cons_self)]
    · have e' : ¬ k = j := fun z => q z.symm
      simp only [addL, if_neg q, List.map_cons, ih, List.mem_cons, e', false_or]
      split <;> simp
theorem LotOk.add {acc : LotT} {x : List Int} {rest : List (List Int)} (o : LotOk acc (x :: rest)) (hx : ∀ s ∈ rest, ltS x s) (k : Tn) : LotOk (addL acc k x) rest := by
  have hp : ((addL acc k x).map fun e => headS e.2).Pairwise ltS := by
    rw [addL_heads k x acc o.ne]
    have h0 : (acc.map fun e => headS e.2).Pairwise ltS := List.pairwise_map.mpr o.asc
    split
    · exact h0
    · rw [List.pairwise_append]
      refine ⟨h0, by simp, fun a ha b hb => ?_⟩
      rw [List.mem_singleton.mp hb]
      obtain ⟨e, he, rfl⟩ := List.mem_map.mp ha
      exact o.lo e he x List.mem_cons_self
  refine ⟨addL_nodup o.nd k x, addL_each (· ≠ []) (fun l x _ => by simp) k x (by simp) acc o.ne, List.pairwise_map.mp hp, fun e he s hs => ?_⟩
  have hm : headS e.2 ∈ (addL acc k x).map fun e => headS e.2 := List.mem_map_of_mem he
  rw [addL_heads k x acc o.ne] at hm
  split at hm
  · obtain ⟨e', he', q⟩ := List.mem_map.mp hm
    rw [← q]
    exact o.lo e' he' s (List.mem_cons_of_mem _ hs)
  · rcases List.mem_append.mp hm with hm | hm
    · obtain ⟨e', he', q⟩ := List.mem_map.mp hm
      rw [← q]
      exact o.lo e' he' s (List.mem_cons_of_mem _ hs)
    · rw [List.mem_singleton.mp hm]; exact hx s hs
/-! ### the classes -/
def lotsF (f : List Int → Tn) (acc : LotT) (l : List (List Int)) : LotT := l.foldl (fun acc s => addL acc (f s) s) acc
def lotsL (f : List Int → Tn) (l : List (List Int)) : List (List (List Int)) := (lotsF f [] l).map (·.2)
def lotsD (ls : List (List (List Int))) : D := .lst (ls.map stsD)
def sp_tune_of_H : DSp := fun ds M P _ => ∃ k bs ss, ds = [bxD k bs, stD ss] ∧ GBs bs ∧ GSt bs ss ∧ ∀ p, M p = none → P (.ref p) (mput M p (some (.tp (keyN (tuneL bs ss)))))
theorem keysD_s : ∀ k : Tn, keysD (k.map sD) = some (keyN k)
  | [] => rfl
  | l :: r => by
    rw [List.map_cons, keysD, keysD_s r]
    rfl
theorem l_tune_of_H (ds : List D) (M : Mem) (P : D → Mem → Prop) (PX : DX) (h : sp_tune_of_H ds M P PX) : t_tune_of_H sp_period_of sp_chord_at PX (dEnds P) (dst 3 ds) M := by
  obtain ⟨k, bs, ss, rfl, g, gs, h⟩ := h
  have hp := perN_le g
  simp [t_tune_of_H, dRet, dApp, dCons, dNil, dComp, dRng1, dCall, dVar, dst, dEnds]
  refine ⟨k, bs, rfl, g, ?_⟩
  simp only [upto0]
  refine ⟨by omega, by rw [sizeLine_eq]; simp; omega, ?_⟩
  refine comp_1 (fun j : Nat => sD (heard bs ss j)) _ (fun j hj R hR => ?_) ?_
  · simp [dCall, dCons, dNil, dVar, dwipe]
    exact ⟨k, bs, ss, j, rfl, gs, by have := g.2.1; omega, g.2.2, hR⟩
  · have e := keysD_s (tuneL bs ss)
    unfold tuneL at e
    try rw [List.map_map] at e
    have e' : keysD (List.map (fun j : Nat => sD (heard bs ss ↑j)) (List.range (perN bs))) = some (keyN (tuneL bs ss)) := e
    simp only [gTupleT, Int.toNat_natCast]
    rw [e']
    exact fun p n => Fz.here (h p n)
theorem dkn_sts60 (l : List (List Int)) : dkn 60 (stsD l) = true := by
  unfold stsD
  refine dkn_tupI fun y hy => ?_
  obtain ⟨s, _, rfl⟩ := List.mem_map.mp hy
  exact dkn_mono 50 59 _ (by decide) dkn_st
theorem lots_sorted {acc : LotT} {rest : List (List Int)} (o : LotOk acc rest) : (∀ y ∈ (lotT acc).map (·.2), dkn 60 y = true) ∧ AllAlike (pyL ((lotT acc).map (·.2))) ∧ Sortable (pyL ((lotT acc).map (·.2))) ∧ ((pyL ((lotT acc).map (·.2))).Pairwise fun x y => dataLt y x = false) := by
  have e : (lotT acc).map (·.2) = acc.map fun e => stsD e.2 := by unfold lotT; rw [List.map_map]; rfl
  rw [e, pyL_map, List.map_map]
  refine ⟨fun y hy => ?_, fun x hx y hy => ?_, .inl fun d hd => ?_, ?_⟩
  · obtain ⟨z, _, rfl⟩ := List.mem_map.mp hy
    exact dkn_sts60 _
  · obtain ⟨a, _, rfl⟩ := List.mem_map.mp hx
    obtain ⟨b, _, rfl⟩ := List.mem_map.mp hy
    simp only [Function.comp, stsD, py, alike]
    exact alike_sts _ _
  · obtain ⟨a, ha, rfl⟩ := List.mem_map.mp hd
    have := o.ne a ha
    simp only [Function.comp, stsD, py]
    cases q : a.2 with
    | nil => exact absurd q this
    | cons s l => exact ⟨_, _, by rw [List.map_cons, pyL]⟩
  · rw [List.pairwise_map]
    refine List.Pairwise.imp_of_mem (fun {a b} ha hb h => ?_) o.asc
    exact lt_sts (o.ne a ha) (o.ne b hb) h
/-- some beginnings, in order -/
def GSome (bs : List Bar) (l : List (List Int)) : Prop := (∀ s ∈ l, GSt bs s) ∧ l.Pairwise ltS ∧ l.length ≤ 343
theorem left_some {bs : List Bar} {fs : List Fact} (g : GBs bs) : GSome bs (leftL bs fs) := ⟨fun s hs => begs_mem.mp (left_begs hs), (begs_asc bs).filter _, left_len g⟩
def classL (bs : List Bar) (l : List (List Int)) : List (List (List Int)) := lotsL (tuneL bs) l
def sp_classes_of : DSp := fun ds M P _ => ∃ k bs l, ds = [bxD k bs, .lst (l.map stD)] ∧ GBs bs ∧ GSome bs l ∧ P (lotsD (classL bs l)) M
theorem addL_sum {α κ : Type} [DecidableEq κ] (k : κ) (x : α) : ∀ acc : List (κ × List α), ((addL acc k x).map fun e => e.2.length).sum = (acc.map fun e => e.2.length).sum + 1
  | [] => by simp [addL]
  | (j, l) :: r => by
    by_cases q : j = k
    · simp [addL, q]; omega
    · simp [addL, q, addL_sum k x r]; omega
theorem lookL_len {α κ : Type} [DecidableEq κ] (k : κ) : ∀ acc : List (κ × List α), (lookL acc k).length ≤ (acc.map fun e => e.2.length).sum
  | [] => by simp [lookL]
  | (j, l) :: r => by
    have := lookL_len k r
    by_cases q : j = k
    · simp [lookL, q]
    · simp [lookL, q]; omega
theorem cls_loop {k : Int} {bs : List Bar} {M : Mem} {W : DEnds} {d : Addr} {PX : DX} {w1 : D} (g : GBs bs) (hd : M d = none) :
    ∀ (l : List (List Int)) (acc : LotT) (M' : Mem) (x3 x4 : Option D), GSome bs l → LotOk acc l → (acc.map fun e => e.2.length).sum + l.length ≤ 343 → acc.length + l.length ≤ 343 → (∀ a, M a ≠ none → M' a = M a) → M' d = some (.dT (lotT acc)) →
    (∀ acc' M2 x3 x4, acc' = lotsF (tuneL bs) acc l → LotOk acc' [] → (∀ a, M a ≠ none → M2 a = M a) → M2 d = some (.dT (lotT acc')) → W.nx [some (bxD k bs), some w1, some (.ref d), x3, x4] M2) →
    forL (dgN 3) (dSeq (dSet 4 (dCall sp_tune_of_H PX (dCons (dVar 0) (dCons (dVar 3) dNil)))) (dDPut (dVar 2) (dVar 4) (dBin gAdd (dGet2 (dVar 2) (dVar 4) (dTup dNil)) (dTup (dCons (dVar 3) dNil))))) W (l.map stD) [some (bxD k bs), some w1, some (.ref d), x3, x4] M'
  | [], acc, M', x3, x4, _, o, _, _, hk, hM, q => q acc M' x3 x4 rfl o hk hM
  | s :: l, acc, M', x3, x4, gl, o, hs, hl2, hk, hM, q => by
    rw [List.length_cons] at hs hl2
    have gp := List.pairwise_cons.mp gl.2.1
    show dgN 3 (stD s) _ M' _
    simp only [dgN, List.set]
    refine seq_ fun V hr _ _ hV => ?_
    simp only [dSet, dCall, dCons, dNil, dVar, List.getElem?_cons_succ, List.getElem?_cons_zero]
    refine ⟨k, bs, s, rfl, g, gl.1 s List.mem_cons_self, fun p hp => hV _ _ ?_⟩
    have pd : p ≠ d := fun e => by subst e; rw [hM] at hp; cases hp
    have hM1 : (mput M' p (some (.tp (keyN (tuneL bs s))))) d = some (.dT (lotT acc)) := by rw [mput_ne (Ne.symm pd)]; exact hM
    have lk : (lookL acc (tuneL bs s)).length ≤ (acc.map fun e => e.2.length).sum := lookL_len (tuneL bs s) acc
    simp only [dDPut, dBin, dGet2, dTup, dCons, dNil, dVar, List.set, List.getElem?_cons_succ, List.getElem?_cons_zero, isDict, hM1, atD, mput_same, List.length_nil, List.length_cons]
    refine ⟨trivial, Nat.zero_le _, ?_⟩
    rw [valD_lot]
    unfold stsD
    refine ⟨by rw [sizeLine_eq]; omega, ?_⟩
    have ea : (lookL acc (tuneL bs s)).map stD ++ [stD s] = (lookL acc (tuneL bs s) ++ [s]).map stD := by rw [List.map_append]; rfl
    simp only [gAdd]
    refine ⟨by rw [List.length_map, sizeLine_eq, List.length_singleton]; omega, ?_⟩
    unfold putAt
    rw [hM1]
    simp only [mput_same]
    refine ⟨by unfold lotT; rw [List.length_map, sizeLine_eq]; omega, ?_⟩
    rw [ea]
    have e2 := putD_lot (tuneL bs s) s acc o.nd
    unfold stsD at e2
    rw [e2]
    have hal := addL_len acc (tuneL bs s) s
    refine cls_loop g hd l (addL acc (tuneL bs s) s) _ _ _ ⟨fun t ht => gl.1 t (List.mem_cons_of_mem _ ht), gp.2, by have := gl.2.2; rw [List.length_cons] at this; omega⟩ (o.add gp.1 _) (by rw [addL_sum]; omega) (by omega) (fun a ha => ?_) mput_same fun acc' M2 x3 x4 e o2 k2 m2 => q acc' M2 x3 x4 e o2 k2 m2
    have a1 : a ≠ d := fun e => by subst e; exact ha hd
    have a2 : a ≠ p := fun e => by subst e; rw [hk _ ha] at hp; exact ha hp
    rw [mput_ne a1, mput_ne a2]
    exact hk a ha
theorem l_classes_of (ds : List D) (M : Mem) (P : D → Mem → Prop) (PX : DX) (h : sp_classes_of ds M P PX) : t_classes_of sp_tune_of_H PX (dEnds P) (dst 5 ds) M := by
  obtain ⟨k, bs, l, rfl, g, gl, h⟩ := h
  simp only [t_classes_of]
  refine seq_ fun V hr _ _ hV => ?_
  simp only [dSet, dNewT, dst]
  refine fun d hd => hV _ _ ?_
  refine seq_ fun V hr2 _ _ hV => ?_
  simp only [dFor, dIter, dVar]
  refine cls_loop (M := M) (acc := []) g hd l _ _ _ gl ⟨by simp, by simp, by simp, by simp⟩ (by simpa using gl.2.2) (by simpa using gl.2.2) (fun a ha => mput_ne (fun e => by subst e; exact ha hd)) mput_same fun acc M2 x3 x4 e o k2 m2 => hV _ _ ?_
  simp only [dRetD, dSrtVals, dVar, List.getElem?_cons_succ, List.getElem?_cons_zero, m2]
  obtain ⟨s1, s2, s3, s4⟩ := lots_sorted o
  refine ⟨s1, s2, s3, s4, M, fun a => ?_, ?_⟩
  · cases q : M a with
    | none => exact .inl rfl
    | some u => exact .inr (by rw [← q]; exact (k2 a (by rw [q]; exact nofun)).symm)
  · have e1 : D.lst ((lotT acc).map (·.2)) = lotsD (classL bs l) := by
      unfold lotT lotsD classL lotsL
      rw [List.map_map, e, List.map_map]
      rfl
    rw [e1]
    exact Fz.here h
end DL

set_option Elab.async false
set_option linter.all false
set_option maxRecDepth 100000
set_option maxHeartbeats 4000000
namespace DL
open PySem PySem.Spec PyProof.Rows L2
/-! ### the law's lots -/
def tnD (k : Tn) : D := .tup (k.map sD)
def rowD (e : Tn × List (List Int)) : MO := .lst [tnD e.1, stsD e.2]
def rowsAt (M : Mem) : List Addr → LotT → Prop
  | [], [] => True
  | p :: ps, e :: es => M p = some (rowD e) ∧ rowsAt M ps es
  | _, _ => False
theorem rowsAt_len {M : Mem} : ∀ {ps : List Addr} {es : LotT}, rowsAt M ps es → ps.length = es.length
  | [], [], _ => rfl
  | _ :: _, _ :: _, h => by rw [List.length_cons, List.length_cons, rowsAt_len h.2]
theorem rowsAt_get {M : Mem} : ∀ {ps : List Addr} {es : LotT} {i : Nat} {e : Tn × List (List Int)}, rowsAt M ps es → es[i]? = some e → ∃ p, ps[i]? = some p ∧ M p = some (rowD e)
  | [], [], i, e, _, h => by simp at h
  | p :: _, _ :: _, 0, e, h, q => by
    simp only [List.getElem?_cons_zero, Option.some.injEq] at q
    subst q
    exact ⟨p, rfl, h.1⟩
  | _ :: _, _ :: _, i + 1, e, h, q => by
    simp only [List.getElem?_cons_succ] at q ⊢
    exact rowsAt_get h.2 q
theorem rowsAt_ne {M : Mem} {q : Addr} {o : Option MO} : ∀ {ps : List Addr} {es : LotT}, q ∉ ps → rowsAt M ps es → rowsAt (mput M q o) ps es
  | [], [], _, _ => trivial
  | p :: ps, _ :: _, h, r => by
    simp only [List.mem_cons, not_or] at h
    exact ⟨by rw [mput_ne (Ne.symm h.1)]; exact r.1, rowsAt_ne h.2 r.2⟩
theorem rowsAt_set {M : Mem} {q : Addr} {e : Tn × List (List Int)} : ∀ {ps : List Addr} {es : LotT} {i : Nat}, ps.Nodup → ps[i]? = some q → rowsAt M ps es → rowsAt (mput M q (some (rowD e))) ps (es.set i e)
  | [], [], i, _, h, _ => by simp at h
  | p :: ps, x :: es, 0, nd, h, r => by
    simp only [List.getElem?_cons_zero, Option.some.injEq] at h
    subst h
    exact ⟨mput_same, rowsAt_ne (List.nodup_cons.mp nd).1 r.2⟩
  | p :: ps, x :: es, i + 1, nd, h, r => by
    simp only [List.getElem?_cons_succ] at h
    have nd' := List.nodup_cons.mp nd
    have pq : p ≠ q := fun z => by subst z; exact nd'.1 (List.mem_of_getElem? h)
    exact ⟨by rw [mput_ne pq]; exact r.1, rowsAt_set nd'.2 h r.2⟩
theorem rowsAt_snoc {M : Mem} {p : Addr} {e : Tn × List (List Int)} (h : M p = some (rowD e)) : ∀ {ps : List Addr} {es : LotT}, rowsAt M ps es → rowsAt M (ps ++ [p]) (es ++ [e])
  | [], [], _ => ⟨h, trivial⟩
  | _ :: _, _ :: _, r => ⟨r.1, rowsAt_snoc h r.2⟩
def keyAt (acc : LotT) (k : Tn) (i : Nat) : Bool := match acc[i]? with | some e => decide (e.1 = k) | none => false
def sameL (acc : LotT) (k : Tn) : List Nat := (List.range acc.length).filter (keyAt acc k)
theorem sameL_cons (e : Tn × List (List Int)) (acc : LotT) (k : Tn) : sameL (e :: acc) k = (if e.1 = k then [0] else []) ++ (sameL acc k).map Nat.succ := by
  unfold sameL
  rw [List.length_cons, List.range_succ_eq_map, List.filter_cons, List.filter_map]
  have e1 : keyAt (e :: acc) k 0 = decide (e.1 = k) := rfl
  have e2 : (keyAt (e :: acc) k ∘ Nat.succ) = keyAt acc k := by funext i; simp [keyAt, Function.comp]
  rw [e1, e2]
  by_cases h : e.1 = k <;> simp [h]
theorem sameL_add (k : Tn) (x : List Int) : ∀ acc : LotT, (sameL acc k = [] ∧ addL acc k x = acc ++ [(k, [x])]) ∨ ∃ i r l, sameL acc k = i :: r ∧ acc[i]? = some (k, l) ∧ addL acc k x = acc.set i (k, l ++ [x])
  | [] => .inl ⟨rfl, rfl⟩
  | (j, l) :: r => by
    rw [sameL_cons]
    by_cases e : j = k
    · subst e
      exact .inr ⟨0, _, l, by simp; rfl, rfl, by simp [addL]⟩
    · rcases sameL_add k x r with ⟨h1, h2⟩ | ⟨i, t, m, h1, h2, h3⟩
      · exact .inl ⟨by simp [e, h1], by simp [addL, e, h2]⟩
      · exact .inr ⟨i + 1, t.map Nat.succ, m, by simp [e, h1], by simpa using h2, by simp [addL, e, h3]⟩
theorem dq_tn (a b : Tn) : dq (tnD a) (tnD b) = decide (a = b) := by
  unfold tnD dq
  rw [py, py, PyData.eqv]
  have go : ∀ a b : Tn, PyData.eqvAll (pyL (a.map sD)) (pyL (b.map sD)) = decide (a = b) := by
    intro a
    induction a with
    | nil => intro b; cases b <;> simp [pyL, PyData.eqvAll]
    | cons x a ih =>
      intro b
      cases b with
      | nil => simp [pyL, PyData.eqvAll]
      | cons y b =>
        rw [List.map_cons, List.map_cons, pyL, pyL, PyData.eqvAll, ih b]
        have := dq_s x y
        unfold dq at this
        rw [this]
        rw [Bool.eq_iff_iff]
        simp
  exact go a b
theorem dkn_tune {bs : List Bar} {ss : List Int} : dkn 64 (tnD (tuneL bs ss)) = true := by
  unfold tnD
  refine dkn_tupI fun y hy => ?_
  obtain ⟨l, hl, rfl⟩ := List.mem_map.mp hy
  unfold tuneL at hl
  obtain ⟨j, _, rfl⟩ := List.mem_map.mp hl
  exact dkn_heard _ _ _ _
/-- the keys are tunes -/
def TuneK (bs : List Bar) (acc : LotT) : Prop := ∀ e ∈ acc, ∃ ss, e.1 = tuneL bs ss
theorem addL_tune {bs : List Bar} {ss s : List Int} : ∀ {acc : LotT}, TuneK bs acc → TuneK bs (addL acc (tuneL bs ss) s)
  | [], _ => fun e he => by rw [List.mem_singleton.mp he]; exact ⟨ss, rfl⟩
  | (j, l) :: r, h => fun e he => by
    by_cases q : j = tuneL bs ss
    · simp only [addL, if_pos q, List.mem_cons] at he
      rcases he with rfl | he
      · exact ⟨ss, q⟩
      · exact h e (List.mem_cons_of_mem _ he)
    · simp only [addL, if_neg q, List.mem_cons] at he
      rcases he with rfl | he
      · exact h (j, l) List.mem_cons_self
      · exact addL_tune (fun e he => h e (List.mem_cons_of_mem _ he)) e he
theorem get_mem_sum {acc : LotT} {e : Tn × List (List Int)} (h : e ∈ acc) : e.2.length ≤ (acc.map fun e => e.2.length).sum := by
  induction acc with
  | nil => cases h
  | cons a acc ih =>
    rw [List.map_cons, List.sum_cons]
    rcases List.mem_cons.mp h with rfl | h
    · omega
    · have := ih h; omega
abbrev lotsBody (PX : DX) : DTS := (dSeq (dSet 5 (dCall sp_law_tune PX (dCons (dVar 0) (dCons (dVar 4) (dCons (dVar 3) dNil))))) (dSeq (dSet 6 (dComp [7] (dRng1 (dCons (dApp gLen (dCons (dVar 2) dNil)) dNil)) (dgN 7) (dB (dBin gEq (dBin gIx (dBin gIx (dVar 2) (dVar 7)) (dC (.int 0))) (dVar 5))) (dVar 7))) (dIf (dB (dBin gEq (dVar 6) (dLst dNil))) (dExpr (dAppend (dVar 2) (dLstH (dCons (dVar 5) (dCons (dTup (dCons (dVar 4) dNil)) dNil))))) (dAsg (dBin gAdd (dBin gIx (dBin gIx (dVar 2) (dBin gIx (dVar 6) (dC (.int 0)))) (dC (.int 1))) (dTup (dCons (dVar 4) dNil))) (dgSub (dBin gIx (dVar 2) (dBin gIx (dVar 6) (dC (.int 0)))) (dC (.int 1)))))))
theorem atI_0 (a b : D) : atI [a, b] 0 = some a := rfl
theorem atI_1 (a b : D) : atI [a, b] 1 = some b := rfl
def RowsOk (M : Mem) (r : Addr) (acc : LotT) (refs : List Addr) (M' : Mem) : Prop := refs.Nodup ∧ r ∉ refs ∧ (∀ p ∈ refs, M p = none) ∧ rowsAt M' refs acc ∧ (∀ a, M a ≠ none → M' a = M a) ∧ M' r = some (.lst (refs.map D.ref))
theorem lots_step {k : Int} {bs : List Bar} {M : Mem} {W : DEnds} {r : Addr} {PX : DX} {w1 : D} {x5 x6 x7 x8 : Option D} {s : List Int} {acc : LotT} {refs : List Addr} {M' : Mem} (g : GBs bs) (hr : M r = none) (gs : GSt bs s) (ht : TuneK bs acc) (hs : (acc.map fun e => e.2.length).sum ≤ 343) (ha : acc.length ≤ 343) (ok : RowsOk M r acc refs M')
    (q : ∀ refs' M2 x5 x6, RowsOk M r (addL acc (tuneL bs s) s) refs' M2 → W.nx [some (bxD k bs), some w1, some (.ref r), some (.int (perN bs)), some (stD s), x5, x6, x7, x8] M2) :
    lotsBody PX W [some (bxD k bs), some w1, some (.ref r), some (.int (perN bs)), some (stD s), x5, x6, x7, x8] M' := by
  obtain ⟨nd, hrr, hn, hw, hk, hM⟩ := ok
  have hp := perN_le g
  have hlen := rowsAt_len hw
  simp only [lotsBody]
  refine seq_ fun V _ _ _ hV => ?_
  simp only [dSet, dCall, dCons, dNil, dVar, List.getElem?_cons_succ, List.getElem?_cons_zero]
  refine ⟨k, bs, s, perN bs, rfl, g.2.2, g.2.1, gs, by omega, hV _ _ ?_⟩
  have et : D.tup ((List.range (perN bs)).map fun j : Nat => sD (heard bs s j)) = tnD (tuneL bs s) := by unfold tnD tuneL; rw [List.map_map]; rfl
  rw [et]
  simp only [List.set]
  generalize hK : tuneL bs s = K at *
  have kd : dkn 64 (tnD K) = true := by rw [← hK]; exact dkn_tune
  refine seq_ fun V _ _ _ hV => ?_
  simp only [dSet, dComp, dRng1, dApp, dCons, dNil, dVar, List.getElem?_cons_succ, List.getElem?_cons_zero, gLen, hM, List.length_map, hlen, upto0]
  refine ⟨by omega, by rw [sizeLine_eq]; simp; omega, ?_⟩
  rw [Int.toNat_natCast]
  refine comp_1t (keyAt acc K) (fun j : Nat => D.int j) (List.range acc.length) (fun i hi R hR => ?_) (fun i hi e R hR => ?_) (hV _ _ ?_)
  · have hi' : i < acc.length := List.mem_range.mp hi
    obtain ⟨p, h1, h2⟩ := rowsAt_get hw (List.getElem?_eq_getElem hi')
    have a1 : atI (refs.map D.ref) (i : Int) = some (.ref p) := atI_nat (by rw [List.getElem?_map, h1]; rfl)
    have kk : keyAt acc K i = decide (acc[i].1 = K) := by unfold keyAt; rw [List.getElem?_eq_getElem hi']
    obtain ⟨ss, hss⟩ := ht _ (List.getElem_mem hi')
    simp only [dB, dBin, dVar, dC, dwipe, List.set, List.getElem?_cons_succ, List.getElem?_cons_zero, gIx, hM, a1, h2, rowD, atI_0, gEq]
    refine ⟨⟨by rw [hss]; exact dkn_tune, kd⟩, ?_⟩
    rw [dq_tn, ← kk]
    exact hR
  · simp only [dVar, dwipe, List.set, List.getElem?_cons_succ, List.getElem?_cons_zero]
    exact hR
  simp only [List.set]
  have e0 : dq (.lst ((sameL acc K).map fun j : Nat => D.int j)) (.lst []) = decide (sameL acc K = []) := by rw [dq_nil]; simp
  have dk : dkn 64 (.lst ((sameL acc K).map fun j : Nat => D.int j)) = true := dkn_lstI fun y hy => by
    obtain ⟨j, _, rfl⟩ := List.mem_map.mp hy
    rfl
  show dIf _ _ _ _ [some (bxD k bs), some w1, some (.ref r), some (.int (perN bs)), some (stD s), some (tnD K), some (.lst ((sameL acc K).map fun j : Nat => D.int j)), x7, x8] M'
  simp only [dIf, dB, dBin, dVar, dLst, dNil, gEq, List.getElem?_cons_succ, List.getElem?_cons_zero, List.length_nil, e0]
  have rne : ∀ p, M' p = none → p ≠ r := fun p h e => by subst e; rw [hM] at h; cases h
  refine ⟨Nat.zero_le _, ⟨dk, by decide⟩, fun e => ?_, fun e => ?_⟩
  · obtain ⟨h1, h2⟩ : sameL acc K = [] ∧ addL acc K s = acc ++ [(K, [s])] := by
      rcases sameL_add K s acc with h | ⟨i, t, m, h1, _⟩
      · exact h
      · rw [h1] at e; simp at e
    simp only [dExpr, dAppend, dLstH, dTup, dCons, dNil, dVar, List.getElem?_cons_succ, List.getElem?_cons_zero, hM, List.length_cons, List.length_nil]
    refine ⟨⟨_, rfl⟩, by rw [sizeLine_eq]; omega, by rw [sizeLine_eq]; omega, fun p hpn => ?_⟩
    have pr := rne p hpn
    have hMr : (mput M' p (some (.lst [tnD K, .tup [stD s]]))) r = some (.lst (refs.map D.ref)) := by rw [mput_ne (Ne.symm pr)]; exact hM
    rw [hMr]
    dsimp only
    have Mp : M p = none := by
      cases z : M p with
      | none => rfl
      | some u => rw [hk p (by rw [z]; exact nofun), z] at hpn; cases hpn
    have pn : p ∉ refs := fun z => by
      obtain ⟨i, hi⟩ := List.getElem?_of_mem z
      have hi2 : i < acc.length := by rw [← hlen]; exact (List.getElem?_eq_some_iff.mp hi).1
      obtain ⟨p', h3, h4⟩ := rowsAt_get hw (List.getElem?_eq_getElem hi2)
      rw [hi] at h3
      cases h3
      rw [hpn] at h4; cases h4
    refine ⟨by rw [List.length_map, hlen, sizeLine_eq]; omega, ?_⟩
    have er : refs.map D.ref ++ [D.ref p] = (refs ++ [p]).map D.ref := by rw [List.map_append]; rfl
    rw [er]
    refine q (refs ++ [p]) _ _ _ ⟨?_, ?_, ?_, ?_, ?_, mput_same⟩
    · rw [List.nodup_append]
      exact ⟨nd, by simp, fun a h b hb e => by rw [List.mem_singleton] at hb; subst hb; subst e; exact pn h⟩
    · simp only [List.mem_append, List.mem_singleton, not_or]
      exact ⟨hrr, Ne.symm pr⟩
    · intro y hy
      rcases List.mem_append.mp hy with hy | hy
      · exact hn y hy
      · rw [List.mem_singleton.mp hy]; exact Mp
    · rw [h2]
      refine rowsAt_ne ?_ (rowsAt_snoc ?_ (rowsAt_ne pn hw))
      · simp only [List.mem_append, List.mem_singleton, not_or]
        exact ⟨hrr, Ne.symm pr⟩
      · exact mput_same
    · intro a ha
      have a1 : a ≠ r := fun z => by subst z; exact ha hr
      have a2 : a ≠ p := fun z => by subst z; exact ha Mp
      rw [mput_ne a1, mput_ne a2]
      exact hk a ha
  · rcases sameL_add K s acc with ⟨h1, _⟩ | ⟨i, t, m, h1, h2, h3⟩
    · rw [h1] at e; simp at e
    obtain ⟨p, h4, h5⟩ := rowsAt_get hw h2
    have a0 : atI ((sameL acc K).map fun j : Nat => D.int j) 0 = some (.int i) := by rw [h1]; exact atI_nat (i := 0) rfl
    have a1 : atI (refs.map D.ref) (i : Int) = some (.ref p) := atI_nat (by rw [List.getElem?_map, h4]; rfl)
    have pm : p ∈ refs := List.mem_of_getElem? h4
    have pr : p ≠ r := fun z => by subst z; exact hrr pm
    have hm : m.length ≤ 343 := by
      have := get_mem_sum (List.mem_of_getElem? h2)
      dsimp only at this
      omega
    simp only [dAsg, dBin, dTup, dCons, dNil, dC, dVar, dgSub, List.getElem?_cons_succ, List.getElem?_cons_zero, gIx, a0, hM, a1, h5, rowD, atI_1, stsD, gAdd, List.length_cons, List.length_nil, List.length_map]
    refine ⟨by rw [sizeLine_eq]; omega, by rw [sizeLine_eq]; omega, ?_⟩
    have es : m.map stD ++ [stD s] = (m ++ [s]).map stD := by rw [List.map_append]; rfl
    rw [es]
    have hset : setD [tnD K, .tup (m.map stD)] 1 (.tup ((m ++ [s]).map stD)) = fun P => P [tnD K, .tup ((m ++ [s]).map stD)] := rfl
    rw [hset]
    refine q refs _ _ _ ⟨nd, hrr, hn, ?_, ?_, ?_⟩
    · rw [h3]
      exact rowsAt_set (e := (K, m ++ [s])) nd h4 hw
    · intro a ha
      have a2 : a ≠ p := fun z => by subst z; exact ha (hn _ pm)
      rw [mput_ne a2]
      exact hk a ha
    · rw [mput_ne (Ne.symm pr)]
      exact hM
theorem lots_loop {k : Int} {bs : List Bar} {M : Mem} {W : DEnds} {r : Addr} {PX : DX} {w1 : D} {x7 x8 : Option D} (g : GBs bs) (hr : M r = none) :
    ∀ (l : List (List Int)) (acc : LotT) (refs : List Addr) (M' : Mem) (x4 x5 x6 : Option D), (∀ s ∈ l, GSt bs s) → TuneK bs acc → (acc.map fun e => e.2.length).sum + l.length ≤ 343 → acc.length + l.length ≤ 343 → RowsOk M r acc refs M' →
    (∀ acc' refs' M2 x4 x5 x6, acc' = lotsF (tuneL bs) acc l → acc'.length ≤ 343 → RowsOk M r acc' refs' M2 → W.nx [some (bxD k bs), some w1, some (.ref r), some (.int (perN bs)), x4, x5, x6, x7, x8] M2) →
    forL (dgN 4) (lotsBody PX) W (l.map stD) [some (bxD k bs), some w1, some (.ref r), some (.int (perN bs)), x4, x5, x6, x7, x8] M'
  | [], acc, refs, M', x4, x5, x6, _, _, _, ha, ok, q => q acc refs M' x4 x5 x6 rfl (by simpa using ha) ok
  | s :: l, acc, refs, M', x4, x5, x6, gl, ht, hs, ha, ok, q => by
    rw [List.length_cons] at hs ha
    have hal := addL_len acc (tuneL bs s) s
    show dgN 4 (stD s) _ M' _
    simp only [dgN, List.set]
    refine lots_step g hr (gl s List.mem_cons_self) ht (by omega) (by omega) ok fun refs' M2 x5 x6 ok2 => ?_
    exact lots_loop g hr l _ refs' M2 _ _ _ (fun t h => gl t (List.mem_cons_of_mem _ h)) (addL_tune ht) (by rw [addL_sum]; omega) (by omega) ok2 fun acc' refs'' M3 x4 x5 x6 e => q acc' refs'' M3 x4 x5 x6 e
def sp_law_lots : DSp := fun ds M P _ => ∃ k bs l, ds = [bxD k bs, .lst (l.map stD)] ∧ GBs bs ∧ GSome bs l ∧ P (lotsD (classL bs l)) M
theorem rows_zip {M : Mem} : ∀ {refs : List Addr} {acc : LotT}, rowsAt M refs acc → refs.map D.ref = (refs.zip acc).map (fun z => D.ref z.1) ∧ (refs.zip acc).map (fun z => stsD z.2.2) = acc.map (fun e => stsD e.2) ∧ ∀ z ∈ refs.zip acc, M z.1 = some (rowD z.2)
  | [], [], _ => ⟨rfl, rfl, fun z h => by cases h⟩
  | p :: ps, e :: es, h => by
    obtain ⟨h1, h2, h3⟩ := rows_zip h.2
    refine ⟨by simp [h1], by simpa using h2, fun z hz => ?_⟩
    rw [List.zip_cons_cons] at hz
    rcases List.mem_cons.mp hz with rfl | hz
    · exact h.1
    · exact h3 z hz
theorem l_law_lots (ds : List D) (M : Mem) (P : D → Mem → Prop) (PX : DX) (h : sp_law_lots ds M P PX) : t_law_lots sp_law_size sp_law_tune PX (dEnds P) (dst 9 ds) M := by
  obtain ⟨k, bs, l, rfl, g, gl, h⟩ := h
  simp only [t_law_lots]
  refine seq_ fun V hr _ _ hV => ?_
  simp only [dAsg, dTup, dLstH, dCall, dCons, dNil, dVar, dst, List.length_nil]
  refine ⟨Nat.zero_le _, fun r hrn => ?_⟩
  refine ⟨k, bs, rfl, g, by rw [sizeLine_eq]; simp, ?_⟩
  simp only [dgT, dgCons, dgNil, dgN]
  refine ⟨rfl, hV _ _ ?_⟩
  refine seq_ fun V hr2 _ _ hV => ?_
  simp only [dFor, dIter, dVar]
  show (match seqD (.lst (l.map stD)) with | some xs => _ | none => False)
  simp only [seqD]
  refine lots_loop (M := M) (acc := []) (refs := []) g hrn l _ _ _ _ gl.1 (fun e he => by cases he) (by simpa using gl.2.2) (by simpa using gl.2.2) ⟨by simp, by simp, by simp, trivial, fun a ha => mput_ne (fun e => by subst e; exact ha hrn), mput_same⟩ fun acc refs M2 x4 x5 x6 e hal ⟨nd, hrr, hn, hw, hk, hM⟩ => hV _ _ ?_
  simp only [dFrz]
  refine ⟨r, _, rfl, hM, ?_⟩
  simp only [dRetD, dComp, dIter, dVar, List.set, List.getElem?_cons_succ, List.getElem?_cons_zero, seqD]
  obtain ⟨z1, z2, z3⟩ := rows_zip (rowsAt_ne (q := r) (o := none) hrr hw)
  refine ⟨by rw [List.length_map, rowsAt_len hw, sizeLine_eq]; omega, ?_⟩
  rw [z1]
  refine comp_1 (h := fun z : Addr × (Tn × List (List Int)) => D.ref z.1) (fun z => stsD z.2.2) (refs.zip acc) (fun z hz R hR => ?_) ?_
  · simp only [dBin, dVar, dC, dwipe, List.set, List.getElem?_cons_succ, List.getElem?_cons_zero, gIx, z3 z hz, rowD, atI_1]
    exact hR
  · rw [z2]
    refine ⟨M, fun a => ?_, ?_⟩
    · cases q : M a with
      | none => exact .inl rfl
      | some u =>
        refine .inr ?_
        have a1 : a ≠ r := fun z => by subst z; rw [hrn] at q; cases q
        rw [mput_ne a1, ← q]
        exact (hk a (by rw [q]; exact nofun)).symm
    · have e1 : D.lst (acc.map fun e => stsD e.2) = lotsD (classL bs l) := by
        unfold lotsD classL lotsL
        rw [e, List.map_map]
        rfl
      rw [e1]
      exact Fz.here h
end DL

set_option Elab.async false
set_option linter.all false
set_option maxRecDepth 100000
set_option maxHeartbeats 4000000
namespace DL
open PySem PySem.Spec PyProof.Rows L2
/-! ### tests that are so or not -/
def Bo (u : DTT) (b : Bool) (ds : DSt) (M : Mem) : Prop := ∀ P : Bool → Mem → Prop, P b M → u ds M P
theorem bo_and {u w : DTT} {a b : Bool} {ds : DSt} {M : Mem} (h : Bo u a ds M) (h2 : Bo w b ds M) : Bo (dAnd u w) (a && b) ds M := fun P q => h _ (by
  cases a with
  | true => exact ⟨fun _ => h2 P q, fun z => (by cases z)⟩
  | false => exact ⟨fun z => (by cases z), fun _ => q⟩)
theorem bo_or {u w : DTT} {a b : Bool} {ds : DSt} {M : Mem} (h : Bo u a ds M) (h2 : Bo w b ds M) : Bo (dOr u w) (a || b) ds M := fun P q => h _ (by
  cases a with
  | true => exact ⟨fun _ => q, fun z => (by cases z)⟩
  | false => exact ⟨fun z => (by cases z), fun _ => h2 P q⟩)
theorem bo_eq {ta tb : DTE} {x y : D} {ds : DSt} {M : Mem} (hx : dkn 64 x = true) (hy : dkn 64 y = true) (ha : Is ta x ds M) (hb : Is tb y ds M) : Bo (dB (dBin gEq ta tb)) (dq x y) ds M := fun P q => ha _ (hb _ ⟨⟨hx, hy⟩, q⟩)
theorem bo_ne {ta tb : DTE} {x y : D} {ds : DSt} {M : Mem} (hx : dkn 64 x = true) (hy : dkn 64 y = true) (ha : Is ta x ds M) (hb : Is tb y ds M) : Bo (dB (dBin gNe ta tb)) (!dq x y) ds M := fun P q => ha _ (hb _ ⟨⟨hx, hy⟩, q⟩)
theorem bo_in {ta tb : DTE} {x y : Str} {ds : DSt} {M : Mem} (ha : Is ta (.str x) ds M) (hb : Is tb (.str y) ds M) : Bo (dB (dBin (gIn false) ta tb)) (strIn x y) ds M := fun P q => ha _ (hb _ q)
theorem bo_nin {ta tb : DTE} {x y : Str} {ds : DSt} {M : Mem} (ha : Is ta (.str x) ds M) (hb : Is tb (.str y) ds M) : Bo (dB (dBin (gIn true) ta tb)) (!strIn x y) ds M := fun P q => ha _ (hb _ q)
theorem if_bo {u : DTT} {b : Bool} {st : DTS} {W : DEnds} {ds : DSt} {M : Mem} (h : Bo u b ds M) (q1 : b = true → st W ds M) (q2 : b = false → W.nx ds M) : dIf u st dSkip W ds M := h _ ⟨q1, q2⟩
/-! ### the law's own test of facts -/
def sp_law_goes : DSp := fun ds M P _ => ∃ k bs ss fs, ds = [bxD k bs, stD ss, factsD fs] ∧ GBs bs ∧ GSt bs ss ∧ (∀ f ∈ fs, GFact f) ∧ fs.length ≤ 1000 ∧ P (.bl (fs.all (holds bs ss))) M
theorem wd_silent (w : Wd) : dq (.str (wdS w)) (.str "silent") = (match w with | .si => true | _ => false) := by
  cases w <;> decide +kernel
abbrev goesBody (PX : DX) : DTS := (dSeq (dSet 6 (dCall sp_law_heard PX (dCons (dVar 0) (dCons (dVar 1) (dCons (dVar 4) dNil))))) (dSeq (dIf (dAnd (dB (dBin gEq (dVar 3) (dC (.str "chord")))) (dB (dBin gNe (dVar 6) (dVar 5)))) (dRet (dC (.bl false))) dSkip) (dIf (dOr (dAnd (dB (dBin gEq (dVar 3) (dC (.str "sounds")))) (dB (dBin (gIn true) (dVar 5) (dVar 6)))) (dAnd (dB (dBin gEq (dVar 3) (dC (.str "silent")))) (dB (dBin (gIn false) (dVar 5) (dVar 6))))) (dRet (dC (.bl false))) dSkip)))
theorem goes_step {k : Int} {bs : List Bar} {ss : List Int} {f : Fact} {V : DEnds} {M : Mem} {PX : DX} {w2 : D} {x6 : Option D} (g : GBs bs) (gs : GSt bs ss) (gf : GFact f)
    (q1 : holds bs ss f = true → ∀ x6, V.nx [some (bxD k bs), some (stD ss), some w2, some (.str (wdS f.w)), some (.int f.t), some (sD f.x), x6] M) (q2 : holds bs ss f = false → V.rt (.bl false) M) :
    goesBody PX V [some (bxD k bs), some (stD ss), some w2, some (.str (wdS f.w)), some (.int f.t), some (sD f.x), x6] M := by
  obtain ⟨w, t, x⟩ := f
  obtain ⟨e1, e2, _⟩ := wd_eq w
  have e3 := wd_silent w
  simp only [goesBody]
  refine seq_ fun V1 hr1 _ _ hV1 => ?_
  simp only [dSet, dCall, dCons, dNil, dVar, List.getElem?_cons_succ, List.getElem?_cons_zero]
  refine ⟨k, bs, ss, t, rfl, g.2.2, g.2.1, gs, hV1 _ _ ?_⟩
  simp only [List.set]
  have kx := dkn_s 64 _ (gx_ok gf.2)
  have kw : dkn 64 (.str (wdS w)) = true := dkn_wd _ _
  have v3 : Is (dVar 3) (.str (wdS w)) [some (bxD k bs), some (stD ss), some w2, some (.str (wdS w)), some (.int t), some (sD x), some (sD (heard bs ss t))] M := fun P q => q
  have v5 : Is (dVar 5) (sD x) [some (bxD k bs), some (stD ss), some w2, some (.str (wdS w)), some (.int t), some (sD x), some (sD (heard bs ss t))] M := fun P q => q
  have v6 : Is (dVar 6) (sD (heard bs ss t)) [some (bxD k bs), some (stD ss), some w2, some (.str (wdS w)), some (.int t), some (sD x), some (sD (heard bs ss t))] M := fun P q => q
  refine seq_ fun V2 hr2 _ _ hV2 => ?_
  refine if_bo (bo_and (bo_eq kw (by decide +kernel) v3 (fun P q => q)) (bo_ne (dkn_heard _ _ _ _) kx v6 v5)) (fun h => ?_) (fun h => hV2 _ _ ?_)
  · rw [e1, dq_s] at h
    show V2.rt _ _
    rw [hr2]
    refine q2 ?_
    cases w <;> simp [holds] at h ⊢
    exact h
  · rw [e1, dq_s] at h
    refine if_bo (bo_or (bo_and (bo_eq kw (by decide +kernel) v3 (fun P q => q)) (bo_nin v5 v6)) (bo_and (bo_eq kw (by decide +kernel) v3 (fun P q => q)) (bo_in v5 v6))) (fun h2 => ?_) (fun h2 => ?_)
    · rw [e2, e3] at h2
      show V.rt _ _
      refine q2 ?_
      have gx := gf.2
      cases w with
      | ch => simp at h2
      | so =>
        obtain ⟨c, hc, e4⟩ := gx
        have e4 : x = [c] := e4
        subst e4
        rw [strIn_one] at h2
        simpa [holds] using h2
      | si =>
        obtain ⟨c, hc, e4⟩ := gx
        have e4 : x = [c] := e4
        subst e4
        rw [strIn_one] at h2
        simpa [holds] using h2
    · rw [e2, e3] at h2
      refine q1 ?_ _
      have gx := gf.2
      cases w with
      | ch => simpa [holds] using h
      | so =>
        obtain ⟨c, hc, e4⟩ := gx
        have e4 : x = [c] := e4
        subst e4
        rw [strIn_one] at h2
        simpa [holds] using h2
      | si =>
        obtain ⟨c, hc, e4⟩ := gx
        have e4 : x = [c] := e4
        subst e4
        rw [strIn_one] at h2
        simpa [holds] using h2
theorem goes_loop {k : Int} {bs : List Bar} {ss : List Int} {W : DEnds} {M : Mem} {PX : DX} {w2 : D} (g : GBs bs) (gs : GSt bs ss) : ∀ (fs : List Fact) (x3 x4 x5 x6 : Option D), (∀ f ∈ fs, GFact f) →
    (fs.all (holds bs ss) = true → ∀ x3 x4 x5 x6, W.nx [some (bxD k bs), some (stD ss), some w2, x3, x4, x5, x6] M) → (fs.all (holds bs ss) = false → W.rt (.bl false) M) →
    forL (dgT 3 (dgCons (dgN 3) (dgCons (dgN 4) (dgCons (dgN 5) dgNil)))) (goesBody PX) W (fs.map factD) [some (bxD k bs), some (stD ss), some w2, x3, x4, x5, x6] M
  | [], x3, x4, x5, x6, _, q1, _ => q1 rfl x3 x4 x5 x6
  | f :: fs, x3, x4, x5, x6, gf, q1, q2 => by
    show dgT 3 _ (factD f) _ M _
    unfold factD
    simp only [dgT, dgCons, dgNil, dgN, List.set]
    refine ⟨rfl, ?_⟩
    rw [List.all_cons] at q1 q2
    refine goes_step g gs (gf f List.mem_cons_self) (fun h x6 => ?_) (fun h => q2 (by rw [h, Bool.false_and]))
    refine goes_loop g gs fs _ _ _ _ (fun x hx => gf x (List.mem_cons_of_mem _ hx)) (fun h2 => q1 (by rw [h, h2]; rfl)) (fun h2 => q2 (by rw [h, h2]; rfl))
theorem l_law_goes (ds : List D) (M : Mem) (P : D → Mem → Prop) (PX : DX) (h : sp_law_goes ds M P PX) : t_law_goes sp_law_heard PX (dEnds P) (dst 7 ds) M := by
  obtain ⟨k, bs, ss, fs, rfl, g, gs, gf, hl, h⟩ := h
  simp only [t_law_goes]
  refine seq_ fun V hr _ _ hV => ?_
  simp only [dFor, dIter, dVar, dst]
  show (match seqD (factsD fs) with | some xs => _ | none => False)
  simp only [factsD, seqD]
  refine goes_loop g gs fs _ _ _ _ gf (fun e x3 x4 x5 x6 => hV _ _ ?_) (fun e => ?_)
  · rw [e] at h
    exact Fz.here h
  · rw [hr]
    rw [e] at h
    exact Fz.here h
/-! ### a fact -/
def sp_law_a_fact_k06 : DSp := fun ds M P _ => ∃ (a : Addr) (k : Int) (bs : List Bar) (ss : List Int) (n : Nat), ds = [.ref a, bxD k bs, stD ss] ∧ GBs bs ∧ GSt bs ss ∧ DeckAt M a (n + 20) ∧ ∀ f M', GFact f → KpM a M M' → DeckAt M' a n → P (factD f) M'
theorem l_law_a_fact_k06 (ds : List D) (M : Mem) (P : D → Mem → Prop) (PX : DX) (h : sp_law_a_fact_k06 ds M P PX) : t_law_a_fact_k06 sp_law_one sp_law_pick sp_law_heard sp_law_some_teeth PX (dEnds P) (dst 6 ds) M := by
  obtain ⟨a, k, bs, ss, n, rfl, g, gs, hd, h⟩ := h
  have z : ∀ n : Nat, n ≤ 20 → n ≤ sizeLine := fun n h => by rw [sizeLine_eq]; omega
  simp only [t_law_a_fact_k06]
  refine seq_ fun V hr _ _ hV => ?_
  simp [dSet, dCall, dCons, dNil, dLst, dBin, dVar, dC, gPow, gIC, CPow, gSub, gI, dst]
  refine ⟨a, 9, n + 19, rfl, by decide, by decide, hd, fun q1 M1 q10 q11 kp1 hd1 => ?_⟩
  refine ⟨a, 99, n + 18, rfl, by decide, by decide, hd1, fun q2 M2 q20 q21 kp2 hd2 => ?_⟩
  refine ⟨z _ (by decide), a, _, n + 17, rfl, by simp, by simp, hd2, fun t M3 ht kp3 hd3 => hV _ _ ?_⟩
  obtain ⟨t, rfl, t1⟩ : ∃ t' : Nat, t = .int t' ∧ (t' : Int) ≤ GR := by
    simp at ht
    rcases ht with rfl | rfl
    · exact ⟨q1.toNat, by rw [Int.toNat_of_nonneg q10], by rw [Int.toNat_of_nonneg q10]; show q1 ≤ (1000000000000000000000000000000 : Int); omega⟩
    · refine ⟨(1000000000000000000000000000000 - q2).toNat, by rw [Int.toNat_of_nonneg (by omega)], by rw [Int.toNat_of_nonneg (by omega)]; show _ ≤ (1000000000000000000000000000000 : Int); omega⟩
  have kp := (kp1.trans kp2).trans kp3
  refine seq_ fun V hr2 _ _ hV => ?_
  simp only [dSet, dCall, dCons, dNil, dVar, List.getElem?_cons_succ, List.getElem?_cons_zero]
  refine ⟨k, bs, ss, t, rfl, g.2.2, g.2.1, gs, hV _ _ ?_⟩
  simp only [List.set]
  refine seq_ fun V hr3 _ _ hV => ?_
  simp only [dIf, dB, dBin, dCall, dCons, dNil, dVar, dC, gEq, dSkip, List.getElem?_cons_succ, List.getElem?_cons_zero]
  refine ⟨a, 6, n + 16, rfl, by decide, by decide, hd3, fun q4 M4 _ _ kp4 hd4 => ?_⟩
  refine ⟨⟨dkn_int _ _, dkn_int _ _⟩, fun _ => ?_, fun _ => hV _ _ ?_⟩
  · simp only [dRet, dTup, dCall, dCons, dNil, dVar, dC, List.getElem?_cons_succ, List.getElem?_cons_zero]
    refine ⟨a, n, rfl, hd4.less (by omega), fun l M5 hl kp5 hd5 => ⟨z 3 (by decide), ?_⟩⟩
    rw [hr3]
    exact Fz.here (h ⟨.ch, t, l⟩ M5 ⟨t1, hl⟩ ((kp.trans kp4).trans kp5) hd5)
  refine seq_ fun V hr4 _ _ hV => ?_
  simp only [dSet, dCall, dCons, dNil, dLst, dVar, dC, List.getElem?_cons_succ, List.getElem?_cons_zero]
  refine ⟨z _ (by decide), a, _, n + 15, rfl, by simp, by simp, hd4, fun y M5 hy kp5 hd5 => hV _ _ ?_⟩
  obtain ⟨c, rfl, hc⟩ : ∃ c, y = sD [c] ∧ c ∈ teeth := by
    simp only [List.mem_cons, List.not_mem_nil, or_false] at hy
    rcases hy with rfl | rfl | rfl | rfl
    · exact ⟨97, rfl, by decide⟩
    · exact ⟨98, rfl, by decide⟩
    · exact ⟨99, rfl, by decide⟩
    · exact ⟨100, rfl, by decide⟩
  simp only [List.set]
  refine seq_ fun V hr5 _ _ hV => ?_
  simp only [dIf, dB, dBin, dCall, dCons, dNil, dVar, dC, gEq, dSkip, List.getElem?_cons_succ, List.getElem?_cons_zero]
  refine ⟨a, 2, n + 14, rfl, by decide, by decide, hd5, fun q6 M6 _ _ kp6 hd6 => ?_⟩
  refine ⟨⟨dkn_int _ _, dkn_int _ _⟩, fun _ => ?_, fun _ => hV _ _ ?_⟩
  · simp only [dRet, dTup, dCons, dNil, dVar, dC, List.getElem?_cons_succ, List.getElem?_cons_zero, List.length_cons, List.length_nil]
    refine ⟨z 3 (by decide), ?_⟩
    rw [hr5]
    exact Fz.here (h ⟨.ch, t, heard bs ss t⟩ M6 ⟨t1, canon_idem _⟩ (((kp.trans kp4).trans kp5).trans kp6) (hd6.less (by omega)))
  · simp only [dRet, dTup, dIfE, dB, dBin, dCons, dNil, dVar, dC, gIn, List.getElem?_cons_succ, List.getElem?_cons_zero, dEnds]
    have kpA := (((kp.trans kp4).trans kp5).trans kp6)
    refine ⟨fun _ => ⟨z 3 (by decide), ?_⟩, fun _ => ⟨z 3 (by decide), ?_⟩⟩
    · exact Fz.here (h ⟨.so, t, [c]⟩ M6 ⟨t1, c, hc, rfl⟩ kpA (hd6.less (by omega)))
    · exact Fz.here (h ⟨.si, t, [c]⟩ M6 ⟨t1, c, hc, rfl⟩ kpA (hd6.less (by omega)))
/-! ### classes -/
def sp_classes (eB eF : Addr) : DSp := fun ds M P PX => ∃ b f, ds = [b, f] ∧ dkn 50 b = true ∧ dkn 50 f = true ∧
  ((isBox b = false ∧ PX (.ref eB) none M) ∨ ∃ k bs, b = bxD k bs ∧ GBox k bs ∧ ((areFacts f = false ∧ PX (.ref eF) none M) ∨ ∃ fs, f = factsD fs ∧ (∀ x ∈ fs, GFact x) ∧ fs.length ≤ 6 ∧ P (lotsD (classL bs (leftL bs fs))) M))
theorem l_classes {eB eF : Addr} (ds : List D) (M : Mem) (P : D → Mem → Prop) (PX : DX) (h : sp_classes eB eF ds M P PX) : t_classes (sp_need_box eB) (sp_need_facts eF) sp_classes_of sp_left_ones PX (dEnds P) (dst 2 ds) M := by
  obtain ⟨b, f, rfl, kb, kf, h⟩ := h
  simp [t_classes, dSeq, dExpr, dCall, dCons, dNil, dVar, dRet, dEnds, dst, sp_need_box, sp_need_facts]
  refine ⟨dkn_mono 50 55 b (by omega) kb, ?_⟩
  rcases h with ⟨e, h⟩ | ⟨k, bs, rfl, gb, h⟩
  · exact .inl ⟨e, h⟩
  refine .inr ⟨isBox_of gb, ?_⟩
  refine ⟨dkn_mono 50 55 f (by omega) kf, ?_⟩
  rcases h with ⟨e, h⟩ | ⟨fs, rfl, gf, hl, h⟩
  · exact .inl ⟨e, h⟩
  refine .inr ⟨areFacts_of gf hl, ?_⟩
  refine ⟨k, bs, fs, rfl, gb.bs, ⟨gf, by omega⟩, ?_⟩
  exact ⟨k, bs, leftL bs fs, rfl, gb.bs, left_some gb.bs, Fz.here h⟩
theorem classes_call {eB eF : Addr} {k : Int} {bs : List Bar} {fs : List Fact} {M : Mem} {P : D → Mem → Prop} {PX : DX} (gb : GBox k bs) (gf : ∀ x ∈ fs, GFact x) (hl : fs.length ≤ 6) (q : P (lotsD (classL bs (leftL bs fs))) M) : sp_classes eB eF [bxD k bs, factsD fs] M P PX :=
  ⟨_, _, rfl, dkn_bx gb.2.2.2.2, dkn_facts gf 48, .inr ⟨k, bs, rfl, gb, .inr ⟨fs, rfl, gf, hl, q⟩⟩⟩
end DL

set_option Elab.async false
set_option linter.all false
set_option maxRecDepth 100000
set_option maxHeartbeats 4000000
namespace DL
open PySem PySem.Spec PyProof.Rows L2
/-! ### clashes -/
def FL (bs : List Bar) (ss : List Int) (t : Nat) : List Nat := (picks bs ss t).flatten
def soon (k : Int) (bs : List Bar) (ss : List Int) (t : Nat) (c : Nat) : Bool := (List.range t).any fun u => decide ((t : Int) - u ≤ k) && decide (c ∈ FL bs ss u)
def twice (l : List Nat) : Bool := l.any fun c => decide (1 < l.count c)
def clN (k : Int) (bs : List Bar) (ss : List Int) (t : Nat) : Bool := twice (FL bs ss t) || (FL bs ss t).any fun c => soon k bs ss t c
theorem fl_teeth {bs : List Bar} {ss : List Int} (gb : ∀ b ∈ bs, GBar b) (gs : GSt bs ss) (t : Nat) : ∀ c ∈ FL bs ss t, c ∈ teeth := fun c hc => by
  obtain ⟨l, hl, h⟩ := List.mem_flatten.mp hc
  exact canon_teeth (picks_ok t gs gb l hl) c h
theorem mem_heard {bs : List Bar} {ss : List Int} (gb : ∀ b ∈ bs, GBar b) (gs : GSt bs ss) (t c : Nat) : c ∈ heard bs ss t ↔ c ∈ FL bs ss t := by
  unfold heard canon
  rw [List.mem_filter, decide_eq_true_iff]
  exact ⟨fun h => h.2, fun h => ⟨fl_teeth gb gs t c h, h⟩⟩
theorem fl_len {bs : List Bar} {ss : List Int} (g : GBs bs) (gs : GSt bs ss) (t : Nat) : (FL bs ss t).length ≤ 12 := by
  have h1 := sum_le (picks_ok t gs g.2.2)
  rw [picks_len t gs] at h1
  have := g.2.1
  unfold FL
  rw [List.length_flatten]
  omega
theorem fl_per (bs : List Bar) (ss : List Int) (t : Nat) : FL bs ss (t + perN bs) = FL bs ss t := by
  unfold FL
  rw [show ((t + perN bs : Nat) : Int) = (t : Int) + perN bs by push_cast; rfl, picks_per t fun b hb => perN_dvd hb]
theorem soon_iff {k : Int} {bs : List Bar} {ss : List Int} {t c : Nat} : soon k bs ss t c = true ↔ ∃ u, u < t ∧ (t : Int) - u ≤ k ∧ c ∈ FL bs ss u := by
  unfold soon
  rw [List.any_eq_true]
  simp only [List.mem_range, Bool.and_eq_true, decide_eq_true_eq]
theorem soon_per {k : Int} {bs : List Bar} {ss : List Int} {t c : Nat} (h : k ≤ t) : soon k bs ss (t + perN bs) c = soon k bs ss t c := by
  rw [Bool.eq_iff_iff, soon_iff, soon_iff]
  constructor
  · rintro ⟨u, h1, h2, h3⟩
    refine ⟨u - perN bs, by omega, by omega, ?_⟩
    rw [← fl_per, show u - perN bs + perN bs = u by omega]
    exact h3
  · rintro ⟨u, h1, h2, h3⟩
    refine ⟨u + perN bs, by omega, by omega, ?_⟩
    rw [fl_per]
    exact h3
theorem clN_per {k : Int} {bs : List Bar} {ss : List Int} {t : Nat} (h : k ≤ t) : clN k bs ss (t + perN bs) = clN k bs ss t := by
  unfold clN
  rw [fl_per]
  congr 1
  exact congrArg _ (funext fun c => soon_per h)
/-! counting doubles -/
theorem foldT_len : ∀ (l : List Nat) (acc : List Str), (l.foldl (fun a c => addT a (sN [c])) acc).length ≤ acc.length + l.length ∧
    ((l.foldl (fun a c => addT a (sN [c])) acc).length = acc.length + l.length ↔ (l.Nodup ∧ ∀ c ∈ l, sN [c] ∉ acc))
  | [], acc => by simp
  | c :: l, acc => by
    rw [List.foldl_cons]
    obtain ⟨h1, h2⟩ := foldT_len l (addT acc (sN [c]))
    by_cases e : sN [c] ∈ acc
    · have ea : addT acc (sN [c]) = acc := by unfold addT; rw [if_pos e]
      rw [ea] at h1 h2 ⊢
      rw [List.length_cons]
      refine ⟨by omega, ⟨fun q => by omega, fun q => absurd e (q.2 c List.mem_cons_self)⟩⟩
    · have ea : addT acc (sN [c]) = acc ++ [sN [c]] := by unfold addT; rw [if_neg e]
      rw [ea, List.length_append, List.length_singleton] at h1 h2
      rw [ea, List.length_cons]
      refine ⟨by omega, ?_⟩
      rw [show acc.length + (l.length + 1) = acc.length + 1 + l.length by omega, h2, List.nodup_cons]
      constructor
      · rintro ⟨q1, q2⟩
        refine ⟨⟨fun hc => q2 c hc (by simp), q1⟩, fun d hd => ?_⟩
        rcases List.mem_cons.mp hd with rfl | hd
        · exact e
        · exact fun z => q2 d hd (List.mem_append_left _ z)
      · rintro ⟨⟨q1, q2⟩, q3⟩
        refine ⟨q2, fun d hd z => ?_⟩
        rcases List.mem_append.mp z with z | z
        · exact q3 d (List.mem_cons_of_mem _ hd) z
        · have e2 := sN_inj.mp (List.mem_singleton.mp z)
          injection e2 with e2
          subst e2
          exact q1 hd
theorem setT_len (l : List Nat) : (setT (l.map fun c => sN [c])).length ≤ l.length ∧ ((setT (l.map fun c => sN [c])).length = l.length ↔ l.Nodup) := by
  have h := foldT_len l []
  unfold setT
  rw [List.foldl_map]
  simpa using h
theorem twice_nodup : ∀ l : List Nat, twice l = false ↔ l.Nodup
  | l => by
    unfold twice
    rw [List.any_eq_false]
    simp only [decide_eq_true_eq, Nat.not_lt]
    rw [List.nodup_iff_count]
    exact ⟨fun h a => by
      by_cases m : a ∈ l
      · exact h a m
      · rw [List.count_eq_zero.mpr m]; omega, fun h a _ => h a⟩
theorem twice_set (l : List Nat) : decide (((setT (l.map fun c => sN [c])).length : Int) < (l.length : Int)) = twice l := by
  obtain ⟨h1, h2⟩ := setT_len l
  have h3 := twice_nodup l
  cases e : twice l with
  | true =>
    have : ¬ l.Nodup := fun z => by rw [h3.mpr z] at e; cases e
    have : ¬ (setT (l.map fun c => sN [c])).length = l.length := fun z => this (h2.mp z)
    simp; omega
  | false =>
    have := h2.mpr (h3.mp e)
    simp; omega
theorem sum_const {α : Type} (c : Nat) : ∀ l : List α, (l.map fun _ => c).sum = l.length * c
  | [] => by simp
  | a :: l => by rw [List.map_cons, List.sum_cons, sum_const c l, List.length_cons, Nat.add_mul]; omega
/-! is_clash -/
def sp_is_clash : DSp := fun ds M P _ => ∃ k bs ss, ∃ t : Nat, ds = [bxD k bs, stD ss, .int t] ∧ 0 ≤ k ∧ k ≤ 3 ∧ t ≤ 100000 ∧ GBs bs ∧ GSt bs ss ∧ P (.bl (clN k bs ss t)) M
theorem signs_s (l : List Nat) : signs (sN l) = l.map fun c => sD [c] := by
  unfold signs sN
  simp [sD, sN]
theorem any_flat {α β : Type} (l : List α) (il : List β) (p : α → β → Bool) : (l.flatMap fun a => il.map fun b => D.bl (p a b)) = (l.flatMap fun a => il.map (p a)).map D.bl := by
  rw [List.map_flatMap]
  simp [List.map_map, Function.comp_def]
theorem l_is_clash (ds : List D) (M : Mem) (P : D → Mem → Prop) (PX : DX) (h : sp_is_clash ds M P PX) : t_is_clash sp_items_at sp_chord_at PX (dEnds P) (dst 8 ds) M := by
  obtain ⟨k, bs, ss, t, rfl, k0, k3, ht, g, gs, h⟩ := h
  have h' := Fz.here h
  have hl := fl_len g gs t
  have hb3 := g.2.1
  simp only [t_is_clash]
  refine seq_ fun V hr _ _ hV => ?_
  simp only [dSet, dJoin, dC, dCall, dCons, dNil, dVar, dst]
  refine ⟨k, bs, ss, t, rfl, gs, by omega, ?_⟩
  refine join_strs ?_ (hV _ _ ?_)
  · have := sum_le (picks_ok t gs g.2.2)
    rw [picks_len t gs] at this
    omega
  show dSeq _ _ _ [some (bxD k bs), some (stD ss), some (.int t), some (sD (FL bs ss t)), none, none, none, none] M
  refine seq_ fun V hr2 _ _ hV => ?_
  have et : txts (sD (FL bs ss t)) = some ((FL bs ss t).map fun c => sN [c]) := by
    show some ((sN (FL bs ss t)).cps.toList.map fun c => (⟨#[c]⟩ : Str)) = _
    unfold sN
    simp
  simp only [dIf, dB, dBin, dApp, dLenSet, dCons, dNil, dVar, List.getElem?_cons_succ, List.getElem?_cons_zero, gLen, et, dSkip, gGt, List.length_map]
  have hsl : ((sN (FL bs ss t)).length : Int) = (FL bs ss t).length := by rfl
  refine ⟨by rw [sizeLine_eq]; have : (sN (FL bs ss t)).length = (FL bs ss t).length := rfl; omega, by unfold scanBound; omega, ?_⟩
  simp only [gI, hsl]
  rw [twice_set]
  refine ⟨fun e => ?_, fun e => hV _ _ ?_⟩
  · have e2 : clN k bs ss t = true := by unfold clN; rw [e]; rfl
    rw [e2] at h'
    simp only [dRet, dC, hr2, dEnds]
    exact h'
  have e2 : clN k bs ss t = (FL bs ss t).any fun c => soon k bs ss t c := by unfold clN; rw [e, Bool.false_or]
  rw [e2] at h'
  refine seq_ fun V hr3 _ _ hV => ?_
  have a0 : atI [D.int k, .tup (bs.map barD)] 0 = some (.int k) := rfl
  obtain ⟨lo, hlo, hlo2⟩ : ∃ lo : Nat, (if (t : Int) - k > 0 then (t : Int) - k else 0) = (lo : Int) ∧ ∀ u : Nat, u < t → ((t : Int) - u ≤ k ↔ lo ≤ u) := by
    refine ⟨((t : Int) - k).toNat, ?_, fun u hu => by omega⟩
    split <;> omega
  have hlt : lo ≤ t := by
    have : (if (t : Int) - k > 0 then (t : Int) - k else 0) ≤ t := by split <;> omega
    omega
  simp only [dSet, dComp, dRng2, dApp, dBin, dCons, dNil, dC, dVar, List.getElem?_cons_succ, List.getElem?_cons_zero, bxD, gIx, a0, gSub, gI, gMax2, hlo]
  refine ⟨⟨by omega, by omega, by omega, by omega⟩, ?_⟩
  have eu : upto (lo : Int) ((t : Int) - lo).toNat = (List.range (t - lo)).map fun j : Nat => D.int ((lo + j : Nat) : Int) := by
    unfold upto
    rw [show ((t : Int) - lo).toNat = t - lo by omega]
    exact List.map_congr_left fun j _ => by push_cast; rfl
  rw [eu]
  refine ⟨by rw [sizeLine_eq, List.length_map, List.length_range]; omega, ?_⟩
  refine comp_1 (fun j : Nat => sD (heard bs ss ((lo + j : Nat) : Int))) _ (fun j hj R hR => ?_) (hV _ _ ?_)
  · simp only [dCall, dCons, dNil, dVar, dwipe, List.set, List.getElem?_cons_succ, List.getElem?_cons_zero]
    exact ⟨k, bs, ss, _, rfl, gs, by omega, g.2.2, hR⟩
  simp only [List.set]
  simp only [dRet, dApp, dCons, dNil, dComp2, dIter, dVar, List.getElem?_cons_succ, List.getElem?_cons_zero]
  show compL2 _ _ _ _ _ _ _ _ _ _ (signs (sN (FL bs ss t))) [] M
  rw [signs_s]
  refine comp_2 (fun _ => List.range (t - lo)) (fun j : Nat => sD (heard bs ss ((lo + j : Nat) : Int))) (fun c (j : Nat) => .bl (decide (c ∈ heard bs ss ((lo + j : Nat) : Int)))) (FL bs ss t) [] (fun c hc R hR => ?_) (fun c hc j hj R hR => ?_) ?_ ?_
  · exact hR
  · show R (.bl (strIn (sN [c]) (sN (heard bs ss ((lo + j : Nat) : Int))))) M
    rw [strIn_one]
    exact hR
  · have e : ((FL bs ss t).map fun _ => (List.range (t - lo)).length).sum = (FL bs ss t).length * (t - lo) := by
      rw [List.length_range]
      exact sum_const _ _
    rw [e, sizeLine_eq]
    have h1 : t - lo ≤ 3 := by
      have : (if (t : Int) - k > 0 then (t : Int) - k else 0) ≥ (t : Int) - k := by split <;> omega
      omega
    have h2 : (FL bs ss t).length * (t - lo) ≤ 12 * 3 := Nat.mul_le_mul hl h1
    simp only [List.length_nil]
    omega
  · rw [List.nil_append, any_flat]
    simp only [gAny, blsOf_map]
    have ea : ((FL bs ss t).flatMap fun a => (List.range (t - lo)).map fun j : Nat => decide (a ∈ heard bs ss ((lo + j : Nat) : Int))).any id = (FL bs ss t).any fun c => soon k bs ss t c := by
      rw [Bool.eq_iff_iff, List.any_eq_true, List.any_eq_true]
      constructor
      · rintro ⟨b, hb, eb⟩
        obtain ⟨c, hc, hb⟩ := List.mem_flatMap.mp hb
        obtain ⟨j, hj, rfl⟩ := List.mem_map.mp hb
        have hj := List.mem_range.mp hj
        refine ⟨c, hc, soon_iff.mpr ⟨lo + j, by omega, (hlo2 _ (by omega)).mpr (by omega), ?_⟩⟩
        have : c ∈ heard bs ss ((lo + j : Nat) : Int) := by simpa using eb
        exact (mem_heard g.2.2 gs _ _).mp this
      · rintro ⟨c, hc, hs⟩
        obtain ⟨u, h1, h2, h3⟩ := soon_iff.mp hs
        have h4 := (hlo2 u h1).mp h2
        refine ⟨true, List.mem_flatMap.mpr ⟨c, hc, List.mem_map.mpr ⟨u - lo, List.mem_range.mpr (by omega), ?_⟩⟩, rfl⟩
        rw [show lo + (u - lo) = u by omega]
        exact decide_eq_true ((mem_heard g.2.2 gs _ _).mpr h3)
    rw [ea]
    exact h'
/-! the first -/
def firstN (p : Nat → Bool) (n : Nat) : Option Nat := (List.range n).find? p
def optD (o : Option Nat) : D := match o with | some t => .int t | none => .non
def firstV (k : Int) (bs : List Bar) (ss : List Int) : D := optD (firstN (clN k bs ss) (perN bs + k.toNat))
def sp_first_of : DSp := fun ds M P _ => ∃ k bs ss, ds = [bxD k bs, stD ss] ∧ 0 ≤ k ∧ k ≤ 3 ∧ GBs bs ∧ GSt bs ss ∧ P (firstV k bs ss) M
theorem first_loop {p : Nat → Bool} {n : Nat} {W : DEnds} {M : Mem} {tb : DTS} {σ : Option D → DSt} (htb : ∀ (t : Nat) (x : Option D) (V : DEnds), t < n → (p t = true → V.rt (.int t) M) → (p t = false → ∀ x, V.nx (σ x) M) → dgN 2 (.int t) (σ x) M fun ds1 M1 => tb V ds1 M1) :
    ∀ (l : List Nat) (x : Option D), (∀ t ∈ l, t < n) → (∀ t, l.find? p = some t → W.rt (.int t) M) → (l.find? p = none → ∀ x, W.nx (σ x) M) → forL (dgN 2) tb W (l.map fun t : Nat => D.int t) (σ x) M
  | [], x, _, _, q => q rfl x
  | t :: l, x, hl, q1, q2 => by
    refine htb t x _ (hl t List.mem_cons_self) (fun e => q1 t (by rw [List.find?_cons, e])) (fun e y => ?_)
    refine first_loop htb l y (fun u h => hl u (List.mem_cons_of_mem _ h)) (fun u h => q1 u (by rw [List.find?_cons, e]; exact h)) (fun h => q2 (by rw [List.find?_cons, e]; exact h))
theorem l_first_of (ds : List D) (M : Mem) (P : D → Mem → Prop) (PX : DX) (h : sp_first_of ds M P PX) : t_first_of sp_period_of sp_is_clash PX (dEnds P) (dst 3 ds) M := by
  obtain ⟨k, bs, ss, rfl, k0, k3, g, gs, h⟩ := h
  have hp := perN_le g
  have a0 : atI [D.int k, .tup (bs.map barD)] 0 = some (.int k) := rfl
  simp only [t_first_of]
  refine seq_ fun V hr _ _ hV => ?_
  simp only [dFor, dRng1, dCons, dNil, dBin, dCall, dVar, dC, dst]
  refine ⟨k, bs, rfl, g, ?_⟩
  show gIx (bxD k bs) (.int 0) M _
  simp only [bxD, gIx, a0, gAdd]
  refine ⟨by omega, ?_⟩
  have eu : upto 0 (((perN bs : Nat) : Int) + k).toNat = (List.range (perN bs + k.toNat)).map fun t : Nat => D.int t := by
    rw [upto0]
    congr 2
    omega
  rw [eu]
  refine first_loop (p := clN k bs ss) (n := 400) (σ := fun x => [some (bxD k bs), some (stD ss), x]) (fun t x V2 tl q1 q2 => ?_) _ none (fun t ht => by have := List.mem_range.mp ht; omega) (fun t e => ?_) (fun e x => hV _ _ ?_)
  · simp only [dgN, List.set, dIf, dB, dCall, dCons, dNil, dVar, List.getElem?_cons_succ, List.getElem?_cons_zero]
    refine ⟨k, bs, ss, t, rfl, k0, k3, by omega, g, gs, fun e => ?_, fun e => q2 e _⟩
    · simp only [dRet, dVar, List.getElem?_cons_succ, List.getElem?_cons_zero]
      exact q1 e
  · rw [hr]
    have : firstV k bs ss = .int t := by unfold firstV firstN; rw [e]; rfl
    rw [this] at h
    exact Fz.here h
  · have : firstV k bs ss = .non := by unfold firstV firstN; rw [e]; rfl
    rw [this] at h
    exact Fz.here h
/-! the share -/
def manyN (k : Int) (bs : List Bar) (ss : List Int) (a n : Nat) : Nat := ((List.range n).filter fun j => clN k bs ss (a + j)).length
theorem many_le (k : Int) (bs : List Bar) (ss : List Int) (a n : Nat) : manyN k bs ss a n ≤ n := by
  unfold manyN
  exact Nat.le_trans (List.length_filter_le _ _) (by rw [List.length_range]; omega)
theorem many_cnt (k : Int) (bs : List Bar) (ss : List Int) (a n : Nat) : manyN k bs ss a n = cnt (fun j => clN k bs ss (a + j)) n := rfl
theorem cnt_shift1 (p : Nat → Bool) (s : Nat) (hp : ∀ n, p (n + s) = p n) : cnt (fun j => p (1 + j)) s = cnt p s := by
  have h1 : ∀ n, (if p 0 then 1 else 0) + cnt (fun j => p (1 + j)) n = cnt p (n + 1) := by
    intro n
    induction n with
    | zero =>
      show (if p 0 then 1 else 0) + 0 = ((List.filter p [0])).length
      rw [List.filter_cons]
      split <;> rfl
    | succ n ih =>
      rw [cnt_succ p (n + 1), ← ih, cnt_succ, Nat.add_comm 1 n]
      omega
  have h2 := h1 s
  rw [cnt_succ] at h2
  have h3 : p s = p 0 := by have := hp 0; rwa [Nat.zero_add] at this
  rw [h3] at h2
  omega
theorem many_shift {k : Int} {bs : List Bar} {ss : List Int} {a : Nat} (h : k ≤ a) : ∀ d, manyN k bs ss (a + d) (perN bs) = manyN k bs ss a (perN bs)
  | 0 => rfl
  | d + 1 => by
    rw [← many_shift h d, many_cnt, many_cnt]
    have := cnt_shift1 (fun j => clN k bs ss (a + d + j)) (perN bs) fun n => by
      rw [← Nat.add_assoc]
      exact clN_per (by omega)
    rw [← this]
    congr 1
    funext j
    rw [show a + (d + 1) + j = a + d + (1 + j) by omega]
def topN (k : Int) (bs : List Bar) (ss : List Int) : Nat := manyN k bs ss (3 * perN bs + 3) (perN bs)
def shareD (top size : Nat) : D := .tup [.int ((top / Nat.gcd top size : Nat) : Int), .int ((size / Nat.gcd top size : Nat) : Int)]
def shareV (k : Int) (bs : List Bar) (ss : List Int) : D := shareD (topN k bs ss) (perN bs)
def sp_share_of : DSp := fun ds M P _ => ∃ k bs ss, ds = [bxD k bs, stD ss] ∧ 0 ≤ k ∧ k ≤ 3 ∧ GBs bs ∧ GSt bs ss ∧ P (shareV k bs ss) M
theorem l_share_of (ds : List D) (M : Mem) (P : D → Mem → Prop) (PX : DX) (h : sp_share_of ds M P PX) : t_share_of sp_period_of sp_is_clash sp_gcd PX (dEnds P) (dst 6 ds) M := by
  obtain ⟨k, bs, ss, rfl, k0, k3, g, gs, h⟩ := h
  have hp := perN_le g
  have hp0 := perN_pos g
  simp only [t_share_of]
  refine seq_ fun V hr _ _ hV => ?_
  simp only [dSet, dCall, dCons, dNil, dVar, dst]
  refine ⟨k, bs, rfl, g, hV _ _ ?_⟩
  show dSeq _ _ _ [some (bxD k bs), some (stD ss), some (.int (perN bs)), none, none, none] M
  refine seq_ fun V hr2 _ _ hV => ?_
  simp only [dSet, dApp, dComp, dRng1, dCons, dNil, dVar, List.getElem?_cons_succ, List.getElem?_cons_zero, upto0]
  refine ⟨by omega, by rw [sizeLine_eq]; simp; omega, ?_⟩
  rw [Int.toNat_natCast]
  refine comp_1t (fun j => clN k bs ss (3 * perN bs + 3 + j)) (fun _ => .int 1) (List.range (perN bs)) (fun j hj R hR => ?_) (fun j hj e R hR => ?_) ?_
  · have hj := List.mem_range.mp hj
    simp only [dB, dCall, dCons, dNil, dBin, dVar, dC, dwipe, List.set, List.getElem?_cons_succ, List.getElem?_cons_zero, gMul, gAdd]
    refine ⟨by unfold CMul; omega, ?_⟩
    exact ⟨k, bs, ss, 3 * perN bs + 3 + j, by push_cast; rfl, k0, k3, by omega, g, gs, hR⟩
  · exact hR
  simp only [gLen, List.length_map]
  refine hV _ _ ?_
  show dSeq _ _ _ [some (bxD k bs), some (stD ss), some (.int (perN bs)), some (.int (topN k bs ss)), none, none] M
  have ht := many_le k bs ss (3 * perN bs + 3) (perN bs)
  have ht2 : topN k bs ss ≤ perN bs := ht
  have hg0 : 0 < Nat.gcd (topN k bs ss) (perN bs) := Nat.gcd_pos_of_pos_right _ hp0
  refine seq_ fun V hr3 _ _ hV => ?_
  simp only [dSet, dCall, dCons, dNil, dVar, List.getElem?_cons_succ, List.getElem?_cons_zero]
  refine ⟨topN k bs ss, perN bs, rfl, hV _ _ ?_⟩
  simp only [dRet, dTup, dBin, dCons, dNil, dVar, List.set, List.getElem?_cons_succ, List.getElem?_cons_zero, gDiv, gIC, CDiv]
  have hg1 : Nat.gcd (topN k bs ss) (perN bs) ≤ perN bs := Nat.le_of_dvd hp0 (Nat.gcd_dvd_right _ _)
  refine ⟨by omega, by omega, by rw [sizeLine_eq]; simp, ?_⟩
  have e : shareV k bs ss = .tup [.int ((topN k bs ss : Int) / (Nat.gcd (topN k bs ss) (perN bs) : Nat)), .int ((perN bs : Int) / (Nat.gcd (topN k bs ss) (perN bs) : Nat))] := by
    unfold shareV shareD
    push_cast
    rfl
  rw [e] at h
  exact Fz.here h
end DL

set_option Elab.async false
set_option linter.all false
set_option maxRecDepth 100000
set_option maxHeartbeats 4000000
namespace DL
open PySem PySem.Spec PyProof.Rows L2
/-! ### the law's clashes, tick by tick -/
section
variable {κ : Type} [DecidableEq κ]
theorem valD_map (k j : κ) (y : D) : ∀ kvs : List (κ × D), valD (kvs.map fun kv => if kv.1 = k then (kv.1, y) else kv) j = (valD kvs j).map fun x => if j = k then y else x
  | [] => rfl
  | (a, v) :: r => by
    have ih := valD_map k j y r
    rw [List.map_cons]
    by_cases h : a = k
    · by_cases e : a = j
      · subst h; subst e; simp [valD, List.find?_cons]
      · subst h
        have e' : ¬ j = a := fun z => e z.symm
        simp only [valD, List.find?_cons, if_true, e, decide_false] at ih ⊢
        exact ih
    · by_cases e : a = j
      · subst e; simp [valD, List.find?_cons, h]
      · simp only [valD, List.find?_cons, if_neg h, e, decide_false] at ih ⊢
        exact ih
theorem valD_snoc (k j : κ) (y : D) : ∀ kvs : List (κ × D), (kvs.any fun kv => decide (kv.1 = k)) = false → valD (kvs ++ [(k, y)]) j = if j = k then some y else valD kvs j
  | [], _ => by
    by_cases e : k = j
    · subst e; simp [valD]
    · have e' : ¬ j = k := fun z => e z.symm
      simp [valD, e, e']
  | (a, v) :: r, h => by
    rw [List.any_cons, Bool.or_eq_false_iff] at h
    have ih := valD_snoc k j y r h.2
    have ak : ¬ a = k := by simpa using h.1
    by_cases e : a = j
    · subst e
      simp [valD, List.find?_cons, ak]
    · simp only [valD, List.cons_append, List.find?_cons, e, decide_false] at ih ⊢
      exact ih
theorem valD_any (k : κ) : ∀ kvs : List (κ × D), (kvs.any fun kv => decide (kv.1 = k)) = (valD kvs k).isSome
  | [] => rfl
  | (a, v) :: r => by
    by_cases e : a = k
    · simp [valD, List.find?_cons, e]
    · have := valD_any k r
      simp only [valD, List.any_cons, List.find?_cons, e, decide_false, Bool.false_or] at this ⊢
      exact this
theorem valD_put (k j : κ) (y : D) (kvs : List (κ × D)) : valD (putD kvs k y) j = if j = k then some y else valD kvs j := by
  unfold putD
  split
  · rename_i h
    rw [valD_map]
    rw [valD_any] at h
    by_cases e : j = k
    · subst e
      obtain ⟨x, hx⟩ := Option.isSome_iff_exists.mp h
      rw [hx]; simp
    · simp [e]
  · rename_i h
    exact valD_snoc k j y kvs ((Bool.not_eq_true _).mp h)
theorem putD_len (k : κ) (y : D) (kvs : List (κ × D)) : (putD kvs k y).length ≤ kvs.length + 1 := by
  unfold putD
  split <;> simp
end
def lastN (bs : List Bar) (ss : List Int) : Nat → Nat → Option Nat
  | 0, _ => none
  | t + 1, c => if c ∈ FL bs ss t then some t else lastN bs ss t c
theorem lastN_spec {bs : List Bar} {ss : List Int} (c : Nat) : ∀ t, (lastN bs ss t c = none ∧ ∀ u, u < t → c ∉ FL bs ss u) ∨ ∃ u, lastN bs ss t c = some u ∧ u < t ∧ c ∈ FL bs ss u ∧ ∀ v, u < v → v < t → c ∉ FL bs ss v
  | 0 => .inl ⟨rfl, fun u h => by omega⟩
  | t + 1 => by
    by_cases e : c ∈ FL bs ss t
    · exact .inr ⟨t, by simp [lastN, e], by omega, e, fun v h1 h2 => by omega⟩
    · rcases lastN_spec (bs := bs) (ss := ss) c t with ⟨h1, h2⟩ | ⟨u, h1, h2, h3, h4⟩
      · refine .inl ⟨by simp [lastN, e, h1], fun u hu => ?_⟩
        by_cases q : u = t
        · subst q; exact e
        · exact h2 u (by omega)
      · refine .inr ⟨u, by simp [lastN, e, h1], by omega, h3, fun v h5 h6 => ?_⟩
        by_cases q : v = t
        · subst q; exact e
        · exact h4 v h5 (by omega)
def lastI (o : Option Nat) : Int := match o with | some u => u | none => -9
theorem last_soon {k : Int} {bs : List Bar} {ss : List Int} {t c : Nat} (k3 : k ≤ 3) : decide ((t : Int) - lastI (lastN bs ss t c) ≤ k) = soon k bs ss t c := by
  rw [Bool.eq_iff_iff, decide_eq_true_iff, soon_iff]
  rcases lastN_spec (bs := bs) (ss := ss) c t with ⟨h1, h2⟩ | ⟨u, h1, h2, h3, h4⟩
  · rw [h1]
    simp only [lastI]
    exact ⟨fun h => by omega, fun ⟨u, a, _, b⟩ => absurd b (h2 u a)⟩
  · rw [h1]
    simp only [lastI]
    refine ⟨fun h => ⟨u, h2, h, h3⟩, fun ⟨v, a, b, d⟩ => ?_⟩
    by_cases q : u < v
    · exact absurd d (h4 v q a)
    · omega
theorem plucks_L {bs : List Bar} {ss : List Int} {t : Nat} : ∃ L : List Nat, (srtT ((FL bs ss t).map fun c => sN [c])).map D.str = L.map (fun c => sD [c]) ∧ L.Perm (FL bs ss t) := by
  have hp := srtT_perm ((FL bs ss t).map fun c => sN [c])
  generalize srtT ((FL bs ss t).map fun c => sN [c]) = xs at hp
  let g : Str → Nat := fun z => z.cps.toList.headD 0
  have hg : ∀ c, g (sN [c]) = c := fun c => rfl
  refine ⟨xs.map g, ?_, ?_⟩
  · rw [List.map_map]
    refine List.map_congr_left fun x hx => ?_
    obtain ⟨c, _, rfl⟩ := List.mem_map.mp (hp.mem_iff.mp hx)
    show D.str (sN [c]) = sD [g (sN [c])]
    rw [hg]
  · have := hp.map g
    rw [List.map_map] at this
    have e : ((g ∘ fun c => sN [c]) : Nat → Nat) = id := by funext c; exact hg c
    rw [e, List.map_id] at this
    exact this
def LastOk (bs : List Bar) (ss : List Int) (t : Nat) (kvs : List (Key × D)) : Prop := ∀ c, valD kvs (.inr (sN [c])) = (lastN bs ss t c).map fun u : Nat => D.int u
def clashL (k : Int) (bs : List Bar) (ss : List Int) (n : Nat) : List Nat := (List.range n).filter (clN k bs ss)
def ClOk (M : Mem) (r d : Addr) (k : Int) (bs : List Bar) (ss : List Int) (t : Nat) (M' : Mem) : Prop := (∀ a, M a ≠ none → M' a = M a) ∧ M' r = some (.lst ((clashL k bs ss t).map fun j : Nat => D.int j)) ∧ ∃ kvs, M' d = some (.dK kvs) ∧ LastOk bs ss t kvs ∧ kvs.length ≤ 12 * t
theorem put_loop {r d : Addr} {M : Mem} {W : DEnds} {t : Nat} {xs : List D} {σ : Option D → DSt} (s4 : ∀ x, (σ x)[4]? = some (some (.ref d))) (s5 : ∀ x, (σ x)[5]? = some (some (.int t))) (s8 : ∀ x y, (σ x).set 8 (some y) = σ (some y)) (s8' : ∀ y, (σ (some y))[8]? = some (some y)) (hrd : r ≠ d) :
    ∀ (L : List Nat) (kvs : List (Key × D)) (M' : Mem) (x : Option D), M' r = some (.lst xs) → M' d = some (.dK kvs) → (∀ a, M a ≠ none → M' a = M a) → M d = none → kvs.length + L.length ≤ 10000000 →
    (∀ kvs' M2 x, M2 r = some (.lst xs) → M2 d = some (.dK kvs') → (∀ a, M a ≠ none → M2 a = M a) → (∀ c, valD kvs' (.inr (sN [c])) = if c ∈ L then some (.int t) else valD kvs (.inr (sN [c]))) → kvs'.length ≤ kvs.length + L.length → W.nx (σ x) M2) →
    forL (dgN 8) (dDPut (dVar 4) (dVar 8) (dVar 5)) W (L.map fun c => sD [c]) (σ x) M'
  | [], kvs, M', x, hr, hd, hk, _, _, q => q kvs M' x hr hd hk (fun c => by simp) (by simp)
  | c :: L, kvs, M', x, hr, hd, hk, hMd, hl, q => by
    rw [List.length_cons] at hl
    show dgN 8 (sD [c]) (σ x) M' _
    simp only [dgN, s8, dDPut, dVar, s4, s5, s8']
    unfold putAt
    rw [hd]
    simp only [sD, keyD]
    refine ⟨by rw [sizeLine_eq]; omega, ?_⟩
    have hpl := putD_len (Sum.inr (sN [c]) : Key) (D.int t) kvs
    refine put_loop s4 s5 s8 s8' hrd L (putD kvs (.inr (sN [c])) (.int t)) _ _ (by rw [mput_ne hrd]; exact hr) mput_same (fun a ha => by rw [mput_ne (fun z => by subst z; exact ha hMd)]; exact hk a ha) hMd (by omega) fun kvs' M2 x h1 h2 h3 h4 h5 => q kvs' M2 x h1 h2 h3 (fun e => ?_) (by rw [List.length_cons]; omega)
    rw [h4 e, valD_put]
    by_cases z : e ∈ L
    · simp [z]
    · by_cases z2 : e = c
      · subst z2; simp
      · have z3 : ¬ ((.inr (sN [e]) : Key) = .inr (sN [c])) := fun w => by
          injection w with w
          have := sN_inj.mp w
          injection this with this
          exact z2 this
        simp [z, z2, z3]
theorem dec_twice {l L : List Nat} (h : L.Perm l) (p : Nat → Bool) : (L.filter fun c => decide (1 < L.count c) || p c) = [] ↔ (twice l || l.any p) = false := by
  rw [List.filter_eq_nil_iff, Bool.or_eq_false_iff]
  unfold twice
  rw [List.any_eq_false, List.any_eq_false]
  constructor
  · intro q
    refine ⟨fun c hc => ?_, fun c hc => ?_⟩
    · have := q c (h.mem_iff.mpr hc)
      rw [h.count_eq c] at this
      simp only [Bool.or_eq_true, not_or] at this
      exact this.1
    · have := q c (h.mem_iff.mpr hc)
      simp only [Bool.or_eq_true, not_or] at this
      exact this.2
  · rintro ⟨q1, q2⟩ c hc
    have hc' := h.mem_iff.mp hc
    rw [h.count_eq c]
    simp only [Bool.or_eq_true, not_or]
    exact ⟨q1 c hc', q2 c hc'⟩
theorem plain_s (L : List Nat) : PyData.plainAll (pyL (L.map fun c => sD [c])) = true := by
  induction L with
  | nil => simp [pyL, PyData.plainAll]
  | cons c L ih => simp [pyL, PyData.plainAll, ih, py, PyData.plain, sD]
theorem dkn_ch {c : Nat} (h : c ∈ teeth) (n : Nat) : dkn n (sD [c]) = true := dkn_s n _ fun d hd => by rw [List.mem_singleton.mp hd]; exact teeth_ok h
theorem cnt_ch (L : List Nat) (c : Nat) : (L.map fun c => sD [c]).countP (fun z => dq z (sD [c])) = L.count c := by
  rw [List.countP_map, List.count]
  refine congrArg (fun p => List.countP p L) (funext fun a => ?_)
  show dq (sD [a]) (sD [c]) = _
  rw [dq_s]
  rw [Bool.eq_iff_iff]
  simp
abbrev clBody (PX : DX) : DTS := (dSeq (dSet 6 (dCall sp_law_plucks PX (dCons (dVar 0) (dCons (dVar 1) (dCons (dVar 5) dNil))))) (dSeq (dSet 7 (dComp [8] (dIter (dVar 6)) (dgN 8) (dOr (dB (dBin gGt (dCount (dVar 6) (dVar 8)) (dC (.int 1)))) (dB (dBin gLe (dBin gSub (dVar 5) (dGet2 (dVar 4) (dVar 8) (dUn gNeg (dC (.int 9))))) (dBin gIx (dVar 0) (dC (.int 0)))))) (dVar 8))) (dSeq (dIf (dB (dBin gNe (dVar 7) (dLst dNil))) (dExpr (dAppend (dVar 3) (dVar 5))) dSkip) (dFor (dIter (dVar 6)) (dgN 8) (dDPut (dVar 4) (dVar 8) (dVar 5))))))
theorem cl_step {k : Int} {bs : List Bar} {ss : List Int} {M M' : Mem} {r d : Addr} {PX : DX} {W : DEnds} {w2 : D} {t : Nat} {x6 x7 x8 : Option D} (g : GBs bs) (gs : GSt bs ss) (k0 : 0 ≤ k) (k3 : k ≤ 3) (ht : t ≤ 100000) (hr : M r = none) (hd : M d = none) (hrd : r ≠ d) (ok : ClOk M r d k bs ss t M')
    (q : ∀ M2 x6 x7 x8, ClOk M r d k bs ss (t + 1) M2 → W.nx [some (bxD k bs), some (stD ss), some w2, some (.ref r), some (.ref d), some (.int t), x6, x7, x8] M2) :
    clBody PX W [some (bxD k bs), some (stD ss), some w2, some (.ref r), some (.ref d), some (.int t), x6, x7, x8] M' := by
  obtain ⟨hk, hM, kvs, hD, hlast, hkl⟩ := ok
  obtain ⟨L, eL, pL⟩ := plucks_L (bs := bs) (ss := ss) (t := t)
  have hl := fl_len g gs t
  have hL : L.length ≤ 12 := by rw [pL.length_eq]; exact hl
  have hLt : ∀ c ∈ L, c ∈ teeth := fun c hc => fl_teeth g.2.2 gs t c (pL.mem_iff.mp hc)
  simp only [clBody]
  refine seq_ fun V hr1 _ _ hV => ?_
  simp only [dSet, dCall, dCons, dNil, dVar, List.getElem?_cons_succ, List.getElem?_cons_zero]
  refine ⟨k, bs, ss, t, rfl, g.2.2, g.2.1, gs, ?_⟩
  show V.nx ([some (bxD k bs), some (stD ss), some w2, some (.ref r), some (.ref d), some (.int t), x6, x7, x8].set 6 (some (.lst ((srtT ((FL bs ss t).map fun c => sN [c])).map D.str)))) M'
  rw [eL]
  refine hV _ _ ?_
  simp only [List.set]
  refine seq_ fun V hr2 _ _ hV => ?_
  simp only [dSet, dComp, dIter, dVar, List.getElem?_cons_succ, List.getElem?_cons_zero, seqD]
  refine ⟨by rw [sizeLine_eq, List.length_map]; omega, ?_⟩
  refine comp_1t (fun c => decide (1 < L.count c) || soon k bs ss t c) (fun c => sD [c]) L (fun c hc R hR => ?_) (fun c hc e R hR => ?_) (hV _ _ ?_)
  · refine bo_or (a := decide (1 < L.count c)) (b := soon k bs ss t c) (fun P q => ?_) (fun P q => ?_) R hR
    · simp only [dB, dBin, dCount, dVar, dC, dwipe, List.set, List.getElem?_cons_succ, List.getElem?_cons_zero, gGt, gI]
      refine ⟨⟨fun z hz => ?_, dkn_ch (hLt c hc) 60, plain_s L, by simp [py, PyData.plain, sD]⟩, ?_⟩
      · obtain ⟨e, he, rfl⟩ := List.mem_map.mp hz
        exact dkn_ch (hLt e he) 60
      · rw [cnt_ch]
        have : decide ((1 : Int) < ((L.count c : Nat) : Int)) = decide (1 < L.count c) := decide_eq_decide.mpr (by omega)
        rw [this]
        exact q
    · have a0 : atI [D.int k, .tup (bs.map barD)] 0 = some (.int k) := rfl
      have hk2 : keyD (sD [c]) = some (.inr (sN [c])) := rfl
      simp only [dB, dBin, dGet2, dUn, gNeg, dVar, dC, dwipe, List.set, List.getElem?_cons_succ, List.getElem?_cons_zero, isDict, hD, atD, hk2, hlast c]
      have ev : ((lastN bs ss t c).map fun u : Nat => D.int u).getD (.int (-9)) = .int (lastI (lastN bs ss t c)) := by
        cases lastN bs ss t c <;> rfl
      refine ⟨trivial, ?_⟩
      rw [ev]
      simp only [gSub, gI, bxD, gIx, a0, gLe]
      rw [last_soon k3]
      exact q
  · exact hR
  simp only [List.set]
  refine seq_ fun V hr3 _ _ hV => ?_
  have key : ∀ M2, (∀ a, M a ≠ none → M2 a = M a) → M2 r = some (.lst ((clashL k bs ss (t + 1)).map fun j : Nat => D.int j)) → M2 d = some (.dK kvs) →
      dFor (dIter (dVar 6)) (dgN 8) (dDPut (dVar 4) (dVar 8) (dVar 5)) W [some (bxD k bs), some (stD ss), some w2, some (.ref r), some (.ref d), some (.int t), some (.lst (L.map fun c => sD [c])), some (.lst ((L.filter fun c => decide (1 < L.count c) || soon k bs ss t c).map fun c => sD [c])), x8] M2 := by
    intro M2 h1 h2 h3
    simp only [dFor, dIter, dVar, List.getElem?_cons_succ, List.getElem?_cons_zero, seqD]
    refine put_loop (M := M) (r := r) (d := d) (xs := (clashL k bs ss (t + 1)).map fun j : Nat => D.int j) (σ := fun x => [some (bxD k bs), some (stD ss), some w2, some (.ref r), some (.ref d), some (.int t), some (.lst (L.map fun c => sD [c])), some (.lst ((L.filter fun c => decide (1 < L.count c) || soon k bs ss t c).map fun c => sD [c])), x]) (fun _ => rfl) (fun _ => rfl) (fun _ _ => rfl) (fun _ => rfl) hrd L kvs M2 x8 h2 h3 h1 hd (by omega) fun kvs' M3 x e1 e2 e3 e4 e5 => q M3 _ _ _ ⟨e3, e1, kvs', e2, fun c => ?_, by omega⟩
    rw [e4 c, hlast c]
    have el : lastN bs ss (t + 1) c = if c ∈ FL bs ss t then some t else lastN bs ss t c := rfl
    rw [el]
    by_cases z : c ∈ L
    · rw [if_pos z, if_pos (pL.mem_iff.mp z)]; rfl
    · rw [if_neg z, if_neg fun y => z (pL.mem_iff.mpr y)]
  have hcl : clashL k bs ss (t + 1) = clashL k bs ss t ++ (if clN k bs ss t = true then [t] else []) := by
    unfold clashL
    rw [List.range_succ, List.filter_append, List.filter_cons, List.filter_nil]
  have hdt := dec_twice pL (soon k bs ss t)
  have e0 : dq (.lst ((L.filter fun c => decide (1 < L.count c) || soon k bs ss t c).map fun c => sD [c])) (.lst []) = !clN k bs ss t := by
    rw [dq_nil, Bool.eq_iff_iff, decide_eq_true_iff, List.map_eq_nil_iff, hdt]
    unfold clN
    simp
  have dk : dkn 64 (.lst ((L.filter fun c => decide (1 < L.count c) || soon k bs ss t c).map fun c => sD [c])) = true := dkn_lstI fun y hy => by
    obtain ⟨c, hc, rfl⟩ := List.mem_map.mp hy
    exact dkn_ch (hLt c (List.mem_filter.mp hc).1) 63
  simp only [dIf, dB, dBin, dVar, dLst, dNil, gNe, dSkip, List.getElem?_cons_succ, List.getElem?_cons_zero, List.length_nil, e0, Bool.not_not]
  refine ⟨Nat.zero_le _, ⟨dk, by decide⟩, fun e => ?_, fun e => ?_⟩
  · simp only [dExpr, dAppend, dVar, List.getElem?_cons_succ, List.getElem?_cons_zero, hM]
    refine ⟨⟨_, rfl⟩, ?_, hV _ _ ?_⟩
    · rw [List.length_map, sizeLine_eq]
      have : (clashL k bs ss t).length ≤ t := Nat.le_trans (List.length_filter_le _ _) (by rw [List.length_range]; omega)
      omega
    · refine key _ (fun a ha => by rw [mput_ne (fun z => by subst z; exact ha hr)]; exact hk a ha) ?_ (by rw [mput_ne (Ne.symm hrd)]; exact hD)
      rw [hcl, if_pos e, mput_same, List.map_append]
      rfl
  · refine hV _ _ (key _ hk ?_ hD)
    rw [hcl, if_neg (by rw [e]; decide), List.append_nil]
    exact hM
def sp_law_clashes : DSp := fun ds M P _ => ∃ k bs ss, ∃ n : Nat, ds = [bxD k bs, stD ss, .int n] ∧ 0 ≤ k ∧ k ≤ 3 ∧ GBs bs ∧ GSt bs ss ∧ n ≤ 100000 ∧ P (.lst ((clashL k bs ss n).map fun j : Nat => D.int j)) M
theorem cl_loop {k : Int} {bs : List Bar} {ss : List Int} {M : Mem} {r d : Addr} {PX : DX} {W : DEnds} {w2 : D} (g : GBs bs) (gs : GSt bs ss) (k0 : 0 ≤ k) (k3 : k ≤ 3) (hr : M r = none) (hd : M d = none) (hrd : r ≠ d) :
    ∀ (m t : Nat) (M' : Mem) (x5 x6 x7 x8 : Option D), t + m ≤ 100000 → ClOk M r d k bs ss t M' → (∀ M2 x5 x6 x7 x8, ClOk M r d k bs ss (t + m) M2 → W.nx [some (bxD k bs), some (stD ss), some w2, some (.ref r), some (.ref d), x5, x6, x7, x8] M2) →
    forL (dgN 5) (clBody PX) W ((List.range' t m).map fun j : Nat => D.int j) [some (bxD k bs), some (stD ss), some w2, some (.ref r), some (.ref d), x5, x6, x7, x8] M'
  | 0, t, M', x5, x6, x7, x8, _, ok, q => q M' x5 x6 x7 x8 ok
  | m + 1, t, M', x5, x6, x7, x8, hm, ok, q => by
    rw [List.range'_succ, List.map_cons]
    show dgN 5 (.int t) _ M' _
    simp only [dgN, List.set]
    refine cl_step g gs k0 k3 (by omega) hr hd hrd ok fun M2 x6 x7 x8 ok2 => ?_
    refine cl_loop g gs k0 k3 hr hd hrd m (t + 1) M2 _ _ _ _ (by omega) ok2 fun M3 x5 x6 x7 x8 ok3 => q M3 x5 x6 x7 x8 (by rw [show t + (m + 1) = t + 1 + m by omega]; exact ok3)
theorem l_law_clashes (ds : List D) (M : Mem) (P : D → Mem → Prop) (PX : DX) (h : sp_law_clashes ds M P PX) : t_law_clashes sp_law_plucks PX (dEnds P) (dst 9 ds) M := by
  obtain ⟨k, bs, ss, n, rfl, k0, k3, g, gs, hn, h⟩ := h
  simp only [t_law_clashes]
  refine seq_ fun V hr _ _ hV => ?_
  simp only [dAsg, dTup, dLstH, dNewK, dCons, dNil, List.length_nil]
  refine ⟨Nat.zero_le _, fun r hrn d hdn => ⟨by rw [sizeLine_eq]; simp, ?_⟩⟩
  have hrd : r ≠ d := fun z => by subst z; rw [mput_same] at hdn; cases hdn
  have hdM : M d = none := by rw [mput_ne (Ne.symm hrd)] at hdn; exact hdn
  simp only [dgT, dgCons, dgNil, dgN, dst]
  refine ⟨rfl, hV _ _ ?_⟩
  show dSeq _ _ _ [some (bxD k bs), some (stD ss), some (.int n), some (.ref r), some (.ref d), none, none, none, none] _
  refine seq_ fun V hr2 _ _ hV => ?_
  simp only [dFor, dRng1, dCons, dNil, dVar, List.getElem?_cons_succ, List.getElem?_cons_zero]
  refine ⟨by omega, ?_⟩
  rw [Int.toNat_natCast, upto0, List.range_eq_range']
  refine cl_loop (M := M) g gs k0 k3 hrn hdM hrd n 0 _ _ _ _ _ (by omega) ⟨fun a ha => ?_, ?_, [], mput_same, fun c => rfl, by simp⟩ fun M2 x5 x6 x7 x8 ok => hV _ _ ?_
  · rw [mput_ne (fun z => by subst z; exact ha hdM), mput_ne (fun z => by subst z; exact ha hrn)]
  · rw [mput_ne hrd, mput_same]; rfl
  rw [Nat.zero_add] at ok
  obtain ⟨hk, hM, _⟩ := ok
  simp only [dFrz]
  refine ⟨r, _, rfl, hM, ?_⟩
  simp only [dRetD, dVar, List.set, List.getElem?_cons_succ, List.getElem?_cons_zero]
  refine ⟨M, fun a => ?_, Fz.here h⟩
  cases q : M a with
  | none => exact .inl rfl
  | some u =>
    refine .inr ?_
    have a1 : a ≠ r := fun z => by subst z; rw [hrn] at q; cases q
    rw [mput_ne a1, ← q]
    exact (hk a (by rw [q]; exact nofun)).symm
end DL

set_option Elab.async false
set_option linter.all false
set_option maxRecDepth 100000
set_option maxHeartbeats 4000000
namespace DL
open PySem PySem.Spec PyProof.Rows L2
open PySem.W (AlikeAll dataLt alike alikeAll keyToks keyToksAll dataLt_tuple dataLt_all_no dataLt_all_yes dataLt_int)
/-! ### the law's share -/
theorem top_law {k : Int} {bs : List Bar} {ss : List Int} (k3 : k ≤ 3) : ((clashL k bs ss (6 * perN bs + 6)).filter fun t : Nat => decide ((5 * perN bs + 5 : Nat) < t)).length = topN k bs ss := by
  have e1 : 6 * perN bs + 6 = (5 * perN bs + 6) + perN bs := by omega
  unfold clashL
  rw [e1, List.range_add, List.filter_append, List.filter_append, List.length_append]
  have h1 : (((List.range (5 * perN bs + 6)).filter (clN k bs ss)).filter fun t : Nat => decide ((5 * perN bs + 5 : Nat) < t)) = [] := by
    rw [List.filter_eq_nil_iff]
    intro a ha
    have := List.mem_range.mp (List.mem_filter.mp ha).1
    simp; omega
  have h2 : ((((List.range (perN bs)).map (5 * perN bs + 6 + ·)).filter (clN k bs ss)).filter fun t : Nat => decide ((5 * perN bs + 5 : Nat) < t)) = ((List.range (perN bs)).map (5 * perN bs + 6 + ·)).filter (clN k bs ss) := by
    rw [List.filter_eq_self]
    intro a ha
    obtain ⟨j, _, rfl⟩ := List.mem_map.mp (List.mem_filter.mp ha).1
    simp; omega
  rw [h1, h2, List.filter_map, List.length_map, List.length_nil, Nat.zero_add]
  have h3 := many_shift (k := k) (bs := bs) (ss := ss) (a := 3 * perN bs + 3) (by omega) (2 * perN bs + 3)
  rw [show 3 * perN bs + 3 + (2 * perN bs + 3) = 5 * perN bs + 6 by omega] at h3
  exact h3
def sp_law_share : DSp := fun ds M P _ => ∃ k bs ss, ds = [bxD k bs, stD ss] ∧ 0 ≤ k ∧ k ≤ 3 ∧ GBs bs ∧ GSt bs ss ∧ P (shareV k bs ss) M
theorem l_law_share (ds : List D) (M : Mem) (P : D → Mem → Prop) (PX : DX) (h : sp_law_share ds M P PX) : t_law_share sp_law_size sp_law_clashes PX (dEnds P) (dst 6 ds) M := by
  obtain ⟨k, bs, ss, rfl, k0, k3, g, gs, h⟩ := h
  have hp := perN_le g
  have hp0 := perN_pos g
  simp only [t_law_share]
  refine seq_ fun V hr _ _ hV => ?_
  simp only [dSet, dCall, dCons, dNil, dVar, dst]
  refine ⟨k, bs, rfl, g, hV _ _ ?_⟩
  show dSeq _ _ _ [some (bxD k bs), some (stD ss), some (.int (perN bs)), none, none, none] M
  refine seq_ fun V hr2 _ _ hV => ?_
  simp only [dSet, dApp, dComp, dIter, dCall, dBin, dCons, dNil, dVar, dC, List.getElem?_cons_succ, List.getElem?_cons_zero, gMul, gAdd]
  refine ⟨by unfold CMul; omega, ?_⟩
  refine ⟨k, bs, ss, 6 * perN bs + 6, by push_cast; rfl, k0, k3, g, gs, by omega, ?_⟩
  simp only [seqD]
  have hcl : (clashL k bs ss (6 * perN bs + 6)).length ≤ 6 * perN bs + 6 := Nat.le_trans (List.length_filter_le _ _) (by rw [List.length_range]; omega)
  refine ⟨by rw [sizeLine_eq, List.length_map]; omega, ?_⟩
  refine comp_1t (fun t : Nat => decide ((5 * perN bs + 5 : Nat) < t)) (fun t : Nat => .int t) (clashL k bs ss (6 * perN bs + 6)) (fun t _ R hR => ?_) (fun t _ e R hR => ?_) ?_
  · simp only [dB, dBin, dVar, dC, dwipe, List.set, List.getElem?_cons_succ, List.getElem?_cons_zero, gMul, gAdd, gLt, gI]
    refine ⟨by unfold CMul; omega, ?_⟩
    have : decide ((5 : Int) * (perN bs : Nat) + 5 < (t : Int)) = decide ((5 * perN bs + 5 : Nat) < t) := decide_eq_decide.mpr (by omega)
    rw [this]
    exact hR
  · exact hR
  simp only [gLen, List.length_map, top_law k3]
  refine hV _ _ ?_
  show dSeq _ _ _ [some (bxD k bs), some (stD ss), some (.int (perN bs)), some (.int (topN k bs ss)), none, none] M
  have ht2 : topN k bs ss ≤ perN bs := many_le k bs ss (3 * perN bs + 3) (perN bs)
  refine seq_ fun V hr3 _ _ hV => ?_
  simp only [dPar, dCons, dNil, dVar, List.getElem?_cons_succ, List.getElem?_cons_zero]
  refine hV _ _ ?_
  simp only [List.set]
  refine seq_ fun V hr4 _ _ hV => ?_
  refine while_rec (n := perN bs) (fun n ds M' => ∃ x y : Nat, ds = [some (bxD k bs), some (stD ss), some (.int (perN bs)), some (.int (topN k bs ss)), some (.int x), some (.int y)] ∧ n = y ∧ Nat.gcd x y = Nat.gcd (topN k bs ss) (perN bs) ∧ M' = M) ⟨_, _, rfl, rfl, rfl, rfl⟩ (fun n ds M' hI V2 _ _ hV2 => ?_)
  obtain ⟨x, y, rfl, rfl, e, rfl⟩ := hI
  simp only [dB, dBin, dVar, dC, gNe, List.getElem?_cons_succ, List.getElem?_cons_zero]
  refine ⟨⟨dkn_int _ _, dkn_int _ _⟩, fun hy => ?_, fun hy => ?_⟩
  · rw [dq_int] at hy
    have hy0 : n ≠ 0 := by
      intro z
      subst z
      simp at hy
    simp only [dPar, dCons, dNil, dBin, dVar, List.getElem?_cons_succ, List.getElem?_cons_zero, gMod, gIC]
    refine ⟨by omega, ?_⟩
    exact hV2 (x % n) _ _ (Nat.mod_lt _ (by omega)) ⟨n, x % n, by simp, rfl, by rw [← e, Nat.gcd_comm x n, Nat.gcd_rec n x, Nat.gcd_comm], rfl⟩
  · rw [dq_int] at hy
    have hy0 : n = 0 := by
      have : decide ((n : Int) = 0) = true := by simpa using hy
      have := of_decide_eq_true this
      omega
    subst hy0
    rw [Nat.gcd_zero_right] at e
    subst e
    refine hV _ _ ?_
    have hg0 : 0 < Nat.gcd (topN k bs ss) (perN bs) := Nat.gcd_pos_of_pos_right _ hp0
    have hg1 : Nat.gcd (topN k bs ss) (perN bs) ≤ perN bs := Nat.le_of_dvd hp0 (Nat.gcd_dvd_right _ _)
    simp only [dRet, dTup, dBin, dCons, dNil, dVar, List.set, List.getElem?_cons_succ, List.getElem?_cons_zero, gDiv, gIC, CDiv]
    refine ⟨by omega, by omega, by rw [sizeLine_eq]; simp, ?_⟩
    have e : shareV k bs ss = .tup [.int ((topN k bs ss : Int) / (Nat.gcd (topN k bs ss) (perN bs) : Nat)), .int ((perN bs : Int) / (Nat.gcd (topN k bs ss) (perN bs) : Nat))] := by
      unfold shareV shareD
      push_cast
      rfl
    rw [e] at h
    exact Fz.here h
/-! ### first -/
theorem first_none {p : Nat → Bool} {n : Nat} : firstN p n = none ↔ ∀ t, t < n → p t = false := by
  unfold firstN
  rw [List.find?_eq_none]
  simp only [List.mem_range, Bool.not_eq_true]
theorem first_ext {p : Nat → Bool} {a b : Nat} (h : a ≤ b) (hn : firstN p a = none → ∀ t, t < b → p t = false) : firstN p b = firstN p a := by
  cases e : firstN p a with
  | none => exact first_none.mpr (hn e)
  | some t =>
    obtain ⟨c, rfl⟩ := Nat.exists_eq_add_of_le h
    unfold firstN at e ⊢
    rw [List.range_add, List.find?_append, e]
    rfl
theorem first_all {k : Int} {bs : List Bar} {ss : List Int} (k0 : 0 ≤ k) (hp : 0 < perN bs) (h : firstN (clN k bs ss) (perN bs + k.toNat) = none) : ∀ t, clN k bs ss t = false := by
  intro t
  induction t using Nat.strongRecOn with
  | ind t ih =>
    by_cases q : t < perN bs + k.toNat
    · exact first_none.mp h t q
    · have e := clN_per (k := k) (bs := bs) (ss := ss) (t := t - perN bs) (by omega)
      rw [show t - perN bs + perN bs = t by omega] at e
      rw [e]
      exact ih _ (by omega)
theorem first_eq {k : Int} {bs : List Bar} {ss : List Int} (k0 : 0 ≤ k) (k3 : k ≤ 3) (hp : 0 < perN bs) : firstN (clN k bs ss) (2 * perN bs + 3) = firstN (clN k bs ss) (perN bs + k.toNat) :=
  first_ext (by omega) fun h t _ => first_all k0 hp h t
theorem head_first {p : Nat → Bool} {n : Nat} : ((List.range n).filter p).head? = firstN p n := by
  unfold firstN
  rw [List.head?_filter]
/-! ### the public ones -/
def sp_first_clash (eB eS : Addr) : DSp := fun ds M P PX => ∃ b s, ds = [b, s] ∧ dkn 50 b = true ∧ dkn 50 s = true ∧
  ((isBox b = false ∧ PX (.ref eB) none M) ∨ ∃ k bs, b = bxD k bs ∧ GBox k bs ∧ ((beg (bs.map barD) s = false ∧ PX (.ref eS) none M) ∨ ∃ ss, s = stD ss ∧ GSt bs ss ∧ P (firstV k bs ss) M))
theorem l_first_clash {eB eS : Addr} (ds : List D) (M : Mem) (P : D → Mem → Prop) (PX : DX) (h : sp_first_clash eB eS ds M P PX) : t_first_clash (sp_need_box eB) (sp_need_beginning eS) sp_first_of PX (dEnds P) (dst 2 ds) M := by
  obtain ⟨b, s, rfl, kb, ks, h⟩ := h
  simp [t_first_clash, dSeq, dExpr, dCall, dCons, dNil, dVar, dEnds, dst, sp_need_box]
  refine ⟨dkn_mono 50 55 b (by omega) kb, ?_⟩
  rcases h with ⟨e, h⟩ | ⟨k, bs, rfl, gb, h⟩
  · exact .inl ⟨e, h⟩
  refine .inr ⟨isBox_of gb, ?_⟩
  have hz : bs.length ≤ 1000 := by have := gb.2.2.2.1; omega
  refine ⟨barD_tup, by simpa using hz, ks, ?_⟩
  rcases h with ⟨e, h⟩ | ⟨ss, rfl, gs, h⟩
  · exact .inl ⟨e, h⟩
  refine .inr ⟨beg_of gs, ?_⟩
  exact ⟨k, bs, ss, rfl, gb.1, gb.2.1, gb.bs, gs, Fz.here h⟩
def sp_clash_share (eB eS : Addr) : DSp := fun ds M P PX => ∃ b s, ds = [b, s] ∧ dkn 50 b = true ∧ dkn 50 s = true ∧
  ((isBox b = false ∧ PX (.ref eB) none M) ∨ ∃ k bs, b = bxD k bs ∧ GBox k bs ∧ ((beg (bs.map barD) s = false ∧ PX (.ref eS) none M) ∨ ∃ ss, s = stD ss ∧ GSt bs ss ∧ P (shareV k bs ss) M))
theorem l_clash_share {eB eS : Addr} (ds : List D) (M : Mem) (P : D → Mem → Prop) (PX : DX) (h : sp_clash_share eB eS ds M P PX) : t_clash_share (sp_need_box eB) (sp_need_beginning eS) sp_share_of PX (dEnds P) (dst 2 ds) M := by
  obtain ⟨b, s, rfl, kb, ks, h⟩ := h
  simp [t_clash_share, dSeq, dExpr, dCall, dCons, dNil, dVar, dEnds, dst, sp_need_box]
  refine ⟨dkn_mono 50 55 b (by omega) kb, ?_⟩
  rcases h with ⟨e, h⟩ | ⟨k, bs, rfl, gb, h⟩
  · exact .inl ⟨e, h⟩
  refine .inr ⟨isBox_of gb, ?_⟩
  have hz : bs.length ≤ 1000 := by have := gb.2.2.2.1; omega
  refine ⟨barD_tup, by simpa using hz, ks, ?_⟩
  rcases h with ⟨e, h⟩ | ⟨ss, rfl, gs, h⟩
  · exact .inl ⟨e, h⟩
  refine .inr ⟨beg_of gs, ?_⟩
  exact ⟨k, bs, ss, rfl, gb.1, gb.2.1, gb.bs, gs, Fz.here h⟩
def freeS (k : Int) (bs : List Bar) : List (List Int) := (begs bs).filter fun ss => decide (firstN (clN k bs ss) (perN bs + k.toNat) = none)
def sp_clean_ones : DSp := fun ds M P _ => ∃ k bs, ds = [bxD k bs] ∧ 0 ≤ k ∧ k ≤ 3 ∧ GBs bs ∧ P (.lst ((freeS k bs).map stD)) M
theorem l_clean_ones (ds : List D) (M : Mem) (P : D → Mem → Prop) (PX : DX) (h : sp_clean_ones ds M P PX) : t_clean_ones sp_all_beginnings sp_first_of PX (dEnds P) (dst 2 ds) M := by
  obtain ⟨k, bs, rfl, k0, k3, g, h⟩ := h
  have h' := Fz.here h
  have lb := len_begs g
  simp only [t_clean_ones, dRet, dComp, dIter, dCall, dCons, dNil, dVar, dst, dEnds]
  refine ⟨k, bs, rfl, g, ?_⟩
  simp only [seqD]
  refine ⟨by rw [sizeLine_eq, List.length_map]; omega, ?_⟩
  refine comp_1t (fun ss => decide (firstN (clN k bs ss) (perN bs + k.toNat) = none)) stD _ (fun ss hs R hR => ?_) (fun ss hs e R hR => ?_) h'
  · simp [dB, dBin, dCall, dCons, dNil, dVar, dC, dwipe]
    refine ⟨k, bs, ss, rfl, k0, k3, g, begs_mem.mp hs, ?_⟩
    simp only [gIsN]
    have : dIsN (firstV k bs ss) = decide (firstN (clN k bs ss) (perN bs + k.toNat) = none) := by
      unfold firstV
      cases firstN (clN k bs ss) (perN bs + k.toNat) <;> rfl
    rw [this]
    exact hR
  · exact hR
def sp_clean (eB : Addr) : DSp := fun ds M P PX => ∃ b, ds = [b] ∧ dkn 50 b = true ∧ ((isBox b = false ∧ PX (.ref eB) none M) ∨ ∃ k bs, b = bxD k bs ∧ GBox k bs ∧ P (.lst ((freeS k bs).map stD)) M)
theorem l_clean {eB : Addr} (ds : List D) (M : Mem) (P : D → Mem → Prop) (PX : DX) (h : sp_clean eB ds M P PX) : t_clean (sp_need_box eB) sp_clean_ones PX (dEnds P) (dst 1 ds) M := by
  obtain ⟨b, rfl, kb, h⟩ := h
  simp [t_clean, dSeq, dExpr, dCall, dCons, dNil, dVar, dEnds, dst, sp_need_box]
  refine ⟨dkn_mono 50 55 b (by omega) kb, ?_⟩
  rcases h with ⟨e, h⟩ | ⟨k, bs, rfl, gb, h⟩
  · exact .inl ⟨e, h⟩
  refine .inr ⟨isBox_of gb, ?_⟩
  exact ⟨k, bs, rfl, gb.1, gb.2.1, gb.bs, Fz.here h⟩
/-! ### the least -/
def wN (k : Int) (bs : List Bar) (ss : List Int) : Nat := topN k bs ss / Nat.gcd (topN k bs ss) (perN bs) * perN bs / (perN bs / Nat.gcd (topN k bs ss) (perN bs))
def bestF {α : Type} (w : α → Nat) (x : α) (l : List α) : α := l.foldl (fun a y => if w y < w a then y else a) x
theorem best_spec {α : Type} (w : α → Nat) : ∀ (l : List α) (x : α), (∀ y ∈ x :: l, w (bestF w x l) ≤ w y) ∧ ((x :: l).filter fun y => decide (w y = w (bestF w x l))).head? = some (bestF w x l)
  | [], x => by simp [bestF]
  | y :: l, x => by
    by_cases q : w y < w x
    · have e : bestF w x (y :: l) = bestF w y l := by unfold bestF; rw [List.foldl_cons, if_pos q]
      obtain ⟨h1, h2⟩ := best_spec w l y
      rw [e]
      have h3 := h1 y List.mem_cons_self
      refine ⟨fun z hz => ?_, ?_⟩
      · rcases List.mem_cons.mp hz with rfl | hz
        · omega
        · exact h1 z hz
      · rw [List.filter_cons, if_neg (by simp; omega)]
        exact h2
    · have e : bestF w x (y :: l) = bestF w x l := by unfold bestF; rw [List.foldl_cons, if_neg q]
      obtain ⟨h1, h2⟩ := best_spec w l x
      rw [e]
      have h3 := h1 x List.mem_cons_self
      refine ⟨fun z hz => ?_, ?_⟩
      · rcases List.mem_cons.mp hz with rfl | hz
        · exact h3
        rcases List.mem_cons.mp hz with rfl | hz
        · omega
        · exact h1 z (List.mem_cons_of_mem _ hz)
      · rw [List.filter_cons] at h2 ⊢
        by_cases z : w x = w (bestF w x l)
        · simp only [z, decide_true, if_true, List.head?_cons] at h2 ⊢
          exact h2
        · rw [if_neg (by simpa using z)] at h2 ⊢
          rw [List.filter_cons, if_neg (by simp; omega)]
          exact h2
def bestS (k : Int) (bs : List Bar) : List Int := match begs bs with | x :: l => bestF (wN k bs) x l | [] => []
def lowL (k : Int) (bs : List Bar) : List (List Int) := (begs bs).filter fun y => decide (wN k bs y = wN k bs (bestS k bs))
def leastV (k : Int) (bs : List Bar) : D := .tup [shareV k bs (bestS k bs), .lst ((lowL k bs).map stD)]
theorem best_begs {k : Int} {bs : List Bar} (g : GBs bs) : (∀ y ∈ begs bs, wN k bs (bestS k bs) ≤ wN k bs y) ∧ (lowL k bs).head? = some (bestS k bs) := by
  unfold lowL bestS
  obtain ⟨s0, rest, eb⟩ := List.exists_cons_of_ne_nil (begs_ne g)
  rw [eb]
  exact best_spec (wN k bs) rest s0
end DL

set_option Elab.async false
set_option linter.all false
set_option maxRecDepth 100000
set_option maxHeartbeats 4000000
namespace DL
open PySem PySem.Spec PyProof.Rows L2
theorem dsm_someD (l : List (List Int)) (h : l.length ≤ 1000000) (hs : ∀ s ∈ l, s.length ≤ 1000000) (n : Nat) : dsm (n + 2) (stsD l) = true := by
  unfold stsD
  simp only [dsm, List.length_map, Bool.and_eq_true, decide_eq_true_eq, List.all_eq_true]
  refine ⟨h, fun x hx => ?_⟩
  obtain ⟨s, hm, rfl⟩ := List.mem_map.mp hx
  unfold stD
  simp only [dsm, List.length_map, Bool.and_eq_true, decide_eq_true_eq, List.all_eq_true]
  refine ⟨hs s hm, fun y hy => ?_⟩
  obtain ⟨i, _, rfl⟩ := List.mem_map.mp hy
  cases n <;> rfl
theorem lotsF_mem (P : List (List Int) → Prop) (hP : ∀ l x, P l → P (l ++ [x])) (h1 : ∀ x, P [x]) (f : List Int → Tn) : ∀ (l : List (List Int)) (acc : LotT), (∀ e ∈ acc, P e.2) → ∀ e ∈ lotsF f acc l, P e.2
  | [], acc, h => h
  | s :: l, acc, h => lotsF_mem P hP h1 f l _ (addL_each P hP _ _ (h1 _) acc h)
theorem lotsF_sum (f : List Int → Tn) : ∀ (l : List (List Int)) (acc : LotT), ((lotsF f acc l).map fun e => e.2.length).sum = (acc.map fun e => e.2.length).sum + l.length ∧ (lotsF f acc l).length ≤ acc.length + l.length
  | [], acc => by simp [lotsF]
  | s :: l, acc => by
    obtain ⟨h1, h2⟩ := lotsF_sum f l (addL acc (f s) s)
    have h3 := addL_len acc (f s) s
    have h4 : ((addL acc (f s) s).map fun e => e.2.length).sum = _ := addL_sum (f s) s acc
    have e : lotsF f acc (s :: l) = lotsF f (addL acc (f s) s) l := rfl
    rw [e, h1, h4, List.length_cons]
    refine ⟨by omega, by omega⟩
theorem lotsF_sub (f : List Int → Tn) : ∀ (l : List (List Int)) (acc : LotT) (Q : List Int → Prop), (∀ s ∈ l, Q s) → (∀ e ∈ acc, ∀ s ∈ e.2, Q s) → ∀ e ∈ lotsF f acc l, ∀ s ∈ e.2, Q s
  | [], acc, Q, _, h => h
  | x :: l, acc, Q, hl, h => by
    refine lotsF_sub f l _ Q (fun s hs => hl s (List.mem_cons_of_mem _ hs)) ?_
    have hx := hl x List.mem_cons_self
    have go : ∀ (acc : LotT) (k : Tn), (∀ e ∈ acc, ∀ s ∈ e.2, Q s) → ∀ e ∈ addL acc k x, ∀ s ∈ e.2, Q s := by
      intro acc k
      induction acc with
      | nil => intro _ e he s hs; rw [List.mem_singleton.mp he] at hs; rw [List.mem_singleton.mp hs]; exact hx
      | cons a r ih =>
        intro h e he s hs
        obtain ⟨j, m⟩ := a
        by_cases q : j = k
        · simp only [addL, if_pos q, List.mem_cons] at he
          rcases he with rfl | he
          · rcases List.mem_append.mp hs with hs | hs
            · exact h (j, m) List.mem_cons_self s hs
            · rw [List.mem_singleton.mp hs]; exact hx
          · exact h e (List.mem_cons_of_mem _ he) s hs
        · simp only [addL, if_neg q, List.mem_cons] at he
          rcases he with rfl | he
          · exact h (j, m) List.mem_cons_self s hs
          · exact ih (fun e he => h e (List.mem_cons_of_mem _ he)) e he s hs
    exact go acc _ h
theorem gst_len : ∀ {bs : List Bar} {ss : List Int}, GSt bs ss → ss.length = bs.length
  | [], [], _ => rfl
  | [], _ :: _, h => by simp [GSt] at h
  | _ :: _, [], h => by simp [GSt] at h
  | _ :: _, _ :: _, h => by rw [List.length_cons, List.length_cons, gst_len h.2]
theorem dsm_lots {bs : List Bar} {l : List (List Int)} (g : GBs bs) (gl : GSome bs l) : dsm 3 (lotsD (classL bs l)) = true := by
  unfold lotsD classL lotsL
  obtain ⟨h1, h2⟩ := lotsF_sum (tuneL bs) l []
  have h3 := lotsF_sub (tuneL bs) l [] (fun s => GSt bs s) gl.1 (fun e he => by cases he)
  simp only [dsm, List.length_map, Bool.and_eq_true, decide_eq_true_eq, List.all_eq_true]
  have := gl.2.2
  refine ⟨by simp at h2; omega, fun x hx => ?_⟩
  obtain ⟨m, hm, rfl⟩ := List.mem_map.mp hx
  obtain ⟨e, he, rfl⟩ := List.mem_map.mp hm
  have h4 := get_mem_sum he
  refine dsm_someD _ (by simp at h1; omega) (fun s hs => ?_) 0
  have := gst_len (h3 e he s hs)
  have := g.2.1
  omega
theorem dsm_some {bs : List Bar} {l : List (List Int)} (g : GBs bs) (gl : GSome bs l) : dsm 3 (.lst (l.map stD)) = true := by
  have e := dsm_someD l (by have := gl.2.2; omega) (fun s hs => by have := gst_len (gl.1 s hs); have := g.2.1; omega) 1
  unfold stsD at e
  simpa [dsm] using e
section
variable {K : Fg} {mg : Str → Option Value} {sk : DSpE} {T : List (Addr × Str)} {Pt eB eF fl fc : Addr} {fv : Addr → DSp → Prop}
theorem l_law_k06 (hB : Lbl K mg sk eB "box +") (hF : Lbl K mg sk eF "facts +")
    (v1 : fv fl (sp_left eB eF)) (v2 : fv fc (sp_classes eB eF)) (a : Addr) (ns : List Int) (hns : ns.length ≤ 63) :
    t_law_k06 sp_law_deck sp_law_a_box sp_law_a_start sp_law_pick sp_law_a_fact_k06 sp_law_starts sp_law_goes (sp_law_same 3) (sp_left eB eF) sp_law_lots (sp_classes eB eF) sp_law_known (.ref fc) (.ref fl) fv (dTry K mg sk T Pt) (dScr a ns) DX0 (dEnds fun d _ => d = .bl true) (dst 18 [.ref a]) (memT Pt T) := by
  have z : ∀ n : Nat, n ≤ 20 → n ≤ sizeLine := fun n h => by rw [sizeLine_eq]; omega
  simp only [t_law_k06]
  refine seq_ fun V hr _ _ hV => ?_
  simp only [dFor, dIter, dSlice, dScr, dNoPart, dPart, dC, seqD]
  refine ⟨rfl, ?_⟩
  refine forL_decW (fun k ds M' => (∃ x0 x1 x2 x3 x4 x5 x6 x7 x8 x9 x10 x11 x12 x13 x14 x15 x16 x17 : Option D, ds = [x0, x1, x2, x3, x4, x5, x6, x7, x8, x9, x10, x11, x12, x13, x14, x15, x16, x17]) ∧ TabOk T Pt M') _ _ _ (fun x hx k ds M hI V hV hR => ?_) ⟨⟨_, _, _, _, _, _, _, _, _, _, _, _, _, _, _, _, _, _, rfl⟩, memT_ok⟩ ?_
  · clear hr
    obtain ⟨⟨x0, x1, x2, x3, x4, x5, x6, x7, x8, x9, x10, x11, x12, x13, x14, x15, x16, x17, rfl⟩, hM⟩ := hI
    obtain ⟨c, rfl⟩ := cutD_ints hx
    simp only [dgN, List.set]
    refine seq_ fun V1 _ _ _ hV1 => ?_
    simp [dSet, dCall, dCons, dNil, dVar, dC]
    refine ⟨c, 6, rfl, by decide, by decide, fun p M1 np kp1 hd1 => ?_⟩
    have pne : p ≠ Pt := fun e => by rw [e, hM.1] at np; cases np
    have hM1 := hM.kp kp1 pne
    refine hV1 _ _ ?_
    refine seq_ fun V1 _ _ _ hV1 => ?_
    simp only [dFor, dRng1, dCons, dNil, dC]
    refine ⟨by decide, ?_⟩
    refine forL_decW (fun k ds M' => ∃ x3 x4 x5 x6 x7 x8 x9 x10 x11 x12 x17 : Option D, ds = [x0, some (.int c), some (.ref p), x3, x4, x5, x6, x7, x8, x9, x10, x11, x12, x13, x14, x15, x16, x17] ∧ TabOk T Pt M' ∧ DeckAt M' p (400 * k) ∧ (k < 3 → ∃ kk bs, x4 = some (bxD kk bs) ∧ GBox kk bs)) _ _ _ (fun x hx k ds M hI V2 hV2 hR2 => ?_) ⟨_, _, _, _, _, _, _, _, _, _, _, rfl, hM1, hd1.less (by decide), fun h => absurd h (by simp [upto])⟩ ?_
    · clear hR2 hV hV1 hR
      obtain ⟨x3, x4, x5, x6, x7, x8, x9, x10, x11, x12, x17, rfl, hM2, hd2, -⟩ := hI
      simp only [dgN, List.set]
      refine seq_ fun V1 _ _ _ hV1 => ?_
      simp [dSet, dCall, dCons, dNil, dVar, dC]
      refine ⟨p, 5, 400 * k + 100, rfl, by decide, by decide, hd2.less (by omega), fun kk bs M3 gb _ kp3 hd3 => ?_⟩
      have g := gb.bs
      refine hV1 _ _ ?_
      refine seq_ fun V1 _ _ _ hV1 => ?_
      simp [dSet, dCall, dCons, dNil, dVar]
      refine ⟨p, kk, bs, 400 * k + 97, rfl, g.2.2, g.2.1, hd3, fun ss M4 gs kp4 hd4 => hV1 _ _ ?_⟩
      refine seq_ fun V1 _ _ _ hV1 => ?_
      simp [dSet, dCall, dCons, dNil, dVar, dC]
      refine ⟨p, 4, 400 * k + 96, rfl, by decide, by decide, hd4, fun r M5 r0 r1 kp5 hd5 => hV1 _ _ ?_⟩
      obtain ⟨N, rfl⟩ := Int.eq_ofNat_of_zero_le r0
      refine seq_ fun V1 _ _ _ hV1 => ?_
      simp [dSet, dApp, dComp, dRng1, dCall, dCons, dNil, dVar, dC]
      refine ⟨by omega, by rw [sizeLine_eq]; simp [upto]; omega, ?_⟩
      refine compL_dec (fun j acc M' => ∃ fs : List Fact, acc = fs.map factD ∧ fs.length + j = N ∧ (∀ f ∈ fs, GFact f) ∧ KpM p M5 M' ∧ DeckAt M' p (400 * k + 20 * j)) _ [] M5 (fun x hx j acc M6 hI R hR => ?_) ?_ ?_
      · obtain ⟨fs, rfl, hfl, hfg, kp6, hd6⟩ := hI
        simp [dgN, dYes, dCall, dCons, dNil, dVar, dwipe]
        refine ⟨p, kk, bs, ss, 400 * k + 20 * j, rfl, g, gs, hd6.less (by omega), fun f M7 gf kp7 hd7 => ?_⟩
        refine hR _ M7 ⟨fs ++ [f], by simp, by simp; omega, fun x hx => ?_, kp6.trans kp7, hd7⟩
        rcases List.mem_append.mp hx with hx | hx
        · exact hfg x hx
        · rw [List.mem_singleton.mp hx]; exact gf
      · exact ⟨[], rfl, by simp [upto], (fun _ h => by cases h), .refl, hd5.less (by simp [upto]; omega)⟩
      rintro ys M6 ⟨fs, rfl, hfl, hfg, kp6, hd6⟩
      have hf6 : fs.length ≤ 6 := by omega
      simp only [gTuple]
      refine hV1 _ _ ?_
      have kpA := ((kp3.trans kp4).trans kp5).trans kp6
      have hM6 := hM2.kp kpA pne
      have lb := len_begs g
      refine seq_ fun V1 _ _ _ hV1 => ?_
      simp only [dSet, dComp, dIter, dCall, dCons, dNil, dVar, List.set, List.getElem?_cons_succ, List.getElem?_cons_zero]
      refine ⟨kk, bs, rfl, g, ?_⟩
      simp only [seqD]
      refine ⟨by rw [sizeLine_eq, List.length_map]; omega, ?_⟩
      refine comp_1t (fun ss => fs.all (holds bs ss)) stD _ (fun ss hs R hR => ?_) (fun ss hs e R hR => ?_) (hV1 _ _ ?_)
      · simp only [dB, dCall, dCons, dNil, dVar, dwipe, List.set, List.getElem?_cons_succ, List.getElem?_cons_zero]
        exact ⟨kk, bs, ss, fs, rfl, g, begs_mem.mp hs, hfg, by omega, hR⟩
      · simpa [dVar, dwipe] using hR
      have gl := left_some (fs := fs) g
      show dSeq _ _ V2 [x0, some (.int c), some (.ref p), some x, some (bxD kk bs), some (stD ss), some (.int N), some (factsD fs), some (.lst ((leftL bs fs).map stD)), x9, x10, x11, x12, x13, x14, x15, x16, x17] M6
      refine seq_ fun V1 _ _ _ hV1 => ?_
      refine if_no (no_not (yes_same (d := 3) (.lst ((leftL bs fs).map stD)) (dsm_some g gl) (fun P q => ?_) (fun P q => q))) (hV1 _ _ ?_)
      · simp only [dCall, dCons, dNil, dVar, List.getElem?_cons_succ, List.getElem?_cons_zero]
        exact left_call gb hfg hf6 q
      refine if_no (no_not (yes_same (d := 3) (lotsD (classL bs (leftL bs fs))) (dsm_lots g gl) (fun P q => ?_) (fun P q => ?_))) (hV2 _ _ ?_)
      · simp only [dCall, dCons, dNil, dVar, List.getElem?_cons_succ, List.getElem?_cons_zero]
        exact classes_call gb hfg hf6 q
      · simp only [dCall, dCons, dNil, dVar, List.getElem?_cons_succ, List.getElem?_cons_zero]
        exact ⟨kk, bs, leftL bs fs, rfl, g, gl, q⟩
      exact ⟨_, _, _, _, _, _, _, _, _, _, _, rfl, hM6, hd6.less (by omega), fun _ => ⟨kk, bs, rfl, gb⟩⟩
    · rintro ds M2 ⟨x3, x4, x5, x6, x7, x8, x9, x10, x11, x12, x17, rfl, hM2, hd2, h8⟩
      obtain ⟨kk, bs, rfl, gb⟩ := h8 (by decide)
      refine hV1 _ _ ?_
      clear hV1
      have hkb : dkn 50 (bxD kk bs) = true := dkn_bx gb.2.2.2.2
      simp only [dFor, dIter, dTup, dCons, dNil, dC, seqD, List.length_cons, List.length_nil]
      refine ⟨z _ (by decide), ?_⟩
      refine forL_decW (fun j ds M' => ∃ x9 x10 x11 : Option D, ds = [x0, some (.int c), some (.ref p), x3, some (bxD kk bs), x5, x6, x7, x8, x9, x10, x11, x12, x13, x14, x15, x16, x17] ∧ M' = M2) _ _ _ (fun y hy j ds M' hI V3 hV3 hR3 => ?_) ⟨x9, x10, x11, rfl, rfl⟩ ?_
      · obtain ⟨x9, x10, x11, rfl, rfl⟩ := hI
        simp only [dgN, List.set]
        simp only [List.mem_cons, List.not_mem_nil, or_false] at hy
        refine seq_ fun V1 _ _ _ hV1 => ?_
        refine try_ne hM2 hB (by decide +kernel) (fun PX P h => ?_) (hV1 _ _ ?_)
        · rcases hy with rfl | rfl
          · exact ⟨_, _, rfl, v1, z 0 (by decide), z 2 (by decide), _, _, rfl, by decide +kernel, rfl, .inl ⟨by decide +kernel, h⟩⟩
          · exact ⟨_, _, rfl, v2, z 0 (by decide), z 2 (by decide), _, _, rfl, by decide +kernel, rfl, .inl ⟨by decide +kernel, h⟩⟩
        refine seq_ fun V1 _ _ _ hV1 => ?_
        simp only [dSet, dLst, dTup, dCons, dNil, dC, List.length_cons, List.length_nil]
        refine ⟨z _ (by decide), z _ (by decide), z _ (by decide), z _ (by decide), z _ (by decide), z _ (by decide), z _ (by decide), hV1 _ _ ?_⟩
        simp only [List.set]
        simp only [dFor, dIter, dBin, dLst, dTup, dUn, gNeg, gAdd, dVar, dCons, dNil, dC, seqD, List.length_cons, List.length_nil, List.getElem?_cons_succ, List.getElem?_cons_zero]
        refine ⟨z _ (by decide), z _ (by decide), z _ (by decide), z _ (by decide), ?_⟩
        refine forL_decW (fun j ds M2 => ∃ x11 : Option D, ds = [x0, some (.int c), some (.ref p), x3, some (bxD kk bs), x5, x6, x7, x8, some y, some (.lst [.non, .lst [], .tup [.str "chord", .int 0, .str "a"], .tup [.tup [.str "chord", .int 0, .str "ba"]], .tup [.tup [.str "silent", .int 0, .str ""]]]), x11, x12, x13, x14, x15, x16, x17] ∧ M2 = M') _ _ _ (fun x hx j ds M2 hI V4 hV4 _ => ?_) ⟨x11, rfl, rfl⟩ ?_
        · obtain ⟨x11, rfl, rfl⟩ := hI
          have hxb : dkn 50 x = true ∧ areFacts x = false := by
            simp only [List.cons_append, List.nil_append, List.mem_cons, List.not_mem_nil, or_false] at hx
            rcases hx with rfl | rfl | rfl | rfl | rfl | rfl <;> exact ⟨by decide +kernel, by decide +kernel⟩
          refine try_ne hM2 hF (by decide +kernel) (fun PX P h => ?_) (hV4 _ _ ⟨_, rfl, rfl⟩)
          rcases hy with rfl | rfl
          · exact ⟨_, _, rfl, v1, _, _, rfl, hkb, hxb.1, .inr ⟨kk, bs, rfl, gb, .inl ⟨hxb.2, h⟩⟩⟩
          · exact ⟨_, _, rfl, v2, _, _, rfl, hkb, hxb.1, .inr ⟨kk, bs, rfl, gb, .inl ⟨hxb.2, h⟩⟩⟩
        · rintro ds M2 ⟨x11, rfl, rfl⟩
          exact hV3 _ _ ⟨_, _, _, rfl, rfl⟩
      · rintro ds M' ⟨x9, x10, x11, rfl, rfl⟩
        exact hV _ _ ⟨⟨_, _, _, _, _, _, _, _, _, _, _, _, _, _, _, _, _, _, rfl⟩, hM2⟩
  · rintro ds M ⟨⟨x0, x1, x2, x3, x4, x5, x6, x7, x8, x9, x10, x11, x12, x13, x14, x15, x16, x17, rfl⟩, hM⟩
    refine hV _ _ ?_
    clear hV
    refine seq_ fun V hr _ _ hV => ?_
    simp only [dAsg, dCall, dNil]
    refine ⟨rfl, ?_⟩
    simp only [dgT, dgCons, dgNil, dgN, List.set]
    refine ⟨rfl, hV _ _ ?_⟩
    have g1 : GBox 0 [[[97], [98]]] := isBoxG _ _ (by decide +kernel)
    have g2 : GBox 1 [[[97], [], [98]], [[98], []]] := isBoxG _ _ (by decide +kernel)
    have g3 : GBox 0 [[[97, 98]], [[99], [], [99], []]] := isBoxG _ _ (by decide +kernel)
    have gw : GBox 0 [[[97], [], [], [97], [], [], [98]]] := isBoxG _ _ (by decide +kernel)
    have gch : ∀ (t : Nat) (c : Nat), c ∈ teeth → (t : Int) ≤ GR → ∀ x ∈ [(⟨.ch, t, [c]⟩ : Fact)], GFact x := fun t c hc h x hx => by
      rw [List.mem_singleton.mp hx]
      refine ⟨h, ?_⟩
      show canon [c] = [c]
      simp only [teeth, List.mem_cons, List.not_mem_nil, or_false] at hc
      rcases hc with rfl | rfl | rfl | rfl <;> decide
    have gso : ∀ (t : Nat) (c : Nat), c ∈ teeth → (t : Int) ≤ GR → ∀ x ∈ [(⟨.so, t, [c]⟩ : Fact)], GFact x := fun t c hc h x hx => by
      rw [List.mem_singleton.mp hx]; exact ⟨h, c, hc, rfl⟩
    have gsi : ∀ (t : Nat) (c : Nat), c ∈ teeth → (t : Int) ≤ GR → ∀ x ∈ [(⟨.si, t, [c]⟩ : Fact)], GFact x := fun t c hc h x hx => by
      rw [List.mem_singleton.mp hx]; exact ⟨h, c, hc, rfl⟩
    have gno : ∀ x ∈ ([] : List Fact), GFact x := fun x h => by cases h
    refine seq_ fun V hr _ _ hV => ?_
    refine if_no (no_ne (.lst [.tup [.int 0, .int 1], .tup [.int 1, .int 0], .tup [.int 1, .int 1]]) (by decide +kernel) (fun P q => ?_) (fun P q => ?_)) (hV _ _ ?_)
    · simp only [dCall, dTup, dCons, dNil, dC, dVar, List.getElem?_cons_succ, List.getElem?_cons_zero, List.length_cons, List.length_nil]
      refine ⟨z 3 (by decide), z 1 (by decide), left_call (fs := [⟨.ch, 1, [98]⟩]) g2 (gch _ _ (by decide) (by decide)) (by decide) ?_⟩
      rw [show D.lst ((leftL [[[97], [], [98]], [[98], []]] [⟨.ch, 1, [98]⟩]).map stD) = .lst [.tup [.int 0, .int 1], .tup [.int 1, .int 0], .tup [.int 1, .int 1]] by kernel_rfl]
      exact q
    · simp only [dLst, dTup, dCons, dNil, dC, List.length_cons, List.length_nil]
      exact ⟨z _ (by decide), z _ (by decide), z _ (by decide), z _ (by decide), q⟩
    refine seq_ fun V hr _ _ hV => ?_
    refine if_no (no_ne (.lst [.tup [.int 0]]) (by decide +kernel) (fun P q => ?_) (fun P q => ?_)) (hV _ _ ?_)
    · simp only [dCall, dTup, dCons, dNil, dC, dVar, List.getElem?_cons_succ, List.getElem?_cons_zero, List.length_cons, List.length_nil]
      refine ⟨z 3 (by decide), z 1 (by decide), left_call (fs := [⟨.si, 7, [97]⟩]) g1 (gsi _ _ (by decide) (by decide)) (by decide) ?_⟩
      rw [show D.lst ((leftL [[[97], [98]]] [⟨.si, 7, [97]⟩]).map stD) = .lst [.tup [.int 0]] by kernel_rfl]
      exact q
    · simp only [dLst, dTup, dCons, dNil, dC, List.length_cons, List.length_nil]
      exact ⟨z _ (by decide), z _ (by decide), q⟩
    refine seq_ fun V hr _ _ hV => ?_
    refine if_no (no_ne (.lst [.tup [.tup [.int 0, .int 0], .tup [.int 0, .int 2]], .tup [.tup [.int 0, .int 1], .tup [.int 0, .int 3]]]) (by decide +kernel) (fun P q => ?_) (fun P q => ?_)) (hV _ _ ?_)
    · simp only [dCall, dTup, dCons, dNil, dC, dVar, List.getElem?_cons_succ, List.getElem?_cons_zero, List.length_cons, List.length_nil]
      refine ⟨z 0 (by decide), classes_call (fs := []) g3 gno (by decide) ?_⟩
      rw [show lotsD (classL [[[97, 98]], [[99], [], [99], []]] (leftL [[[97, 98]], [[99], [], [99], []]] [])) = .lst [.tup [.tup [.int 0, .int 0], .tup [.int 0, .int 2]], .tup [.tup [.int 0, .int 1], .tup [.int 0, .int 3]]] by kernel_rfl]
      exact q
    · simp only [dLst, dTup, dCons, dNil, dC, List.length_cons, List.length_nil]
      exact ⟨z _ (by decide), z _ (by decide), z _ (by decide), z _ (by decide), z _ (by decide), z _ (by decide), z _ (by decide), q⟩
    refine seq_ fun V hr _ _ hV => ?_
    refine if_no (no_ne (.lst []) (by decide +kernel) (fun P q => ?_) (fun P q => ?_)) (hV _ _ ?_)
    · simp only [dCall, dTup, dCons, dNil, dC, dVar, List.getElem?_cons_succ, List.getElem?_cons_zero, List.length_cons, List.length_nil]
      refine ⟨z 3 (by decide), z 1 (by decide), left_call (fs := [⟨.ch, 0, [99]⟩]) g1 (gch _ _ (by decide) (by decide)) (by decide) ?_⟩
      rw [show D.lst ((leftL [[[97], [98]]] [⟨.ch, 0, [99]⟩]).map stD) = .lst [] by kernel_rfl]
      exact q
    · simp only [dLst, dNil, List.length_nil]
      exact ⟨z 0 (by decide), q⟩
    refine seq_ fun V hr _ _ hV => ?_
    simp only [dSet, dTup, dCons, dNil, dC, List.length_cons, List.length_nil]
    refine ⟨z _ (by decide), z _ (by decide), z _ (by decide), hV _ _ ?_⟩
    simp only [List.set]
    simp only [dRet, dAndV]
    refine is_eq (.int 7) (by decide +kernel) (fun P q => ?_) (fun P q => q) _ ⟨fun _ => ?_, fun z => (by cases z)⟩
    · simp only [dApp, dCall, dTup, dCons, dNil, dC, dVar, List.getElem?_cons_succ, List.getElem?_cons_zero, List.length_nil]
      refine ⟨z 0 (by decide), classes_call (fs := []) gw gno (by decide) ?_⟩
      rw [show lotsD (classL [[[97], [], [], [97], [], [], [98]]] (leftL [[[97], [], [], [97], [], [], [98]]] [])) = .lst [.tup [.tup [.int 0]], .tup [.tup [.int 1]], .tup [.tup [.int 2]], .tup [.tup [.int 3]], .tup [.tup [.int 4]], .tup [.tup [.int 5]], .tup [.tup [.int 6]]] by kernel_rfl]
      exact q
    refine is_eq (.lst [.tup [.tup [.int 0, .int 0], .tup [.int 0, .int 2]]]) (by decide +kernel) (fun P q => ?_) (fun P q => ?_) _ (Fz.here rfl)
    · simp only [dCall, dTup, dCons, dNil, dC, dVar, List.getElem?_cons_succ, List.getElem?_cons_zero, List.length_cons, List.length_nil]
      refine ⟨z 3 (by decide), z 1 (by decide), classes_call (fs := [⟨.so, 0, [99]⟩]) g3 (gso _ _ (by decide) (by decide)) (by decide) ?_⟩
      rw [show lotsD (classL [[[97, 98]], [[99], [], [99], []]] (leftL [[[97, 98]], [[99], [], [99], []]] [⟨.so, 0, [99]⟩])) = .lst [.tup [.tup [.int 0, .int 0], .tup [.int 0, .int 2]]] by kernel_rfl]
      exact q
    · simp only [dLst, dTup, dCons, dNil, dC, List.length_cons, List.length_nil]
      exact ⟨z _ (by decide), z _ (by decide), z _ (by decide), z _ (by decide), q⟩
end
end DL

set_option Elab.async false
set_option linter.all false
set_option maxRecDepth 100000
set_option maxHeartbeats 4000000
namespace DL
open PySem PySem.Spec PyProof.Rows L2
open PySem.W (AlikeAll dataLt alike alikeAll keyToks keyToksAll dataLt_tuple dataLt_all_no dataLt_all_yes dataLt_int)
theorem gcd_pos' {k : Int} {bs : List Bar} {ss : List Int} (g : GBs bs) : 0 < Nat.gcd (topN k bs ss) (perN bs) ∧ 0 < perN bs / Nat.gcd (topN k bs ss) (perN bs) ∧ topN k bs ss / Nat.gcd (topN k bs ss) (perN bs) ≤ 343 ∧ perN bs / Nat.gcd (topN k bs ss) (perN bs) ≤ 343 := by
  have hp := perN_le g
  have hp0 := perN_pos g
  have ht2 : topN k bs ss ≤ perN bs := many_le k bs ss (3 * perN bs + 3) (perN bs)
  have hg0 : 0 < Nat.gcd (topN k bs ss) (perN bs) := Nat.gcd_pos_of_pos_right _ hp0
  have hg1 : Nat.gcd (topN k bs ss) (perN bs) ≤ perN bs := Nat.le_of_dvd hp0 (Nat.gcd_dvd_right _ _)
  refine ⟨hg0, Nat.div_pos hg1 hg0, Nat.le_trans (Nat.div_le_self _ _) (by omega), Nat.le_trans (Nat.div_le_self _ _) hp⟩
/-- the value that is compared -/
theorem w_val {k : Int} {bs : List Bar} {ss : List Int} (g : GBs bs) {M : Mem} {R : D → Mem → Prop} (h : R (.int (wN k bs ss)) M) :
    gMul (.int ((topN k bs ss / Nat.gcd (topN k bs ss) (perN bs) : Nat) : Int)) (.int (perN bs)) M fun x M1 => gDiv x (.int ((perN bs / Nat.gcd (topN k bs ss) (perN bs) : Nat) : Int)) M1 R := by
  obtain ⟨_, h2, h3, h4⟩ := gcd_pos' (k := k) (ss := ss) g
  have hp := perN_le g
  simp only [gMul, gDiv, gIC, CMul, CDiv]
  refine ⟨by omega, by omega, ?_⟩
  have e : ((topN k bs ss / Nat.gcd (topN k bs ss) (perN bs) : Nat) : Int) * (perN bs : Nat) / ((perN bs / Nat.gcd (topN k bs ss) (perN bs) : Nat) : Int) = (wN k bs ss : Nat) := by
    unfold wN
    push_cast
    rfl
  rw [e]
  exact h
def pairD (k : Int) (bs : List Bar) (ss : List Int) : D := .tup [shareV k bs ss, stD ss]
theorem atI2_0 (a b : D) : atI [a, b] 0 = some a := rfl
theorem atI2_1 (a b : D) : atI [a, b] 1 = some b := rfl
def sp_least_share (eB : Addr) : DSp := fun ds M P PX => ∃ b, ds = [b] ∧ dkn 50 b = true ∧ ((isBox b = false ∧ PX (.ref eB) none M) ∨ ∃ k bs, b = bxD k bs ∧ GBox k bs ∧ P (leastV k bs) M)
theorem l_least_share {eB : Addr} (ds : List D) (M : Mem) (P : D → Mem → Prop) (PX : DX) (h : sp_least_share eB ds M P PX) : t_least_share (sp_need_box eB) sp_period_of sp_all_beginnings sp_share_of PX (dEnds P) (dst 10 ds) M := by
  obtain ⟨b, rfl, kb, h⟩ := h
  simp only [t_least_share]
  refine seq_ fun V hr _ _ hV => ?_
  simp [dExpr, dCall, dCons, dNil, dVar, dst, sp_need_box]
  refine ⟨dkn_mono 50 55 b (by omega) kb, ?_⟩
  rcases h with ⟨e, h⟩ | ⟨k, bs, rfl, gb, h⟩
  · exact .inl ⟨e, h⟩
  refine .inr ⟨isBox_of gb, hV _ _ ?_⟩
  have g := gb.bs
  have lb := len_begs g
  have h' := Fz.here h
  refine seq_ fun V hr _ _ hV => ?_
  simp only [dSet, dCall, dCons, dNil, dVar, List.getElem?_cons_succ, List.getElem?_cons_zero]
  refine ⟨k, bs, rfl, g, hV _ _ ?_⟩
  simp only [List.set]
  refine seq_ fun V hr _ _ hV => ?_
  simp only [dSet, dComp, dIter, dCall, dCons, dNil, dVar, List.getElem?_cons_succ, List.getElem?_cons_zero]
  refine ⟨k, bs, rfl, g, ?_⟩
  simp only [seqD]
  refine ⟨by rw [sizeLine_eq, List.length_map]; omega, ?_⟩
  refine comp_1 (pairD k bs) _ (fun ss hs R hR => ?_) (hV _ _ ?_)
  · simp only [dTup, dCall, dCons, dNil, dVar, dwipe, List.set, List.getElem?_cons_succ, List.getElem?_cons_zero]
    exact ⟨k, bs, ss, rfl, gb.1, gb.2.1, g, begs_mem.mp hs, by rw [sizeLine_eq]; simp, hR⟩
  simp only [List.set]
  refine seq_ fun V hr2 _ _ hV => ?_
  simp only [dSet, dApp, dComp, dIter, dCons, dNil, dVar, List.getElem?_cons_succ, List.getElem?_cons_zero, seqD]
  refine ⟨by rw [sizeLine_eq, List.length_map]; omega, ?_⟩
  refine comp_f (fun _ => true) (fun ss => .int (wN k bs ss)) (begs bs) [] (fun ss hs R h1 _ => ?_) ?_
  · unfold pairD shareV shareD
    simp only [dgT, dgCons, dgNil, dgN, dYes, dBin, dVar, dwipe, List.set, List.getElem?_cons_succ, List.getElem?_cons_zero, List.length_cons, List.length_nil]
    refine ⟨trivial, trivial, fun _ => ?_, fun z => (by cases z)⟩
    exact w_val g (h1 rfl)
  rw [List.filter_eq_self.mpr (fun _ _ => rfl), List.nil_append]
  obtain ⟨b1, b2⟩ := best_begs (k := k) g
  have ei : (begs bs).map (fun ss => D.int (wN k bs ss)) = ((begs bs).map fun ss => (wN k bs ss : Int)).map D.int := by rw [List.map_map]; rfl
  rw [ei]
  simp only [gMin, intsOf_map]
  refine ⟨?_, fun m hm hle => ?_⟩
  · rw [List.length_map]
    exact List.length_pos_iff.mpr (begs_ne g)
  have hb : bestS k bs ∈ begs bs := (List.mem_filter.mp (List.mem_of_mem_head? b2)).1
  have em : m = (wN k bs (bestS k bs) : Int) := by
    obtain ⟨y, hy, rfl⟩ := List.mem_map.mp hm
    have h1 := b1 y hy
    have h2 := hle _ (List.mem_map_of_mem (f := fun ss => (wN k bs ss : Int)) hb)
    omega
  subst em
  refine hV _ _ ?_
  simp only [List.set]
  refine seq_ fun V hr3 _ _ hV => ?_
  simp only [dSet, dComp, dIter, dVar, List.getElem?_cons_succ, List.getElem?_cons_zero, seqD]
  refine ⟨by rw [sizeLine_eq, List.length_map]; omega, ?_⟩
  refine comp_1t (fun y => decide (wN k bs y = wN k bs (bestS k bs))) (pairD k bs) (begs bs) (fun ss hs R hR => ?_) (fun ss hs e R hR => ?_) (hV _ _ ?_)
  · unfold pairD shareV shareD
    simp only [dB, dBin, dVar, dC, dwipe, List.set, List.getElem?_cons_succ, List.getElem?_cons_zero, gIx, atI2_0, atI2_1]
    refine w_val g ?_
    simp only [gEq]
    refine ⟨⟨dkn_int _ _, dkn_int _ _⟩, ?_⟩
    rw [dq_int]
    have : decide ((wN k bs ss : Int) = (wN k bs (bestS k bs) : Int)) = decide (wN k bs ss = wN k bs (bestS k bs)) := decide_eq_decide.mpr (by omega)
    rw [this]
    exact hR
  · exact hR
  simp only [List.set]
  show dRet _ _ [some (bxD k bs), some (.int (perN bs)), some (.lst ((begs bs).map (pairD k bs))), some (.int (wN k bs (bestS k bs))), some (.lst ((lowL k bs).map (pairD k bs))), none, none, none, none, none] M
  have hll : (lowL k bs).length ≤ 343 := Nat.le_trans (List.length_filter_le _ _) lb
  obtain ⟨l2, el⟩ : ∃ l2, lowL k bs = bestS k bs :: l2 := by
    cases q : lowL k bs with
    | nil => rw [q] at b2; cases b2
    | cons x l2 => rw [q] at b2; cases b2; exact ⟨l2, rfl⟩
  have a0 : atI ((lowL k bs).map (pairD k bs)) 0 = some (pairD k bs (bestS k bs)) := by rw [el]; exact atI_zero
  have a1 : atI [shareV k bs (bestS k bs), stD (bestS k bs)] 0 = some (shareV k bs (bestS k bs)) := rfl
  simp only [dRet, dTup, dComp, dIter, dBin, dCons, dNil, dVar, dC, List.getElem?_cons_succ, List.getElem?_cons_zero, gIx, a0]
  unfold pairD
  simp only [a1, seqD]
  refine ⟨by rw [sizeLine_eq, List.length_map]; omega, ?_⟩
  refine comp_f (fun _ => true) (fun ss => stD ss) (lowL k bs) [] (fun ss hs R h1 _ => ?_) ?_
  · simp only [dgT, dgCons, dgNil, dgN, dYes, dVar, dwipe, List.set, List.getElem?_cons_succ, List.getElem?_cons_zero, List.length_cons, List.length_nil]
    exact ⟨trivial, fun _ => h1 rfl, fun z => (by cases z)⟩
  rw [List.filter_eq_self.mpr (fun _ _ => rfl), List.nil_append]
  refine ⟨by rw [sizeLine_eq]; simp, ?_⟩
  exact h'
/-! ### the law's test -/
def rowS (k : Int) (bs : List Bar) (ss : List Int) : D := .tup [.int (wN k bs ss), stD ss, shareV k bs ss]
theorem row_lt {k : Int} {bs : List Bar} {a y : List Int} (h : ltS a y) : dataLt (py (rowS k bs y)) (py (rowS k bs a)) = decide (wN k bs y < wN k bs a) := by
  unfold rowS
  rw [py, py, dataLt_tuple]
  simp only [pyL]
  have al : alike (py (.int (wN k bs y))) (py (.int (wN k bs a))) = true := by simp [alike, py]
  have ee : PyData.eqv (py (.int (wN k bs y))) (py (.int (wN k bs a))) = decide ((wN k bs y : Int) = wN k bs a) := dq_int _ _
  by_cases q : wN k bs y = wN k bs a
  · have ye : PyData.eqv (py (.int (wN k bs y))) (py (.int (wN k bs a))) = true := by rw [ee, q]; simp
    obtain ⟨n1, n2⟩ := lt_st h
    rw [dataLt_all_yes al ye, dataLt_all_no (alike_st y a) n1, n2]
    simp; omega
  · have ne : PyData.eqv (py (.int (wN k bs y))) (py (.int (wN k bs a))) = false := by rw [ee]; simp; omega
    rw [dataLt_all_no al ne]
    simp only [py, dataLt_int]
    exact decide_eq_decide.mpr (by omega)
theorem least_rows {k : Int} {bs : List Bar} : ∀ (l : List (List Int)) (x : List Int), (x :: l).Pairwise ltS → leastD (rowS k bs x) (l.map (rowS k bs)) = rowS k bs (bestF (wN k bs) x l)
  | [], x, _ => rfl
  | y :: l, x, h => by
    obtain ⟨h1, h2⟩ := List.pairwise_cons.mp h
    have e1 : leastD (rowS k bs x) ((y :: l).map (rowS k bs)) = leastD (if dataLt (py (rowS k bs y)) (py (rowS k bs x)) then rowS k bs y else rowS k bs x) (l.map (rowS k bs)) := rfl
    have e2 : bestF (wN k bs) x (y :: l) = bestF (wN k bs) (if wN k bs y < wN k bs x then y else x) l := rfl
    rw [e1, e2, row_lt (h1 y List.mem_cons_self)]
    by_cases q : wN k bs y < wN k bs x
    · simp only [q, decide_true, if_true]
      exact least_rows l y h2
    · simp only [q, decide_false, if_false, Bool.false_eq_true]
      refine least_rows l x (List.pairwise_cons.mpr ⟨fun z hz => h1 z (List.mem_cons_of_mem _ hz), (List.pairwise_cons.mp h2).2⟩)
theorem dkn_share (k : Int) (bs : List Bar) (ss : List Int) (n : Nat) : dkn (n + 1) (shareV k bs ss) = true := by
  unfold shareV shareD
  refine dkn_tupI fun x hx => ?_
  simp only [List.mem_cons, List.not_mem_nil, or_false] at hx
  rcases hx with rfl | rfl <;> exact dkn_int _ _
theorem dkn_row (k : Int) (bs : List Bar) (ss : List Int) : dkn 60 (rowS k bs ss) = true := by
  unfold rowS
  refine dkn_tupI fun x hx => ?_
  simp only [List.mem_cons, List.not_mem_nil, or_false] at hx
  rcases hx with rfl | rfl | rfl
  · exact dkn_int _ _
  · exact dkn_mono 50 59 _ (by decide) dkn_st
  · exact dkn_share _ _ _ 58
theorem alike_rows {k : Int} {bs : List Bar} (l : List (List Int)) : AlikeAll (pyL (l.map (rowS k bs))) := by
  rw [pyL_map, List.map_map]
  refine ⟨fun x hx y hy => ?_, fun x hx => ?_⟩
  · obtain ⟨a, _, rfl⟩ := List.mem_map.mp hx
    obtain ⟨b, _, rfl⟩ := List.mem_map.mp hy
    have := alike_st a b
    simp [Function.comp, rowS, shareV, shareD, py, pyL, alike, alikeAll] at this ⊢
    exact this
  · obtain ⟨a, _, rfl⟩ := List.mem_map.mp hx
    simp [Function.comp, rowS, py]
theorem dsm_share (k : Int) (bs : List Bar) (ss : List Int) (n : Nat) : dsm (n + 1) (shareV k bs ss) = true := by
  unfold shareV shareD
  cases n <;> simp [dsm]
theorem dsm_first (k : Int) (bs : List Bar) (ss : List Int) (n : Nat) : dsm n (firstV k bs ss) = true := by
  unfold firstV
  cases firstN (clN k bs ss) (perN bs + k.toNat) with
  | none => exact dsm_non n
  | some t => exact dsm_int n _
def sp_law_good_k04 : DSp := fun ds M P _ => ∃ k bs, ds = [bxD k bs] ∧ GBox k bs ∧ P (.bl true) M
abbrev goodBody (eB eS : Addr) (PX : DX) : DTS := (dSeq (dSet 4 (dCall sp_law_clashes PX (dCons (dVar 0) (dCons (dVar 3) (dCons (dBin gAdd (dBin gMul (dC (.int 2)) (dCall sp_law_size PX (dCons (dVar 0) dNil))) (dC (.int 3))) dNil))))) (dSeq (dSet 1 (dBin gAdd (dVar 1) (dIfE (dB (dBin gEq (dVar 4) (dLst dNil))) (dLst (dCons (dVar 3) dNil)) (dLst dNil)))) (dSeq (dIf (dNot (dB (dCall (sp_law_same 3) PX (dCons (dCall (sp_first_clash eB eS) PX (dCons (dVar 0) (dCons (dVar 3) dNil))) (dCons (dIfE (dB (dBin gNe (dVar 4) (dLst dNil))) (dBin gIx (dVar 4) (dC (.int 0))) (dC .non)) dNil))))) (dRet (dC (.bl false))) dSkip) (dSeq (dSet 5 (dCall sp_law_share PX (dCons (dVar 0) (dCons (dVar 3) dNil)))) (dSeq (dExpr (dAppend (dVar 2) (dTup (dCons (dBin gDiv (dBin gMul (dBin gIx (dVar 5) (dC (.int 0))) (dCall sp_law_size PX (dCons (dVar 0) dNil))) (dBin gIx (dVar 5) (dC (.int 1)))) (dCons (dVar 3) (dCons (dVar 5) dNil)))))) (dIf (dNot (dB (dCall (sp_law_same 3) PX (dCons (dCall (sp_clash_share eB eS) PX (dCons (dVar 0) (dCons (dVar 3) dNil))) (dCons (dVar 5) dNil))))) (dRet (dC (.bl false))) dSkip))))))
theorem fc_call {eB eS : Addr} {k : Int} {bs : List Bar} {ss : List Int} {M : Mem} {P : D → Mem → Prop} {PX : DX} (gb : GBox k bs) (gs : GSt bs ss) (q : P (firstV k bs ss) M) : sp_first_clash eB eS [bxD k bs, stD ss] M P PX :=
  ⟨_, _, rfl, dkn_bx gb.2.2.2.2, dkn_st, .inr ⟨k, bs, rfl, gb, .inr ⟨ss, rfl, gs, q⟩⟩⟩
theorem cs_call {eB eS : Addr} {k : Int} {bs : List Bar} {ss : List Int} {M : Mem} {P : D → Mem → Prop} {PX : DX} (gb : GBox k bs) (gs : GSt bs ss) (q : P (shareV k bs ss) M) : sp_clash_share eB eS [bxD k bs, stD ss] M P PX :=
  ⟨_, _, rfl, dkn_bx gb.2.2.2.2, dkn_st, .inr ⟨k, bs, rfl, gb, .inr ⟨ss, rfl, gs, q⟩⟩⟩
theorem cl_call {eB : Addr} {k : Int} {bs : List Bar} {M : Mem} {P : D → Mem → Prop} {PX : DX} (gb : GBox k bs) (q : P (.lst ((freeS k bs).map stD)) M) : sp_clean eB [bxD k bs] M P PX := ⟨_, rfl, dkn_bx gb.2.2.2.2, .inr ⟨k, bs, rfl, gb, q⟩⟩
theorem ls_call {eB : Addr} {k : Int} {bs : List Bar} {M : Mem} {P : D → Mem → Prop} {PX : DX} (gb : GBox k bs) (q : P (leastV k bs) M) : sp_least_share eB [bxD k bs] M P PX := ⟨_, rfl, dkn_bx gb.2.2.2.2, .inr ⟨k, bs, rfl, gb, q⟩⟩
def isFree (k : Int) (bs : List Bar) (ss : List Int) : Bool := decide (firstN (clN k bs ss) (perN bs + k.toNat) = none)
theorem good_step {eB eS : Addr} {k : Int} {bs : List Bar} {ss : List Int} {M' : Mem} {r : Addr} {PX : DX} {W : DEnds} {fr : List (List Int)} {rows : List (List Int)} {x4 x5 x6 x7 x8 : Option D} (gb : GBox k bs) (gs : GSt bs ss) (hf : fr.length ≤ 343) (hrl : rows.length ≤ 343) (hr : M' r = some (.lst (rows.map (rowS k bs))))
    (q : ∀ x4 x5, W.nx [some (bxD k bs), some (.lst ((fr ++ (if isFree k bs ss then [ss] else [])).map stD)), some (.ref r), some (stD ss), x4, x5, x6, x7, x8] (mput M' r (some (.lst ((rows ++ [ss]).map (rowS k bs)))))) :
    goodBody eB eS PX W [some (bxD k bs), some (.lst (fr.map stD)), some (.ref r), some (stD ss), x4, x5, x6, x7, x8] M' := by
  have g := gb.bs
  have hp := perN_le g
  have hp0 := perN_pos g
  simp only [goodBody]
  refine seq_ fun V hr1 _ _ hV => ?_
  simp only [dSet, dCall, dBin, dCons, dNil, dVar, dC, List.getElem?_cons_succ, List.getElem?_cons_zero]
  refine ⟨k, bs, rfl, g, ?_⟩
  simp only [gMul, gAdd]
  refine ⟨by unfold CMul; omega, ?_⟩
  refine ⟨k, bs, ss, 2 * perN bs + 3, by push_cast; rfl, gb.1, gb.2.1, g, gs, by omega, hV _ _ ?_⟩
  simp only [List.set]
  have e0 : dq (.lst ((clashL k bs ss (2 * perN bs + 3)).map fun j : Nat => D.int j)) (.lst []) = isFree k bs ss := by
    rw [dq_nil]
    unfold isFree
    rw [← first_eq gb.1 gb.2.1 hp0]
    refine decide_eq_decide.mpr ?_
    rw [List.map_eq_nil_iff, first_none]
    unfold clashL
    rw [List.filter_eq_nil_iff]
    simp only [List.mem_range, Bool.not_eq_true]
  have dk : dkn 64 (.lst ((clashL k bs ss (2 * perN bs + 3)).map fun j : Nat => D.int j)) = true := dkn_lstI fun y hy => by
    obtain ⟨c, _, rfl⟩ := List.mem_map.mp hy
    exact dkn_int _ _
  refine seq_ fun V hr2 _ _ hV => ?_
  simp only [dSet, dBin, dVar, dIfE, dB, dLst, dCons, dNil, gEq, List.getElem?_cons_succ, List.getElem?_cons_zero, List.length_nil, List.length_cons, e0]
  have cont : ∀ fs, fs = (fr ++ (if isFree k bs ss then [ss] else [])) → V.nx [some (bxD k bs), some (.lst (fs.map stD)), some (.ref r), some (stD ss), some (.lst ((clashL k bs ss (2 * perN bs + 3)).map fun j : Nat => D.int j)), x5, x6, x7, x8] M' := by
    rintro fs rfl
    refine hV _ _ ?_
    refine seq_ fun V hr3 _ _ hV => ?_
    refine if_no (no_not (yes_same (d := 3) (firstV k bs ss) (dsm_first _ _ _ 3) (fun P q => ?_) (fun P q => ?_))) (hV _ _ ?_)
    · simp only [dCall, dCons, dNil, dVar, List.getElem?_cons_succ, List.getElem?_cons_zero]
      exact fc_call gb gs q
    · simp only [dIfE, dB, dBin, dVar, dLst, dNil, dC, gNe, List.getElem?_cons_succ, List.getElem?_cons_zero, List.length_nil, e0]
      have eh := head_first (p := clN k bs ss) (n := 2 * perN bs + 3)
      rw [first_eq gb.1 gb.2.1 hp0] at eh
      refine ⟨Nat.zero_le _, ⟨dk, by decide⟩, fun e => ?_, fun e => ?_⟩
      · unfold isFree at e
        cases hq : firstN (clN k bs ss) (perN bs + k.toNat) with
        | none => rw [hq] at e; simp at e
        | some t =>
          rw [hq] at eh
          have ev : firstV k bs ss = .int t := by unfold firstV; rw [hq]; rfl
          rw [ev] at q
          have ec : ∃ l2, clashL k bs ss (2 * perN bs + 3) = t :: l2 := by
            unfold clashL
            cases hc : (List.range (2 * perN bs + 3)).filter (clN k bs ss) with
            | nil => rw [hc] at eh; cases eh
            | cons a l2 => rw [hc] at eh; cases eh; exact ⟨l2, rfl⟩
          obtain ⟨l2, ec⟩ := ec
          rw [ec]
          simp only [List.map_cons, gIx, atI_zero]
          exact q
      · have hq : firstN (clN k bs ss) (perN bs + k.toNat) = none := by
          unfold isFree at e
          simpa using e
        have ev : firstV k bs ss = .non := by unfold firstV; rw [hq]; rfl
        rw [ev] at q
        exact q
    refine seq_ fun V hr4 _ _ hV => ?_
    simp only [dSet, dCall, dCons, dNil, dVar, List.getElem?_cons_succ, List.getElem?_cons_zero]
    refine ⟨k, bs, ss, rfl, gb.1, gb.2.1, g, gs, hV _ _ ?_⟩
    simp only [List.set]
    refine seq_ fun V hr5 _ _ hV => ?_
    simp only [dExpr, dAppend, dTup, dCall, dCons, dNil, dBin, dVar, dC, List.getElem?_cons_succ, List.getElem?_cons_zero, hr]
    refine ⟨⟨_, rfl⟩, ?_⟩
    have a1 : atI [D.int ((topN k bs ss / Nat.gcd (topN k bs ss) (perN bs) : Nat) : Int), .int ((perN bs / Nat.gcd (topN k bs ss) (perN bs) : Nat) : Int)] 0 = some (.int ((topN k bs ss / Nat.gcd (topN k bs ss) (perN bs) : Nat) : Int)) := rfl
    have a2 : atI [D.int ((topN k bs ss / Nat.gcd (topN k bs ss) (perN bs) : Nat) : Int), .int ((perN bs / Nat.gcd (topN k bs ss) (perN bs) : Nat) : Int)] 1 = some (.int ((perN bs / Nat.gcd (topN k bs ss) (perN bs) : Nat) : Int)) := rfl
    have es : shareV k bs ss = .tup [.int ((topN k bs ss / Nat.gcd (topN k bs ss) (perN bs) : Nat) : Int), .int ((perN bs / Nat.gcd (topN k bs ss) (perN bs) : Nat) : Int)] := rfl
    rw [es]
    simp only [gIx, a1, a2]
    refine ⟨k, bs, rfl, g, ?_⟩
    refine w_val g ?_
    refine ⟨by rw [sizeLine_eq]; simp, ?_⟩
    rw [hr]
    dsimp only
    refine ⟨by rw [sizeLine_eq, List.length_map]; omega, hV _ _ ?_⟩
    have er : rows.map (rowS k bs) ++ [.tup [.int (wN k bs ss), stD ss, .tup [.int ((topN k bs ss / Nat.gcd (topN k bs ss) (perN bs) : Nat) : Int), .int ((perN bs / Nat.gcd (topN k bs ss) (perN bs) : Nat) : Int)]]] = (rows ++ [ss]).map (rowS k bs) := by
      rw [List.map_append]; rfl
    rw [er]
    refine if_no (no_not (yes_same (d := 3) (shareV k bs ss) (dsm_share _ _ _ 2) (fun P q => ?_) (fun P q => q))) (q _ _)
    simp only [dCall, dCons, dNil, dVar, List.getElem?_cons_succ, List.getElem?_cons_zero]
    exact cs_call gb gs q
  refine ⟨Nat.zero_le _, ⟨dk, by decide⟩, fun e => ?_, fun e => ?_⟩
  · refine ⟨by rw [sizeLine_eq]; omega, ?_⟩
    simp only [gAdd]
    refine ⟨by rw [sizeLine_eq, List.length_map]; simp; omega, ?_⟩
    have := cont (fr ++ [ss]) (by rw [e]; rfl)
    rw [List.map_append] at this
    exact this
  · refine ⟨Nat.zero_le _, ?_⟩
    simp only [gAdd]
    refine ⟨by rw [sizeLine_eq, List.length_map]; simp; omega, ?_⟩
    have := cont fr (by rw [e]; simp)
    rw [List.append_nil]
    exact this
end DL

set_option Elab.async false
set_option linter.all false
set_option maxRecDepth 100000
set_option maxHeartbeats 4000000
namespace DL
open PySem PySem.Spec PyProof.Rows L2
theorem good_loop {eB eS : Addr} {k : Int} {bs : List Bar} {M : Mem} {r : Addr} {PX : DX} {W : DEnds} {x6 x7 x8 : Option D} (gb : GBox k bs) :
    ∀ (l fr rows : List (List Int)) (x3 x4 x5 : Option D), (∀ s ∈ l, GSt bs s) → fr.length + l.length ≤ 343 → rows.length + l.length ≤ 343 →
    (∀ x3 x4 x5, W.nx [some (bxD k bs), some (.lst ((fr ++ l.filter (isFree k bs)).map stD)), some (.ref r), x3, x4, x5, x6, x7, x8] (mput M r (some (.lst ((rows ++ l).map (rowS k bs)))))) →
    forL (dgN 3) (goodBody eB eS PX) W (l.map stD) [some (bxD k bs), some (.lst (fr.map stD)), some (.ref r), x3, x4, x5, x6, x7, x8] (mput M r (some (.lst (rows.map (rowS k bs)))))
  | [], fr, rows, x3, x4, x5, _, _, _, q => by
    have := q x3 x4 x5
    rw [List.filter_nil, List.append_nil, List.append_nil] at this
    exact this
  | s :: l, fr, rows, x3, x4, x5, gl, h1, h2, q => by
    rw [List.length_cons] at h1 h2
    show dgN 3 (stD s) _ _ _
    simp only [dgN, List.set]
    refine good_step gb (gl s List.mem_cons_self) (by omega) (by omega) mput_same fun x4 x5 => ?_
    rw [mput_mput]
    refine good_loop gb l _ _ _ _ _ (fun t ht => gl t (List.mem_cons_of_mem _ ht)) ?_ (by rw [List.length_append, List.length_singleton]; omega) fun x3 x4 x5 => ?_
    · rw [List.length_append]
      have : (if isFree k bs s then [s] else []).length ≤ 1 := by split <;> simp
      omega
    · have := q x3 x4 x5
      have e1 : fr ++ (s :: l).filter (isFree k bs) = fr ++ (if isFree k bs s then [s] else []) ++ l.filter (isFree k bs) := by
        rw [List.filter_cons]
        split <;> simp
      have e2 : rows ++ s :: l = rows ++ [s] ++ l := by simp
      rw [e1, e2] at this
      exact this
theorem atI3_0 (a b c : D) : atI [a, b, c] 0 = some a := rfl
theorem atI3_1 (a b c : D) : atI [a, b, c] 1 = some b := rfl
theorem atI3_2 (a b c : D) : atI [a, b, c] 2 = some c := rfl
theorem low_some {k : Int} {bs : List Bar} (g : GBs bs) : GSome bs (lowL k bs) := ⟨fun s hs => begs_mem.mp (List.mem_filter.mp hs).1, (begs_asc bs).filter _, Nat.le_trans (List.length_filter_le _ _) (len_begs g)⟩
theorem free_some {k : Int} {bs : List Bar} (g : GBs bs) : GSome bs (freeS k bs) := ⟨fun s hs => begs_mem.mp (List.mem_filter.mp hs).1, (begs_asc bs).filter _, Nat.le_trans (List.length_filter_le _ _) (len_begs g)⟩
theorem dsm_least {k : Int} {bs : List Bar} (g : GBs bs) : dsm 3 (leastV k bs) = true := by
  have gl := low_some (k := k) g
  have e := dsm_someD (lowL k bs) (by have := gl.2.2; omega) (fun s hs => by have := gst_len (gl.1 s hs); have := g.2.1; omega) 0
  have e2 := dsm_share k bs (bestS k bs) 1
  unfold stsD at e
  unfold leastV
  simp only [dsm, List.all_cons, List.all_nil, Bool.and_true, Bool.and_eq_true, decide_eq_true_eq, List.length_cons, List.length_nil] at e ⊢
  exact ⟨by omega, e2, e⟩
theorem l_law_good_k04 {eB eS : Addr} (ds : List D) (M : Mem) (P : D → Mem → Prop) (PX : DX) (h : sp_law_good_k04 ds M P PX) : t_law_good_k04 sp_law_starts sp_law_clashes sp_law_size (sp_law_same 3) (sp_first_clash eB eS) sp_law_share (sp_clash_share eB eS) (sp_clean eB) (sp_least_share eB) PX (dEnds P) (dst 9 ds) M := by
  obtain ⟨k, bs, rfl, gb, h⟩ := h
  have g := gb.bs
  have lb := len_begs g
  simp only [t_law_good_k04]
  refine seq_ fun V hr _ _ hV => ?_
  simp only [dPar, dLst, dLstH, dCons, dNil, List.length_nil, dst]
  refine ⟨Nat.zero_le _, Nat.zero_le _, fun r hrn => hV _ _ ?_⟩
  show dSeq _ _ _ [some (bxD k bs), some (.lst []), some (.ref r), none, none, none, none, none, none] _
  refine seq_ fun V hr2 _ _ hV => ?_
  simp only [dFor, dIter, dCall, dCons, dNil, dVar, List.getElem?_cons_succ, List.getElem?_cons_zero]
  refine ⟨k, bs, rfl, g, ?_⟩
  simp only [seqD]
  refine good_loop gb (begs bs) [] [] _ _ _ (fun s hs => begs_mem.mp hs) (by simpa using lb) (by simpa using lb) fun x3 x4 x5 => hV _ _ ?_
  rw [List.nil_append, List.nil_append]
  refine seq_ fun V hr3 _ _ hV => ?_
  simp only [dFrz]
  refine ⟨r, _, rfl, mput_same, ?_⟩
  rw [mput_mput, mput_self hrn]
  obtain ⟨s0, rest, eb⟩ := List.exists_cons_of_ne_nil (begs_ne g)
  have hasc := begs_asc bs
  have elr : leastD (rowS k bs s0) (rest.map (rowS k bs)) = rowS k bs (bestS k bs) := by
    rw [eb] at hasc
    rw [least_rows rest s0 hasc]
    unfold bestS
    rw [eb]
  have efl : (begs bs).filter (isFree k bs) = freeS k bs := rfl
  simp only [dSet, dApp, dCons, dNil, dVar, List.set, List.getElem?_cons_succ, List.getElem?_cons_zero]
  have hmin : ∀ Q : D → Mem → Prop, Q (rowS k bs (bestS k bs)) M → gMinD [.lst ((begs bs).map (rowS k bs))] M Q := fun Q q => by
    have al := alike_rows (k := k) (bs := bs) (begs bs)
    rw [eb, List.map_cons] at al ⊢
    simp only [gMinD]
    refine ⟨⟨fun z hz => ?_, al⟩, by rw [elr]; exact q⟩
    rw [← List.map_cons] at hz
    obtain ⟨a, _, rfl⟩ := List.mem_map.mp hz
    exact dkn_row _ _ _
  refine hmin _ (hV _ _ ?_)
  refine seq_ fun V hr4 _ _ hV => ?_
  simp only [dSet, dTup, dComp, dIter, dBin, dCons, dNil, dVar, dC, List.getElem?_cons_succ, List.getElem?_cons_zero, seqD]
  have er : rowS k bs (bestS k bs) = .tup [.int (wN k bs (bestS k bs)), stD (bestS k bs), shareV k bs (bestS k bs)] := rfl
  rw [er]
  simp only [gIx, atI3_2]
  refine ⟨by rw [sizeLine_eq, List.length_map]; omega, ?_⟩
  refine comp_1t (fun y => decide (wN k bs y = wN k bs (bestS k bs))) stD (begs bs) (fun ss hs R hR => ?_) (fun ss hs e R hR => ?_) ?_
  · unfold rowS
    simp only [dB, dBin, dVar, dC, dwipe, List.set, List.getElem?_cons_succ, List.getElem?_cons_zero, gIx, atI3_0, gEq]
    refine ⟨⟨dkn_int _ _, dkn_int _ _⟩, ?_⟩
    rw [dq_int]
    have : decide ((wN k bs ss : Int) = (wN k bs (bestS k bs) : Int)) = decide (wN k bs ss = wN k bs (bestS k bs)) := decide_eq_decide.mpr (by omega)
    rw [this]
    exact hR
  · unfold rowS
    simp only [dBin, dVar, dC, dwipe, List.set, List.getElem?_cons_succ, List.getElem?_cons_zero, gIx, atI3_1]
    exact hR
  refine ⟨by rw [sizeLine_eq]; simp, hV _ _ ?_⟩
  show dRet _ _ [some (bxD k bs), some (.lst ((freeS k bs).map stD)), some (.lst ((begs bs).map (rowS k bs))), x3, x4, x5, some (rowS k bs (bestS k bs)), some (leastV k bs), none] M
  simp only [dRet, dAndV, dCall, dCons, dNil, dVar, List.getElem?_cons_succ, List.getElem?_cons_zero]
  refine cl_call gb ⟨_, rfl, dsm_some g (free_some g), ?_⟩
  refine ⟨fun _ => ?_, fun z => (by cases z)⟩
  refine ls_call gb ⟨_, rfl, dsm_least g, ?_⟩
  exact Fz.here h
section
variable {K : Fg} {mg : Str → Option Value} {sk : DSpE} {T : List (Addr × Str)} {Pt eB eS f1 f2 f3 f4 : Addr} {fv : Addr → DSp → Prop}
theorem cut8 (x : D) (xs : List D) : 0 < (cutD (x :: xs) none (some 8)).length := by
  unfold cutD
  simp [HT.sIx]
  omega
theorem l_law_k04 (hB : Lbl K mg sk eB "box +") (hS : Lbl K mg sk eS "beginning +")
    (v1 : fv f1 (sp_first_clash eB eS)) (v2 : fv f2 (sp_clash_share eB eS)) (v3 : fv f3 (sp_clean eB)) (v4 : fv f4 (sp_least_share eB)) (a : Addr) (ns : List Int) (hns : ns.length ≤ 63) :
    t_law_k04 sp_law_deck sp_law_good_k04 sp_law_a_box sp_law_known (sp_first_clash eB eS) (sp_clash_share eB eS) (sp_clean eB) (sp_least_share eB) (.ref f2) (.ref f1) (.ref f4) (.ref f3) fv (dTry K mg sk T Pt) (dScr a ns) DX0 (dEnds fun d _ => d = .bl true) (dst 11 [.ref a]) (memT Pt T) := by
  have z : ∀ n : Nat, n ≤ 20 → n ≤ sizeLine := fun n h => by rw [sizeLine_eq]; omega
  have g1 : GBox 0 [[[97], [98]]] := isBoxG _ _ (by decide +kernel)
  have g2 : GBox 1 [[[97], [], [98]], [[98], []]] := isBoxG _ _ (by decide +kernel)
  have g3 : GBox 0 [[[97, 98]], [[99], [], [99], []]] := isBoxG _ _ (by decide +kernel)
  have gh : GBox 2 [[[97], [], [], [98]]] := isBoxG _ _ (by decide +kernel)
  have gw : GBox 3 [[[97], [98], [97]]] := isBoxG _ _ (by decide +kernel)
  simp only [t_law_k04]
  refine seq_ fun V hr _ _ hV => ?_
  simp only [dFor, dIter, dSlice, dScr, dNoPart, dPart, dC, seqD]
  refine ⟨rfl, ?_⟩
  refine forL_decW (fun k ds M' => ∃ x0 x1 x2 x3 x4 x5 x6 x7 x8 x9 x10 : Option D, ds = [x0, x1, x2, x3, x4, x5, x6, x7, x8, x9, x10] ∧ TabOk T Pt M' ∧ (k < (cutD (.int 0 :: ns.map D.int) none (some 8)).length → x4 = some bxK1 ∧ x5 = some bxK2 ∧ x6 = some bxK3)) _ _ _ (fun x hx k ds M hI V hV hR => ?_) ⟨_, _, _, _, _, _, _, _, _, _, _, rfl, memT_ok, fun h => absurd h (Nat.lt_irrefl _)⟩ ?_
  · clear hr
    obtain ⟨x0, x1, x2, x3, x4, x5, x6, x7, x8, x9, x10, rfl, hM, -⟩ := hI
    obtain ⟨c, rfl⟩ := cutD_ints hx
    simp only [dgN, List.set]
    refine seq_ fun V1 _ _ _ hV1 => ?_
    simp [dSet, dCall, dCons, dNil, dVar, dC]
    refine ⟨c, 4, rfl, by decide, by decide, fun p M1 np kp1 hd1 => ?_⟩
    have pne : p ≠ Pt := fun e => by rw [e, hM.1] at np; cases np
    have hM1 := hM.kp kp1 pne
    refine hV1 _ _ ?_
    refine seq_ fun V1 _ _ _ hV1 => ?_
    simp only [dFor, dRng1, dCons, dNil, dC]
    refine ⟨by decide, ?_⟩
    refine forL_decW (fun k ds M' => ∃ x3 : Option D, ds = [x0, some (.int c), some (.ref p), x3, x4, x5, x6, x7, x8, x9, x10] ∧ TabOk T Pt M' ∧ DeckAt M' p (400 * k)) _ _ _ (fun x hx k ds M hI V2 hV2 hR2 => ?_) ⟨_, rfl, hM1, hd1.less (by decide)⟩ ?_
    · obtain ⟨x3, rfl, hM2, hd2⟩ := hI
      simp only [dgN, List.set]
      simp only [dIf, dNot, dB, dCall, dCons, dNil, dVar, dC, dSkip, List.getElem?_cons_succ, List.getElem?_cons_zero]
      refine ⟨p, 4, 400 * k, rfl, by decide, by decide, hd2.less (by omega), fun kk bs M3 gb _ kp3 hd3 => ?_⟩
      refine ⟨kk, bs, rfl, gb, fun e => (by cases e), fun _ => hV2 _ _ ?_⟩
      exact ⟨_, rfl, hM2.kp kp3 pne, hd3⟩
    rintro ds M2 ⟨x3, rfl, hM2, hd2⟩
    refine hV1 _ _ ?_
    clear hV1
    refine seq_ fun V1 _ _ _ hV1 => ?_
    simp only [dAsg, dCall, dNil]
    refine ⟨rfl, ?_⟩
    simp only [dgT, dgCons, dgNil, dgN, List.set]
    refine ⟨rfl, hV1 _ _ ?_⟩
    refine seq_ fun V1 _ _ _ hV1 => ?_
    simp only [dFor, dIter, dTup, dCons, dNil, dC, seqD, List.length_cons, List.length_nil]
    refine ⟨z _ (by decide), ?_⟩
    refine forL_decW (fun j ds M' => ∃ x8 : Option D, ds = [x0, some (.int c), some (.ref p), x3, some bxK1, some bxK2, some bxK3, some bxK4, x8, x9, x10] ∧ M' = M2) _ _ _ (fun y hy j ds M' hI V3 hV3 hR3 => ?_) ⟨x8, rfl, rfl⟩ ?_
    · obtain ⟨x8, rfl, rfl⟩ := hI
      simp only [dgN, List.set]
      simp only [List.mem_cons, List.not_mem_nil, or_false] at hy
      refine seq_ fun V1 _ _ _ hV1 => ?_
      refine try_ne hM2 hB (by decide +kernel) (fun PX P h => ?_) (hV1 _ _ ?_)
      · rcases hy with rfl | rfl
        · exact ⟨_, _, rfl, v1, _, _, rfl, rfl, rfl, .inl ⟨rfl, h⟩⟩
        · exact ⟨_, _, rfl, v2, _, _, rfl, rfl, rfl, .inl ⟨rfl, h⟩⟩
      refine try_ne hM2 hS (by decide +kernel) (fun PX P h => ?_) (hV3 _ _ ⟨_, rfl, rfl⟩)
      rcases hy with rfl | rfl
      · exact ⟨_, _, rfl, v1, z 1 (by decide), _, _, rfl, dkn_bx g2.2.2.2.2, by decide +kernel, .inr ⟨1, _, rfl, g2, .inl ⟨by decide +kernel, h⟩⟩⟩
      · exact ⟨_, _, rfl, v2, z 1 (by decide), _, _, rfl, dkn_bx g2.2.2.2.2, by decide +kernel, .inr ⟨1, _, rfl, g2, .inl ⟨by decide +kernel, h⟩⟩⟩
    rintro ds M' ⟨x8, rfl, rfl⟩
    refine hV1 _ _ ?_
    simp only [dFor, dIter, dTup, dCons, dNil, dC, seqD, List.length_cons, List.length_nil]
    refine ⟨z _ (by decide), ?_⟩
    refine forL_decW (fun j ds M2 => ∃ x8 : Option D, ds = [x0, some (.int c), some (.ref p), x3, some bxK1, some bxK2, some bxK3, some bxK4, x8, x9, x10] ∧ M2 = M') _ _ _ (fun y hy j ds M2 hI V3 hV3 hR3 => ?_) ⟨x8, rfl, rfl⟩ ?_
    · obtain ⟨x8, rfl, rfl⟩ := hI
      simp only [List.mem_cons, List.not_mem_nil, or_false] at hy
      refine try_ne hM2 hB (by decide +kernel) (fun PX P h => ?_) (hV3 _ _ ⟨_, rfl, rfl⟩)
      rcases hy with rfl | rfl
      · exact ⟨_, _, rfl, v3, _, rfl, by decide +kernel, .inl ⟨by decide +kernel, h⟩⟩
      · exact ⟨_, _, rfl, v4, _, rfl, by decide +kernel, .inl ⟨by decide +kernel, h⟩⟩
    · rintro ds M2 ⟨x8, rfl, rfl⟩
      exact hV _ _ ⟨_, _, _, _, _, _, _, _, _, _, _, rfl, hM2, fun _ => ⟨rfl, rfl, rfl⟩⟩
  · rintro ds M ⟨x0, x1, x2, x3, x4, x5, x6, x7, x8, x9, x10, rfl, hM, hk⟩
    obtain ⟨rfl, rfl, rfl⟩ := hk (cut8 _ _)
    refine hV _ _ ?_
    clear hV
    have s2 : ∀ ss, ss ∈ begs [[[97], [], [98]], [[98], []]] → GSt [[[97], [], [98]], [[98], []]] ss := fun _ h => begs_mem.mp h
    refine seq_ fun V hr _ _ hV => ?_
    refine if_no (no_ne (.lst [.int 2, .int 0, .int 1]) (by decide +kernel) (fun P q => ?_) (fun P q => ?_)) (hV _ _ ?_)
    · simp only [dComp, dIter, dTup, dCons, dNil, dC, seqD, List.length_cons, List.length_nil]
      refine ⟨z _ (by decide), z _ (by decide), z _ (by decide), z _ (by decide), z _ (by decide), ?_⟩
      refine comp_1 (h := stD) (firstV 1 [[[97], [], [98]], [[98], []]]) [[0, 0], [2, 0], [2, 1]] (fun ss hs R hR => ?_) ?_
      · simp only [dCall, dCons, dNil, dVar, dwipe, List.set, List.getElem?_cons_succ, List.getElem?_cons_zero]
        refine fc_call g2 (s2 ss ?_) hR
        simp only [List.mem_cons, List.not_mem_nil, or_false] at hs
        rcases hs with rfl | rfl | rfl <;> decide +kernel
      · rw [show List.map (firstV 1 [[[97], [], [98]], [[98], []]]) [[0, 0], [2, 0], [2, 1]] = [.int 2, .int 0, .int 1] by kernel_rfl]
        exact q
    · simp only [dLst, dCons, dNil, dC, List.length_cons, List.length_nil]
      exact ⟨z _ (by decide), q⟩
    refine seq_ fun V hr _ _ hV => ?_
    refine if_no (no_ne (.tup [.int 1, .int 2]) (by decide +kernel) (fun P q => ?_) (fun P q => ?_)) (hV _ _ ?_)
    · simp only [dCall, dTup, dCons, dNil, dC, dVar, List.getElem?_cons_succ, List.getElem?_cons_zero, List.length_cons, List.length_nil]
      refine ⟨z 2 (by decide), cs_call (ss := [0, 0]) g2 (s2 _ (by decide +kernel)) ?_⟩
      rw [show shareV 1 [[[97], [], [98]], [[98], []]] [0, 0] = .tup [.int 1, .int 2] by kernel_rfl]
      exact q
    · simp only [dTup, dCons, dNil, dC, List.length_cons, List.length_nil]
      exact ⟨z _ (by decide), q⟩
    refine seq_ fun V hr _ _ hV => ?_
    refine if_no (no_or (no_ne (.lst []) (by decide +kernel) (fun P q => ?_) (fun P q => ?_)) (no_or (no_ne (.lst [.tup [.int 0], .tup [.int 1]]) (by decide +kernel) (fun P q => ?_) (fun P q => ?_)) (no_ne (.tup [.int 0, .int 1]) (by decide +kernel) (fun P q => ?_) (fun P q => ?_)))) (hV _ _ ?_)
    · simp only [dCall, dCons, dNil, dVar, List.getElem?_cons_succ, List.getElem?_cons_zero]
      refine cl_call g2 ?_
      rw [show D.lst ((freeS 1 [[[97], [], [98]], [[98], []]]).map stD) = .lst [] by kernel_rfl]
      exact q
    · simp only [dLst, dNil, List.length_nil]
      exact ⟨z 0 (by decide), q⟩
    · simp only [dCall, dCons, dNil, dVar, List.getElem?_cons_succ, List.getElem?_cons_zero]
      refine cl_call g1 ?_
      rw [show D.lst ((freeS 0 [[[97], [98]]]).map stD) = .lst [.tup [.int 0], .tup [.int 1]] by kernel_rfl]
      exact q
    · simp only [dLst, dTup, dCons, dNil, dC, List.length_cons, List.length_nil]
      exact ⟨z _ (by decide), z _ (by decide), z _ (by decide), q⟩
    · simp only [dCall, dTup, dCons, dNil, dC, dVar, List.getElem?_cons_succ, List.getElem?_cons_zero, List.length_cons, List.length_nil]
      refine ⟨z 1 (by decide), cs_call (ss := [0]) g1 (begs_mem.mp (by decide +kernel)) ?_⟩
      rw [show shareV 0 [[[97], [98]]] [0] = .tup [.int 0, .int 1] by kernel_rfl]
      exact q
    · simp only [dTup, dCons, dNil, dC, List.length_cons, List.length_nil]
      exact ⟨z _ (by decide), q⟩
    refine seq_ fun V hr _ _ hV => ?_
    refine if_no (no_ne (.tup [.tup [.int 0, .int 1], .lst [.tup [.int 0, .int 0], .tup [.int 0, .int 1], .tup [.int 0, .int 2], .tup [.int 0, .int 3]]]) (by decide +kernel) (fun P q => ?_) (fun P q => ?_)) (hV _ _ ?_)
    · simp only [dCall, dCons, dNil, dVar, List.getElem?_cons_succ, List.getElem?_cons_zero]
      refine ls_call g3 ?_
      rw [show leastV 0 [[[97, 98]], [[99], [], [99], []]] = .tup [.tup [.int 0, .int 1], .lst [.tup [.int 0, .int 0], .tup [.int 0, .int 1], .tup [.int 0, .int 2], .tup [.int 0, .int 3]]] by kernel_rfl]
      exact q
    · simp only [dLst, dTup, dCons, dNil, dC, List.length_cons, List.length_nil]
      exact ⟨z _ (by decide), z _ (by decide), z _ (by decide), z _ (by decide), z _ (by decide), z _ (by decide), z _ (by decide), q⟩
    refine seq_ fun V hr _ _ hV => ?_
    simp only [dSet, dTup, dCons, dNil, dC, List.length_cons, List.length_nil]
    refine ⟨z _ (by decide), z _ (by decide), z _ (by decide), hV _ _ ?_⟩
    simp only [List.set]
    simp only [dRet, dAndV]
    refine is_eq (.lst [.tup [.int 0], .tup [.int 1], .tup [.int 2], .tup [.int 3]]) (by decide +kernel) (fun P q => ?_) (fun P q => ?_) _ ⟨fun _ => ?_, fun z => (by cases z)⟩
    · simp only [dCall, dCons, dNil, dVar, List.getElem?_cons_succ, List.getElem?_cons_zero]
      refine cl_call gh ?_
      rw [show D.lst ((freeS 2 [[[97], [], [], [98]]]).map stD) = .lst [.tup [.int 0], .tup [.int 1], .tup [.int 2], .tup [.int 3]] by kernel_rfl]
      exact q
    · simp only [dLst, dTup, dCons, dNil, dC, List.length_cons, List.length_nil]
      exact ⟨z _ (by decide), z _ (by decide), z _ (by decide), z _ (by decide), z _ (by decide), q⟩
    refine is_eq (.int 2) (by decide +kernel) (fun P q => ?_) (fun P q => q) _ (Fz.here rfl)
    simp only [dCall, dTup, dCons, dNil, dC, List.length_cons, List.length_nil]
    refine ⟨z _ (by decide), z _ (by decide), z _ (by decide), z _ (by decide), fc_call (ss := [1]) gw (begs_mem.mp (by decide +kernel)) ?_⟩
    rw [show firstV 3 [[[97], [98], [97]]] [1] = .int 2 by kernel_rfl]
    exact q
end
end DL

set_option Elab.async false
set_option linter.all false
set_option maxRecDepth 100000
set_option maxHeartbeats 4000000
namespace DL
open PySem PySem.Spec PyProof.Rows L2
/-! ### the head's facts -/
abbrev Sx (w : World) (h : Heap) (K : Fg) : Prop := He.SaysX faL fnL [] [("law", none)] exK w h K
section
variable {P : Program} {w : World} {K : Fg} {h base : Heap} {mg : Str → Option Value}
theorem gl (X : K.In h) (G : h.Ns mainGlobals mg) (c : Sx w h K) (x : Str) (hx : x ∈ gloL) : mg x = some (.ref (He.ga K x)) :=
  He.glo_ok X G (c.t.d.facts (f := .glo x) (List.mem_append_left _ (List.mem_map_of_mem hx)))
theorem fr (X : K.In h) (G : h.Ns mainGlobals mg) (c : Sx w h K) (x : Str) (hx : x ∈ freeL) : mg x = none :=
  He.free_ok X G (c.t.d.facts (f := .free x) (List.mem_append_right _ (List.mem_append_left _ (List.mem_map_of_mem hx))))
theorem blt (X : K.In h) (G : h.Ns mainGlobals mg) (c : Sx w h K) : Blt mg :=
  ⟨fr X G c _ (by decide +kernel), fr X G c _ (by decide +kernel), fr X G c _ (by decide +kernel), fr X G c _ (by decide +kernel), fr X G c _ (by decide +kernel), fr X G c _ (by decide +kernel), fr X G c _ (by decide +kernel), fr X G c _ (by decide +kernel), fr X G c _ (by decide +kernel), fr X G c _ (by decide +kernel), fr X G c _ (by decide +kernel), fr X G c _ (by decide +kernel), fr X G c _ (by decide +kernel), fr X G c _ (by decide +kernel), fr X G c _ (by decide +kernel), fr X G c _ (by decide +kernel)⟩
theorem gt_TEETH (X : K.In h) (G : h.Ns mainGlobals mg) (c : Sx w h K) : GCon K mg "TEETH" cTEETH := by
  obtain ⟨h0, _⟩ := He.ba c.more
  have h1 : He.tupB K "TEETH" [.str "a", .str "b", .str "c", .str "d"] = true := by
    unfold tupK at h0
    try simp only [Bool.and_eq_true] at h0
    first | exact h0 | exact h0.1 | exact h0.2 | exact h0.1.1 | exact h0.1.2
  refine ⟨.ref (He.ga K "TEETH"), .ref (He.ga K "TEETH"), gl X G c "TEETH" (by decide +kernel), rfl, fun A H => ?_⟩
  exact .tup (He.tupB_ok h1 H) (.cons (.str _) (.cons (.str _) (.cons (.str _) (.cons (.str _) (.nil)))))
theorem gCls (X : K.In h) (G : h.Ns mainGlobals mg) (c : Sx w h K) {x : Str} (hx : x ∈ gloL) : GCon K mg x (.ref (He.ga K x)) :=
  ⟨.ref (He.ga K x), .ref (He.ga K x), gl X G c x hx, rfl, fun A H => .ref _⟩
theorem eAt (X : K.In h) (G : h.Ns mainGlobals mg) (c : Sx w h K) {x : Str} (hx : x ∈ gloL) (he : x ∈ errN) : ErrAt K mg x (He.ga K x) := by
  obtain ⟨h1, h2, h3, h4⟩ := He.exc_ok (c.t.d.facts (f := .exc x) (List.mem_append_right _ (List.mem_append_right _ (List.mem_append_right _ (List.mem_append_left _ (List.mem_map_of_mem he))))))
  exact ⟨gl X G c x hx, h1, h2, h3, h4⟩
def kinC (K : Fg) : List D := [.ref (He.ga K "InvalidBox"), .ref (He.ga K "InvalidBeginning"), .ref (He.ga K "InvalidTick"), .ref (He.ga K "InvalidTooth"), .ref (He.ga K "InvalidFacts"), .ref (He.ga K "InvalidNumber"), .ref (He.ga K "InvalidIndex"), .ref (He.ga K "NoBeginning"), .ref (He.ga K "Unlike"), .ref (He.ga K "NothingToUndo"), .ref (He.ga K "TooMany"), .ref (He.ga K "InvalidText"), .ty "ValueError"]
theorem kinC_eq : kinC K = (kinN.map fun y => D.ref (He.ga K y)) ++ [.ty "ValueError"] := rfl
def flagsOf (x : Str) : List Bool := (kinN.map fun y => y == x) ++ [true]
def lblOf (x : Str) : Str := Txt.join (sN [32]) ((kinL (flagsOf x)).map sN)
theorem lbl (X : K.In h) (G : h.Ns mainGlobals mg) (c : Sx w h K) {x l : Str} (hx : x ∈ errN) (hl : lblOf x = l) : Lbl K mg (sp_law_kin (kinC K)) (He.ga K x) l := by
  obtain ⟨_, h2⟩ := He.ba c.more
  obtain ⟨h3, h4⟩ := He.ba (List.all_eq_true.mp h2 x hx)
  obtain ⟨k1, k2⟩ := He.ba h3
  obtain ⟨e1, h4⟩ := He.ba h4
  obtain ⟨e2, h4⟩ := He.ba h4
  obtain ⟨e3, h4⟩ := He.ba h4
  obtain ⟨e4, h4⟩ := He.ba h4
  obtain ⟨e5, h4⟩ := He.ba h4
  obtain ⟨e6, e7⟩ := He.ba h4
  have ef : ∀ f ∈ [He.Fa.exm x "InvalidText" false, .exm x "TooMany" false, .exm x "BoxError" true], f ∈ faL := fun f hf =>
    List.mem_append_right _ (List.mem_append_right _ (List.mem_append_right _ (List.mem_append_right _ (List.mem_flatMap.mpr ⟨x, hx, hf⟩))))
  obtain ⟨_, _, q3, _⟩ := He.exc_ok (c.t.d.facts (f := .exc x) (List.mem_append_right _ (List.mem_append_right _ (List.mem_append_right _ (List.mem_append_left _ (List.mem_map_of_mem hx))))))
  refine ⟨⟨⟨of_decide_eq_true e1, of_decide_eq_true e2, q3, e3, of_decide_eq_true e4, of_decide_eq_true e5, of_decide_eq_true e6, of_decide_eq_true e7⟩, ?_, ?_, ?_⟩, fun a M P' q => ?_⟩
  · exact ⟨_, gl X G c "InvalidText" (by decide +kernel), He.exm_ok (c.t.d.facts (ef _ List.mem_cons_self))⟩
  · exact ⟨_, gl X G c "TooMany" (by decide +kernel), He.exm_ok (c.t.d.facts (ef _ (List.mem_cons_of_mem _ List.mem_cons_self)))⟩
  · exact ⟨_, gl X G c "BoxError" (by decide +kernel), He.exm_ok (c.t.d.facts (ef _ (List.mem_cons_of_mem _ (List.mem_cons_of_mem _ List.mem_cons_self))))⟩
  · refine ⟨a, flagsOf x, rfl, rfl, fun i d f hi hf M Q q => ?_, by rw [show Txt.join (sN [32]) ((kinL (flagsOf x)).map sN) = l from hl]; exact q⟩
    rw [kinC_eq] at hi
    unfold flagsOf at hf
    by_cases h12 : i < kinN.length
    · rw [List.getElem?_append_left (by rw [List.length_map]; exact h12), List.getElem?_map, List.getElem?_eq_getElem h12] at hi hf
      have hi' := Option.some.inj hi
      have hf' := Option.some.inj hf
      have z := of_decide_eq_true (List.all_eq_true.mp k1 _ (List.getElem_mem h12))
      rw [← hi']
      exact ⟨rfl, _, z, by rw [show (kinN[i] == x) = f from hf']; exact q⟩
    · rw [List.getElem?_append_right (by rw [List.length_map]; omega), List.length_map] at hi hf
      have : i - kinN.length = 0 := by
        by_cases z : i - kinN.length = 0
        · exact z
        · exfalso
          have : ([.ty "ValueError"] : List D)[i - kinN.length]? = none := List.getElem?_eq_none (by simp; omega)
          rw [this] at hi
          cases hi
      rw [this] at hi hf
      cases hi
      cases hf
      exact ⟨rfl, _, of_decide_eq_true k2, q⟩
end
theorem len_is_within {K : Fg} : ∀ ds M P PX, sp_is_within ds M P PX → ds.length = 3 := by
  intro ds M P PX h
  unfold sp_is_within at h
  first | (obtain ⟨rfl, _⟩ := h; rfl) | (obtain ⟨_, rfl, _⟩ := h; rfl) | (obtain ⟨_, _, rfl, _⟩ := h; rfl) | (obtain ⟨_, _, _, rfl, _⟩ := h; rfl) | (obtain ⟨_, _, _, _, rfl, _⟩ := h; rfl) | (obtain ⟨_, _, _, _, _, rfl, _⟩ := h; rfl) | (obtain ⟨_, _, _, _, _, _, rfl, _⟩ := h; rfl) | (obtain ⟨_, _, _, _, _, _, _, rfl, _⟩ := h; rfl) | (split at h <;> first | rfl | exact h.elim)
theorem len_has_items {K : Fg} : ∀ ds M P PX, sp_has_items ds M P PX → ds.length = 3 := by
  intro ds M P PX h
  unfold sp_has_items at h
  first | (obtain ⟨rfl, _⟩ := h; rfl) | (obtain ⟨_, rfl, _⟩ := h; rfl) | (obtain ⟨_, _, rfl, _⟩ := h; rfl) | (obtain ⟨_, _, _, rfl, _⟩ := h; rfl) | (obtain ⟨_, _, _, _, rfl, _⟩ := h; rfl) | (obtain ⟨_, _, _, _, _, rfl, _⟩ := h; rfl) | (obtain ⟨_, _, _, _, _, _, rfl, _⟩ := h; rfl) | (obtain ⟨_, _, _, _, _, _, _, rfl, _⟩ := h; rfl) | (split at h <;> first | rfl | exact h.elim)
theorem len_are_teeth {K : Fg} : ∀ ds M P PX, sp_are_teeth ds M P PX → ds.length = 1 := by
  intro ds M P PX h
  unfold sp_are_teeth at h
  first | (obtain ⟨rfl, _⟩ := h; rfl) | (obtain ⟨_, rfl, _⟩ := h; rfl) | (obtain ⟨_, _, rfl, _⟩ := h; rfl) | (obtain ⟨_, _, _, rfl, _⟩ := h; rfl) | (obtain ⟨_, _, _, _, rfl, _⟩ := h; rfl) | (obtain ⟨_, _, _, _, _, rfl, _⟩ := h; rfl) | (obtain ⟨_, _, _, _, _, _, rfl, _⟩ := h; rfl) | (obtain ⟨_, _, _, _, _, _, _, rfl, _⟩ := h; rfl) | (split at h <;> first | rfl | exact h.elim)
theorem len_is_barrel {K : Fg} : ∀ ds M P PX, sp_is_barrel ds M P PX → ds.length = 1 := by
  intro ds M P PX h
  unfold sp_is_barrel at h
  first | (obtain ⟨rfl, _⟩ := h; rfl) | (obtain ⟨_, rfl, _⟩ := h; rfl) | (obtain ⟨_, _, rfl, _⟩ := h; rfl) | (obtain ⟨_, _, _, rfl, _⟩ := h; rfl) | (obtain ⟨_, _, _, _, rfl, _⟩ := h; rfl) | (obtain ⟨_, _, _, _, _, rfl, _⟩ := h; rfl) | (obtain ⟨_, _, _, _, _, _, rfl, _⟩ := h; rfl) | (obtain ⟨_, _, _, _, _, _, _, rfl, _⟩ := h; rfl) | (split at h <;> first | rfl | exact h.elim)
theorem len_is_box_value {K : Fg} : ∀ ds M P PX, sp_is_box_value ds M P PX → ds.length = 1 := by
  intro ds M P PX h
  unfold sp_is_box_value at h
  first | (obtain ⟨rfl, _⟩ := h; rfl) | (obtain ⟨_, rfl, _⟩ := h; rfl) | (obtain ⟨_, _, rfl, _⟩ := h; rfl) | (obtain ⟨_, _, _, rfl, _⟩ := h; rfl) | (obtain ⟨_, _, _, _, rfl, _⟩ := h; rfl) | (obtain ⟨_, _, _, _, _, rfl, _⟩ := h; rfl) | (obtain ⟨_, _, _, _, _, _, rfl, _⟩ := h; rfl) | (obtain ⟨_, _, _, _, _, _, _, rfl, _⟩ := h; rfl) | (split at h <;> first | rfl | exact h.elim)
theorem len_begins {K : Fg} : ∀ ds M P PX, sp_begins ds M P PX → ds.length = 2 := by
  intro ds M P PX h
  unfold sp_begins at h
  first | (obtain ⟨rfl, _⟩ := h; rfl) | (obtain ⟨_, rfl, _⟩ := h; rfl) | (obtain ⟨_, _, rfl, _⟩ := h; rfl) | (obtain ⟨_, _, _, rfl, _⟩ := h; rfl) | (obtain ⟨_, _, _, _, rfl, _⟩ := h; rfl) | (obtain ⟨_, _, _, _, _, rfl, _⟩ := h; rfl) | (obtain ⟨_, _, _, _, _, _, rfl, _⟩ := h; rfl) | (obtain ⟨_, _, _, _, _, _, _, rfl, _⟩ := h; rfl) | (split at h <;> first | rfl | exact h.elim)
theorem len_need_box {K : Fg} : ∀ ds M P PX, (sp_need_box (He.ga K "InvalidBox")) ds M P PX → ds.length = 1 := by
  intro ds M P PX h
  unfold sp_need_box at h
  first | (obtain ⟨rfl, _⟩ := h; rfl) | (obtain ⟨_, rfl, _⟩ := h; rfl) | (obtain ⟨_, _, rfl, _⟩ := h; rfl) | (obtain ⟨_, _, _, rfl, _⟩ := h; rfl) | (obtain ⟨_, _, _, _, rfl, _⟩ := h; rfl) | (obtain ⟨_, _, _, _, _, rfl, _⟩ := h; rfl) | (obtain ⟨_, _, _, _, _, _, rfl, _⟩ := h; rfl) | (obtain ⟨_, _, _, _, _, _, _, rfl, _⟩ := h; rfl) | (split at h <;> first | rfl | exact h.elim)
theorem len_need_beginning {K : Fg} : ∀ ds M P PX, (sp_need_beginning (He.ga K "InvalidBeginning")) ds M P PX → ds.length = 2 := by
  intro ds M P PX h
  unfold sp_need_beginning at h
  first | (obtain ⟨rfl, _⟩ := h; rfl) | (obtain ⟨_, rfl, _⟩ := h; rfl) | (obtain ⟨_, _, rfl, _⟩ := h; rfl) | (obtain ⟨_, _, _, rfl, _⟩ := h; rfl) | (obtain ⟨_, _, _, _, rfl, _⟩ := h; rfl) | (obtain ⟨_, _, _, _, _, rfl, _⟩ := h; rfl) | (obtain ⟨_, _, _, _, _, _, rfl, _⟩ := h; rfl) | (obtain ⟨_, _, _, _, _, _, _, rfl, _⟩ := h; rfl) | (split at h <;> first | rfl | exact h.elim)
theorem len_gcd {K : Fg} : ∀ ds M P PX, sp_gcd ds M P PX → ds.length = 2 := by
  intro ds M P PX h
  unfold sp_gcd at h
  first | (obtain ⟨rfl, _⟩ := h; rfl) | (obtain ⟨_, rfl, _⟩ := h; rfl) | (obtain ⟨_, _, rfl, _⟩ := h; rfl) | (obtain ⟨_, _, _, rfl, _⟩ := h; rfl) | (obtain ⟨_, _, _, _, rfl, _⟩ := h; rfl) | (obtain ⟨_, _, _, _, _, rfl, _⟩ := h; rfl) | (obtain ⟨_, _, _, _, _, _, rfl, _⟩ := h; rfl) | (obtain ⟨_, _, _, _, _, _, _, rfl, _⟩ := h; rfl) | (split at h <;> first | rfl | exact h.elim)
theorem len_period_of {K : Fg} : ∀ ds M P PX, sp_period_of ds M P PX → ds.length = 1 := by
  intro ds M P PX h
  unfold sp_period_of at h
  first | (obtain ⟨rfl, _⟩ := h; rfl) | (obtain ⟨_, rfl, _⟩ := h; rfl) | (obtain ⟨_, _, rfl, _⟩ := h; rfl) | (obtain ⟨_, _, _, rfl, _⟩ := h; rfl) | (obtain ⟨_, _, _, _, rfl, _⟩ := h; rfl) | (obtain ⟨_, _, _, _, _, rfl, _⟩ := h; rfl) | (obtain ⟨_, _, _, _, _, _, rfl, _⟩ := h; rfl) | (obtain ⟨_, _, _, _, _, _, _, rfl, _⟩ := h; rfl) | (split at h <;> first | rfl | exact h.elim)
theorem len_all_beginnings {K : Fg} : ∀ ds M P PX, sp_all_beginnings ds M P PX → ds.length = 1 := by
  intro ds M P PX h
  unfold sp_all_beginnings at h
  first | (obtain ⟨rfl, _⟩ := h; rfl) | (obtain ⟨_, rfl, _⟩ := h; rfl) | (obtain ⟨_, _, rfl, _⟩ := h; rfl) | (obtain ⟨_, _, _, rfl, _⟩ := h; rfl) | (obtain ⟨_, _, _, _, rfl, _⟩ := h; rfl) | (obtain ⟨_, _, _, _, _, rfl, _⟩ := h; rfl) | (obtain ⟨_, _, _, _, _, _, rfl, _⟩ := h; rfl) | (obtain ⟨_, _, _, _, _, _, _, rfl, _⟩ := h; rfl) | (split at h <;> first | rfl | exact h.elim)
theorem len_items_at {K : Fg} : ∀ ds M P PX, sp_items_at ds M P PX → ds.length = 3 := by
  intro ds M P PX h
  unfold sp_items_at at h
  first | (obtain ⟨rfl, _⟩ := h; rfl) | (obtain ⟨_, rfl, _⟩ := h; rfl) | (obtain ⟨_, _, rfl, _⟩ := h; rfl) | (obtain ⟨_, _, _, rfl, _⟩ := h; rfl) | (obtain ⟨_, _, _, _, rfl, _⟩ := h; rfl) | (obtain ⟨_, _, _, _, _, rfl, _⟩ := h; rfl) | (obtain ⟨_, _, _, _, _, _, rfl, _⟩ := h; rfl) | (obtain ⟨_, _, _, _, _, _, _, rfl, _⟩ := h; rfl) | (split at h <;> first | rfl | exact h.elim)
theorem len_chord_at {K : Fg} : ∀ ds M P PX, sp_chord_at ds M P PX → ds.length = 3 := by
  intro ds M P PX h
  unfold sp_chord_at at h
  first | (obtain ⟨rfl, _⟩ := h; rfl) | (obtain ⟨_, rfl, _⟩ := h; rfl) | (obtain ⟨_, _, rfl, _⟩ := h; rfl) | (obtain ⟨_, _, _, rfl, _⟩ := h; rfl) | (obtain ⟨_, _, _, _, rfl, _⟩ := h; rfl) | (obtain ⟨_, _, _, _, _, rfl, _⟩ := h; rfl) | (obtain ⟨_, _, _, _, _, _, rfl, _⟩ := h; rfl) | (obtain ⟨_, _, _, _, _, _, _, rfl, _⟩ := h; rfl) | (split at h <;> first | rfl | exact h.elim)
theorem len_is_clash {K : Fg} : ∀ ds M P PX, sp_is_clash ds M P PX → ds.length = 3 := by
  intro ds M P PX h
  unfold sp_is_clash at h
  first | (obtain ⟨rfl, _⟩ := h; rfl) | (obtain ⟨_, rfl, _⟩ := h; rfl) | (obtain ⟨_, _, rfl, _⟩ := h; rfl) | (obtain ⟨_, _, _, rfl, _⟩ := h; rfl) | (obtain ⟨_, _, _, _, rfl, _⟩ := h; rfl) | (obtain ⟨_, _, _, _, _, rfl, _⟩ := h; rfl) | (obtain ⟨_, _, _, _, _, _, rfl, _⟩ := h; rfl) | (obtain ⟨_, _, _, _, _, _, _, rfl, _⟩ := h; rfl) | (split at h <;> first | rfl | exact h.elim)
theorem len_first_of {K : Fg} : ∀ ds M P PX, sp_first_of ds M P PX → ds.length = 2 := by
  intro ds M P PX h
  unfold sp_first_of at h
  first | (obtain ⟨rfl, _⟩ := h; rfl) | (obtain ⟨_, rfl, _⟩ := h; rfl) | (obtain ⟨_, _, rfl, _⟩ := h; rfl) | (obtain ⟨_, _, _, rfl, _⟩ := h; rfl) | (obtain ⟨_, _, _, _, rfl, _⟩ := h; rfl) | (obtain ⟨_, _, _, _, _, rfl, _⟩ := h; rfl) | (obtain ⟨_, _, _, _, _, _, rfl, _⟩ := h; rfl) | (obtain ⟨_, _, _, _, _, _, _, rfl, _⟩ := h; rfl) | (split at h <;> first | rfl | exact h.elim)
theorem len_share_of {K : Fg} : ∀ ds M P PX, sp_share_of ds M P PX → ds.length = 2 := by
  intro ds M P PX h
  unfold sp_share_of at h
  first | (obtain ⟨rfl, _⟩ := h; rfl) | (obtain ⟨_, rfl, _⟩ := h; rfl) | (obtain ⟨_, _, rfl, _⟩ := h; rfl) | (obtain ⟨_, _, _, rfl, _⟩ := h; rfl) | (obtain ⟨_, _, _, _, rfl, _⟩ := h; rfl) | (obtain ⟨_, _, _, _, _, rfl, _⟩ := h; rfl) | (obtain ⟨_, _, _, _, _, _, rfl, _⟩ := h; rfl) | (obtain ⟨_, _, _, _, _, _, _, rfl, _⟩ := h; rfl) | (split at h <;> first | rfl | exact h.elim)
theorem len_first_clash {K : Fg} : ∀ ds M P PX, (sp_first_clash (He.ga K "InvalidBox") (He.ga K "InvalidBeginning")) ds M P PX → ds.length = 2 := by
  intro ds M P PX h
  unfold sp_first_clash at h
  first | (obtain ⟨rfl, _⟩ := h; rfl) | (obtain ⟨_, rfl, _⟩ := h; rfl) | (obtain ⟨_, _, rfl, _⟩ := h; rfl) | (obtain ⟨_, _, _, rfl, _⟩ := h; rfl) | (obtain ⟨_, _, _, _, rfl, _⟩ := h; rfl) | (obtain ⟨_, _, _, _, _, rfl, _⟩ := h; rfl) | (obtain ⟨_, _, _, _, _, _, rfl, _⟩ := h; rfl) | (obtain ⟨_, _, _, _, _, _, _, rfl, _⟩ := h; rfl) | (split at h <;> first | rfl | exact h.elim)
theorem len_clean_ones {K : Fg} : ∀ ds M P PX, sp_clean_ones ds M P PX → ds.length = 1 := by
  intro ds M P PX h
  unfold sp_clean_ones at h
  first | (obtain ⟨rfl, _⟩ := h; rfl) | (obtain ⟨_, rfl, _⟩ := h; rfl) | (obtain ⟨_, _, rfl, _⟩ := h; rfl) | (obtain ⟨_, _, _, rfl, _⟩ := h; rfl) | (obtain ⟨_, _, _, _, rfl, _⟩ := h; rfl) | (obtain ⟨_, _, _, _, _, rfl, _⟩ := h; rfl) | (obtain ⟨_, _, _, _, _, _, rfl, _⟩ := h; rfl) | (obtain ⟨_, _, _, _, _, _, _, rfl, _⟩ := h; rfl) | (split at h <;> first | rfl | exact h.elim)
theorem len_clean {K : Fg} : ∀ ds M P PX, (sp_clean (He.ga K "InvalidBox")) ds M P PX → ds.length = 1 := by
  intro ds M P PX h
  unfold sp_clean at h
  first | (obtain ⟨rfl, _⟩ := h; rfl) | (obtain ⟨_, rfl, _⟩ := h; rfl) | (obtain ⟨_, _, rfl, _⟩ := h; rfl) | (obtain ⟨_, _, _, rfl, _⟩ := h; rfl) | (obtain ⟨_, _, _, _, rfl, _⟩ := h; rfl) | (obtain ⟨_, _, _, _, _, rfl, _⟩ := h; rfl) | (obtain ⟨_, _, _, _, _, _, rfl, _⟩ := h; rfl) | (obtain ⟨_, _, _, _, _, _, _, rfl, _⟩ := h; rfl) | (split at h <;> first | rfl | exact h.elim)
theorem len_clash_share {K : Fg} : ∀ ds M P PX, (sp_clash_share (He.ga K "InvalidBox") (He.ga K "InvalidBeginning")) ds M P PX → ds.length = 2 := by
  intro ds M P PX h
  unfold sp_clash_share at h
  first | (obtain ⟨rfl, _⟩ := h; rfl) | (obtain ⟨_, rfl, _⟩ := h; rfl) | (obtain ⟨_, _, rfl, _⟩ := h; rfl) | (obtain ⟨_, _, _, rfl, _⟩ := h; rfl) | (obtain ⟨_, _, _, _, rfl, _⟩ := h; rfl) | (obtain ⟨_, _, _, _, _, rfl, _⟩ := h; rfl) | (obtain ⟨_, _, _, _, _, _, rfl, _⟩ := h; rfl) | (obtain ⟨_, _, _, _, _, _, _, rfl, _⟩ := h; rfl) | (split at h <;> first | rfl | exact h.elim)
theorem len_least_share {K : Fg} : ∀ ds M P PX, (sp_least_share (He.ga K "InvalidBox")) ds M P PX → ds.length = 1 := by
  intro ds M P PX h
  unfold sp_least_share at h
  first | (obtain ⟨rfl, _⟩ := h; rfl) | (obtain ⟨_, rfl, _⟩ := h; rfl) | (obtain ⟨_, _, rfl, _⟩ := h; rfl) | (obtain ⟨_, _, _, rfl, _⟩ := h; rfl) | (obtain ⟨_, _, _, _, rfl, _⟩ := h; rfl) | (obtain ⟨_, _, _, _, _, rfl, _⟩ := h; rfl) | (obtain ⟨_, _, _, _, _, _, rfl, _⟩ := h; rfl) | (obtain ⟨_, _, _, _, _, _, _, rfl, _⟩ := h; rfl) | (split at h <;> first | rfl | exact h.elim)
theorem len_law_deck {K : Fg} : ∀ ds M P PX, sp_law_deck ds M P PX → ds.length = 2 := by
  intro ds M P PX h
  unfold sp_law_deck at h
  first | (obtain ⟨rfl, _⟩ := h; rfl) | (obtain ⟨_, rfl, _⟩ := h; rfl) | (obtain ⟨_, _, rfl, _⟩ := h; rfl) | (obtain ⟨_, _, _, rfl, _⟩ := h; rfl) | (obtain ⟨_, _, _, _, rfl, _⟩ := h; rfl) | (obtain ⟨_, _, _, _, _, rfl, _⟩ := h; rfl) | (obtain ⟨_, _, _, _, _, _, rfl, _⟩ := h; rfl) | (obtain ⟨_, _, _, _, _, _, _, rfl, _⟩ := h; rfl) | (split at h <;> first | rfl | exact h.elim)
theorem len_law_pick {K : Fg} : ∀ ds M P PX, sp_law_pick ds M P PX → ds.length = 2 := by
  intro ds M P PX h
  unfold sp_law_pick at h
  first | (obtain ⟨rfl, _⟩ := h; rfl) | (obtain ⟨_, rfl, _⟩ := h; rfl) | (obtain ⟨_, _, rfl, _⟩ := h; rfl) | (obtain ⟨_, _, _, rfl, _⟩ := h; rfl) | (obtain ⟨_, _, _, _, rfl, _⟩ := h; rfl) | (obtain ⟨_, _, _, _, _, rfl, _⟩ := h; rfl) | (obtain ⟨_, _, _, _, _, _, rfl, _⟩ := h; rfl) | (obtain ⟨_, _, _, _, _, _, _, rfl, _⟩ := h; rfl) | (split at h <;> first | rfl | exact h.elim)
theorem len_law_one {K : Fg} : ∀ ds M P PX, sp_law_one ds M P PX → ds.length = 2 := by
  intro ds M P PX h
  unfold sp_law_one at h
  first | (obtain ⟨rfl, _⟩ := h; rfl) | (obtain ⟨_, rfl, _⟩ := h; rfl) | (obtain ⟨_, _, rfl, _⟩ := h; rfl) | (obtain ⟨_, _, _, rfl, _⟩ := h; rfl) | (obtain ⟨_, _, _, _, rfl, _⟩ := h; rfl) | (obtain ⟨_, _, _, _, _, rfl, _⟩ := h; rfl) | (obtain ⟨_, _, _, _, _, _, rfl, _⟩ := h; rfl) | (obtain ⟨_, _, _, _, _, _, _, rfl, _⟩ := h; rfl) | (split at h <;> first | rfl | exact h.elim)
theorem len_law_sort {K : Fg} : ∀ ds M P PX, sp_law_sort ds M P PX → ds.length = 1 := by
  intro ds M P PX h
  unfold sp_law_sort at h
  first | (obtain ⟨rfl, _⟩ := h; rfl) | (obtain ⟨_, rfl, _⟩ := h; rfl) | (obtain ⟨_, _, rfl, _⟩ := h; rfl) | (obtain ⟨_, _, _, rfl, _⟩ := h; rfl) | (obtain ⟨_, _, _, _, rfl, _⟩ := h; rfl) | (obtain ⟨_, _, _, _, _, rfl, _⟩ := h; rfl) | (obtain ⟨_, _, _, _, _, _, rfl, _⟩ := h; rfl) | (obtain ⟨_, _, _, _, _, _, _, rfl, _⟩ := h; rfl) | (split at h <;> first | rfl | exact h.elim)
theorem len_law_same {K : Fg} {d : Nat} : ∀ ds M P PX, (sp_law_same d) ds M P PX → ds.length = 2 := by
  intro ds M P PX h
  unfold sp_law_same at h
  first | (obtain ⟨rfl, _⟩ := h; rfl) | (obtain ⟨_, rfl, _⟩ := h; rfl) | (obtain ⟨_, _, rfl, _⟩ := h; rfl) | (obtain ⟨_, _, _, rfl, _⟩ := h; rfl) | (obtain ⟨_, _, _, _, rfl, _⟩ := h; rfl) | (obtain ⟨_, _, _, _, _, rfl, _⟩ := h; rfl) | (obtain ⟨_, _, _, _, _, _, rfl, _⟩ := h; rfl) | (obtain ⟨_, _, _, _, _, _, _, rfl, _⟩ := h; rfl) | (split at h <;> first | rfl | exact h.elim)
theorem len_law_kin {cs : List D} : ∀ g ds M P, sp_law_kin cs g ds M P → ds.length = 1 := fun g ds M P ⟨_, _, e, _⟩ => by rw [e]; rfl
theorem len_law_known {K : Fg} : ∀ ds M P PX, sp_law_known ds M P PX → ds.length = 0 := by
  intro ds M P PX h
  unfold sp_law_known at h
  first | (obtain ⟨rfl, _⟩ := h; rfl) | (obtain ⟨_, rfl, _⟩ := h; rfl) | (obtain ⟨_, _, rfl, _⟩ := h; rfl) | (obtain ⟨_, _, _, rfl, _⟩ := h; rfl) | (obtain ⟨_, _, _, _, rfl, _⟩ := h; rfl) | (obtain ⟨_, _, _, _, _, rfl, _⟩ := h; rfl) | (obtain ⟨_, _, _, _, _, _, rfl, _⟩ := h; rfl) | (obtain ⟨_, _, _, _, _, _, _, rfl, _⟩ := h; rfl) | (split at h <;> first | rfl | exact h.elim)
theorem len_law_some_teeth {K : Fg} : ∀ ds M P PX, sp_law_some_teeth ds M P PX → ds.length = 1 := by
  intro ds M P PX h
  unfold sp_law_some_teeth at h
  first | (obtain ⟨rfl, _⟩ := h; rfl) | (obtain ⟨_, rfl, _⟩ := h; rfl) | (obtain ⟨_, _, rfl, _⟩ := h; rfl) | (obtain ⟨_, _, _, rfl, _⟩ := h; rfl) | (obtain ⟨_, _, _, _, rfl, _⟩ := h; rfl) | (obtain ⟨_, _, _, _, _, rfl, _⟩ := h; rfl) | (obtain ⟨_, _, _, _, _, _, rfl, _⟩ := h; rfl) | (obtain ⟨_, _, _, _, _, _, _, rfl, _⟩ := h; rfl) | (split at h <;> first | rfl | exact h.elim)
theorem len_law_a_box {K : Fg} : ∀ ds M P PX, sp_law_a_box ds M P PX → ds.length = 2 := by
  intro ds M P PX h
  unfold sp_law_a_box at h
  first | (obtain ⟨rfl, _⟩ := h; rfl) | (obtain ⟨_, rfl, _⟩ := h; rfl) | (obtain ⟨_, _, rfl, _⟩ := h; rfl) | (obtain ⟨_, _, _, rfl, _⟩ := h; rfl) | (obtain ⟨_, _, _, _, rfl, _⟩ := h; rfl) | (obtain ⟨_, _, _, _, _, rfl, _⟩ := h; rfl) | (obtain ⟨_, _, _, _, _, _, rfl, _⟩ := h; rfl) | (obtain ⟨_, _, _, _, _, _, _, rfl, _⟩ := h; rfl) | (split at h <;> first | rfl | exact h.elim)
theorem len_law_starts {K : Fg} : ∀ ds M P PX, sp_law_starts ds M P PX → ds.length = 1 := by
  intro ds M P PX h
  unfold sp_law_starts at h
  first | (obtain ⟨rfl, _⟩ := h; rfl) | (obtain ⟨_, rfl, _⟩ := h; rfl) | (obtain ⟨_, _, rfl, _⟩ := h; rfl) | (obtain ⟨_, _, _, rfl, _⟩ := h; rfl) | (obtain ⟨_, _, _, _, rfl, _⟩ := h; rfl) | (obtain ⟨_, _, _, _, _, rfl, _⟩ := h; rfl) | (obtain ⟨_, _, _, _, _, _, rfl, _⟩ := h; rfl) | (obtain ⟨_, _, _, _, _, _, _, rfl, _⟩ := h; rfl) | (split at h <;> first | rfl | exact h.elim)
theorem len_law_plucks {K : Fg} : ∀ ds M P PX, sp_law_plucks ds M P PX → ds.length = 3 := by
  intro ds M P PX h
  unfold sp_law_plucks at h
  first | (obtain ⟨rfl, _⟩ := h; rfl) | (obtain ⟨_, rfl, _⟩ := h; rfl) | (obtain ⟨_, _, rfl, _⟩ := h; rfl) | (obtain ⟨_, _, _, rfl, _⟩ := h; rfl) | (obtain ⟨_, _, _, _, rfl, _⟩ := h; rfl) | (obtain ⟨_, _, _, _, _, rfl, _⟩ := h; rfl) | (obtain ⟨_, _, _, _, _, _, rfl, _⟩ := h; rfl) | (obtain ⟨_, _, _, _, _, _, _, rfl, _⟩ := h; rfl) | (split at h <;> first | rfl | exact h.elim)
theorem len_law_size {K : Fg} : ∀ ds M P PX, sp_law_size ds M P PX → ds.length = 1 := by
  intro ds M P PX h
  unfold sp_law_size at h
  first | (obtain ⟨rfl, _⟩ := h; rfl) | (obtain ⟨_, rfl, _⟩ := h; rfl) | (obtain ⟨_, _, rfl, _⟩ := h; rfl) | (obtain ⟨_, _, _, rfl, _⟩ := h; rfl) | (obtain ⟨_, _, _, _, rfl, _⟩ := h; rfl) | (obtain ⟨_, _, _, _, _, rfl, _⟩ := h; rfl) | (obtain ⟨_, _, _, _, _, _, rfl, _⟩ := h; rfl) | (obtain ⟨_, _, _, _, _, _, _, rfl, _⟩ := h; rfl) | (split at h <;> first | rfl | exact h.elim)
theorem len_law_clashes {K : Fg} : ∀ ds M P PX, sp_law_clashes ds M P PX → ds.length = 3 := by
  intro ds M P PX h
  unfold sp_law_clashes at h
  first | (obtain ⟨rfl, _⟩ := h; rfl) | (obtain ⟨_, rfl, _⟩ := h; rfl) | (obtain ⟨_, _, rfl, _⟩ := h; rfl) | (obtain ⟨_, _, _, rfl, _⟩ := h; rfl) | (obtain ⟨_, _, _, _, rfl, _⟩ := h; rfl) | (obtain ⟨_, _, _, _, _, rfl, _⟩ := h; rfl) | (obtain ⟨_, _, _, _, _, _, rfl, _⟩ := h; rfl) | (obtain ⟨_, _, _, _, _, _, _, rfl, _⟩ := h; rfl) | (split at h <;> first | rfl | exact h.elim)
theorem len_law_share {K : Fg} : ∀ ds M P PX, sp_law_share ds M P PX → ds.length = 2 := by
  intro ds M P PX h
  unfold sp_law_share at h
  first | (obtain ⟨rfl, _⟩ := h; rfl) | (obtain ⟨_, rfl, _⟩ := h; rfl) | (obtain ⟨_, _, rfl, _⟩ := h; rfl) | (obtain ⟨_, _, _, rfl, _⟩ := h; rfl) | (obtain ⟨_, _, _, _, rfl, _⟩ := h; rfl) | (obtain ⟨_, _, _, _, _, rfl, _⟩ := h; rfl) | (obtain ⟨_, _, _, _, _, _, rfl, _⟩ := h; rfl) | (obtain ⟨_, _, _, _, _, _, _, rfl, _⟩ := h; rfl) | (split at h <;> first | rfl | exact h.elim)
theorem len_law_good {K : Fg} : ∀ ds M P PX, sp_law_good_k04 ds M P PX → ds.length = 1 := by
  intro ds M P PX h
  unfold sp_law_good_k04 at h
  first | (obtain ⟨rfl, _⟩ := h; rfl) | (obtain ⟨_, rfl, _⟩ := h; rfl) | (obtain ⟨_, _, rfl, _⟩ := h; rfl) | (obtain ⟨_, _, _, rfl, _⟩ := h; rfl) | (obtain ⟨_, _, _, _, rfl, _⟩ := h; rfl) | (obtain ⟨_, _, _, _, _, rfl, _⟩ := h; rfl) | (obtain ⟨_, _, _, _, _, _, rfl, _⟩ := h; rfl) | (obtain ⟨_, _, _, _, _, _, _, rfl, _⟩ := h; rfl) | (split at h <;> first | rfl | exact h.elim)
theorem defA {K : Fg} {mg : Str → Option Value} {x : Str} {ps : List Str} {st : Stmt} {f : Addr} {fd : FuncData} (F : FunD K x x (defArgs st) (defBody st) (defScope st) [] [] f fd) (hm : mg x = some (.ref f)) (b : Binds K fd ps []) : DefAt K mg x ps st := ⟨f, fd, F, hm, b⟩
section
variable {P : Program} {w : World} {K : Fg} {h base : Heap} {mg : Str → Option Value}
theorem da_is_within (X : K.In h) (G : h.Ns mainGlobals mg) (c : Sx w h K) : DefAt K mg "is_within" ["value", "low", "high"] st_is_within := by
  obtain ⟨fd, F⟩ := c.t.d.def_ 0 (d := dd_is_within) rfl
  exact defA F (gl X G c "is_within" (by decide +kernel)) (F.bindsN fun _ _ _ _ _ _ us hl => match us, hl with | [_, _, _], _ => rfl)
theorem da_has_items (X : K.In h) (G : h.Ns mainGlobals mg) (c : Sx w h K) : DefAt K mg "has_items" ["value", "low", "high"] st_has_items := by
  obtain ⟨fd, F⟩ := c.t.d.def_ 1 (d := dd_has_items) rfl
  exact defA F (gl X G c "has_items" (by decide +kernel)) (F.bindsN fun _ _ _ _ _ _ us hl => match us, hl with | [_, _, _], _ => rfl)
theorem da_are_teeth (X : K.In h) (G : h.Ns mainGlobals mg) (c : Sx w h K) : DefAt K mg "are_teeth" ["value"] st_are_teeth := by
  obtain ⟨fd, F⟩ := c.t.d.def_ 2 (d := dd_are_teeth) rfl
  exact defA F (gl X G c "are_teeth" (by decide +kernel)) (F.bindsN fun _ _ _ _ _ _ us hl => match us, hl with | [_], _ => rfl)
theorem da_is_barrel (X : K.In h) (G : h.Ns mainGlobals mg) (c : Sx w h K) : DefAt K mg "is_barrel" ["value"] st_is_barrel := by
  obtain ⟨fd, F⟩ := c.t.d.def_ 3 (d := dd_is_barrel) rfl
  exact defA F (gl X G c "is_barrel" (by decide +kernel)) (F.bindsN fun _ _ _ _ _ _ us hl => match us, hl with | [_], _ => rfl)
theorem da_is_box_value (X : K.In h) (G : h.Ns mainGlobals mg) (c : Sx w h K) : DefAt K mg "is_box_value" ["value"] st_is_box_value := by
  obtain ⟨fd, F⟩ := c.t.d.def_ 4 (d := dd_is_box_value) rfl
  exact defA F (gl X G c "is_box_value" (by decide +kernel)) (F.bindsN fun _ _ _ _ _ _ us hl => match us, hl with | [_], _ => rfl)
theorem da_begins (X : K.In h) (G : h.Ns mainGlobals mg) (c : Sx w h K) : DefAt K mg "begins" ["box", "value"] st_begins := by
  obtain ⟨fd, F⟩ := c.t.d.def_ 5 (d := dd_begins) rfl
  exact defA F (gl X G c "begins" (by decide +kernel)) (F.bindsN fun _ _ _ _ _ _ us hl => match us, hl with | [_, _], _ => rfl)
theorem da_need_box (X : K.In h) (G : h.Ns mainGlobals mg) (c : Sx w h K) : DefAt K mg "need_box" ["value"] st_need_box := by
  obtain ⟨fd, F⟩ := c.t.d.def_ 6 (d := dd_need_box) rfl
  exact defA F (gl X G c "need_box" (by decide +kernel)) (F.bindsN fun _ _ _ _ _ _ us hl => match us, hl with | [_], _ => rfl)
theorem da_need_beginning (X : K.In h) (G : h.Ns mainGlobals mg) (c : Sx w h K) : DefAt K mg "need_beginning" ["box", "value"] st_need_beginning := by
  obtain ⟨fd, F⟩ := c.t.d.def_ 7 (d := dd_need_beginning) rfl
  exact defA F (gl X G c "need_beginning" (by decide +kernel)) (F.bindsN fun _ _ _ _ _ _ us hl => match us, hl with | [_, _], _ => rfl)
theorem da_gcd (X : K.In h) (G : h.Ns mainGlobals mg) (c : Sx w h K) : DefAt K mg "gcd" ["one", "other"] st_gcd := by
  obtain ⟨fd, F⟩ := c.t.d.def_ 8 (d := dd_gcd) rfl
  exact defA F (gl X G c "gcd" (by decide +kernel)) (F.bindsN fun _ _ _ _ _ _ us hl => match us, hl with | [_, _], _ => rfl)
theorem da_period_of (X : K.In h) (G : h.Ns mainGlobals mg) (c : Sx w h K) : DefAt K mg "period_of" ["box"] st_period_of := by
  obtain ⟨fd, F⟩ := c.t.d.def_ 9 (d := dd_period_of) rfl
  exact defA F (gl X G c "period_of" (by decide +kernel)) (F.bindsN fun _ _ _ _ _ _ us hl => match us, hl with | [_], _ => rfl)
theorem da_all_beginnings (X : K.In h) (G : h.Ns mainGlobals mg) (c : Sx w h K) : DefAt K mg "all_beginnings" ["box"] st_all_beginnings := by
  obtain ⟨fd, F⟩ := c.t.d.def_ 10 (d := dd_all_beginnings) rfl
  exact defA F (gl X G c "all_beginnings" (by decide +kernel)) (F.bindsN fun _ _ _ _ _ _ us hl => match us, hl with | [_], _ => rfl)
theorem da_items_at (X : K.In h) (G : h.Ns mainGlobals mg) (c : Sx w h K) : DefAt K mg "items_at" ["box", "beginning", "tick"] st_items_at := by
  obtain ⟨fd, F⟩ := c.t.d.def_ 11 (d := dd_items_at) rfl
  exact defA F (gl X G c "items_at" (by decide +kernel)) (F.bindsN fun _ _ _ _ _ _ us hl => match us, hl with | [_, _, _], _ => rfl)
theorem da_chord_at (X : K.In h) (G : h.Ns mainGlobals mg) (c : Sx w h K) : DefAt K mg "chord_at" ["box", "beginning", "tick"] st_chord_at := by
  obtain ⟨fd, F⟩ := c.t.d.def_ 12 (d := dd_chord_at) rfl
  exact defA F (gl X G c "chord_at" (by decide +kernel)) (F.bindsN fun _ _ _ _ _ _ us hl => match us, hl with | [_, _, _], _ => rfl)
theorem da_is_clash (X : K.In h) (G : h.Ns mainGlobals mg) (c : Sx w h K) : DefAt K mg "is_clash" ["box", "beginning", "tick"] st_is_clash := by
  obtain ⟨fd, F⟩ := c.t.d.def_ 13 (d := dd_is_clash) rfl
  exact defA F (gl X G c "is_clash" (by decide +kernel)) (F.bindsN fun _ _ _ _ _ _ us hl => match us, hl with | [_, _, _], _ => rfl)
theorem da_first_of (X : K.In h) (G : h.Ns mainGlobals mg) (c : Sx w h K) : DefAt K mg "first_of" ["box", "beginning"] st_first_of := by
  obtain ⟨fd, F⟩ := c.t.d.def_ 14 (d := dd_first_of) rfl
  exact defA F (gl X G c "first_of" (by decide +kernel)) (F.bindsN fun _ _ _ _ _ _ us hl => match us, hl with | [_, _], _ => rfl)
theorem da_share_of (X : K.In h) (G : h.Ns mainGlobals mg) (c : Sx w h K) : DefAt K mg "share_of" ["box", "beginning"] st_share_of := by
  obtain ⟨fd, F⟩ := c.t.d.def_ 15 (d := dd_share_of) rfl
  exact defA F (gl X G c "share_of" (by decide +kernel)) (F.bindsN fun _ _ _ _ _ _ us hl => match us, hl with | [_, _], _ => rfl)
theorem da_first_clash (X : K.In h) (G : h.Ns mainGlobals mg) (c : Sx w h K) : DefAt K mg "first_clash" ["box", "beginning"] st_first_clash := by
  obtain ⟨fd, F⟩ := c.t.d.def_ 16 (d := dd_first_clash) rfl
  exact defA F (gl X G c "first_clash" (by decide +kernel)) (F.bindsN fun _ _ _ _ _ _ us hl => match us, hl with | [_, _], _ => rfl)
theorem da_clean_ones (X : K.In h) (G : h.Ns mainGlobals mg) (c : Sx w h K) : DefAt K mg "clean_ones" ["box"] st_clean_ones := by
  obtain ⟨fd, F⟩ := c.t.d.def_ 17 (d := dd_clean_ones) rfl
  exact defA F (gl X G c "clean_ones" (by decide +kernel)) (F.bindsN fun _ _ _ _ _ _ us hl => match us, hl with | [_], _ => rfl)
theorem da_clean (X : K.In h) (G : h.Ns mainGlobals mg) (c : Sx w h K) : DefAt K mg "clean" ["box"] st_clean := by
  obtain ⟨fd, F⟩ := c.t.d.def_ 18 (d := dd_clean) rfl
  exact defA F (gl X G c "clean" (by decide +kernel)) (F.bindsN fun _ _ _ _ _ _ us hl => match us, hl with | [_], _ => rfl)
theorem da_clash_share (X : K.In h) (G : h.Ns mainGlobals mg) (c : Sx w h K) : DefAt K mg "clash_share" ["box", "beginning"] st_clash_share := by
  obtain ⟨fd, F⟩ := c.t.d.def_ 19 (d := dd_clash_share) rfl
  exact defA F (gl X G c "clash_share" (by decide +kernel)) (F.bindsN fun _ _ _ _ _ _ us hl => match us, hl with | [_, _], _ => rfl)
theorem da_least_share (X : K.In h) (G : h.Ns mainGlobals mg) (c : Sx w h K) : DefAt K mg "least_share" ["box"] st_least_share := by
  obtain ⟨fd, F⟩ := c.t.d.def_ 20 (d := dd_least_share) rfl
  exact defA F (gl X G c "least_share" (by decide +kernel)) (F.bindsN fun _ _ _ _ _ _ us hl => match us, hl with | [_], _ => rfl)
theorem da_law_deck (X : K.In h) (G : h.Ns mainGlobals mg) (c : Sx w h K) : DefAt K mg "_law_deck" ["_law_cell", "_law_turn"] st_law_deck := by
  obtain ⟨fd, F⟩ := c.t.d.def_ 21 (d := dd_law_deck) rfl
  exact defA F (gl X G c "_law_deck" (by decide +kernel)) (F.bindsN fun _ _ _ _ _ _ us hl => match us, hl with | [_, _], _ => rfl)
theorem da_law_pick (X : K.In h) (G : h.Ns mainGlobals mg) (c : Sx w h K) : DefAt K mg "_law_pick" ["_law_deck_here", "_law_size_here"] st_law_pick := by
  obtain ⟨fd, F⟩ := c.t.d.def_ 22 (d := dd_law_pick) rfl
  exact defA F (gl X G c "_law_pick" (by decide +kernel)) (F.bindsN fun _ _ _ _ _ _ us hl => match us, hl with | [_, _], _ => rfl)
theorem da_law_one (X : K.In h) (G : h.Ns mainGlobals mg) (c : Sx w h K) : DefAt K mg "_law_one" ["_law_deck_here", "_law_some"] st_law_one := by
  obtain ⟨fd, F⟩ := c.t.d.def_ 23 (d := dd_law_one) rfl
  exact defA F (gl X G c "_law_one" (by decide +kernel)) (F.bindsN fun _ _ _ _ _ _ us hl => match us, hl with | [_, _], _ => rfl)
theorem da_law_sort (X : K.In h) (G : h.Ns mainGlobals mg) (c : Sx w h K) : DefAt K mg "_law_sort" ["_law_thing"] st_law_sort := by
  obtain ⟨fd, F⟩ := c.t.d.def_ 24 (d := dd_law_sort) rfl
  exact defA F (gl X G c "_law_sort" (by decide +kernel)) (F.bindsN fun _ _ _ _ _ _ us hl => match us, hl with | [_], _ => rfl)
theorem da_law_same (X : K.In h) (G : h.Ns mainGlobals mg) (c : Sx w h K) : DefAt K mg "_law_same" ["_law_told", "_law_due"] st_law_same := by
  obtain ⟨fd, F⟩ := c.t.d.def_ 25 (d := dd_law_same) rfl
  exact defA F (gl X G c "_law_same" (by decide +kernel)) (F.bindsN fun _ _ _ _ _ _ us hl => match us, hl with | [_, _], _ => rfl)
theorem da_law_kin (X : K.In h) (G : h.Ns mainGlobals mg) (c : Sx w h K) : DefAt K mg "_law_kin" ["_law_e"] st_law_kin := by
  obtain ⟨fd, F⟩ := c.t.d.def_ 26 (d := dd_law_kin) rfl
  exact defA F (gl X G c "_law_kin" (by decide +kernel)) (F.bindsN fun _ _ _ _ _ _ us hl => match us, hl with | [_], _ => rfl)
theorem da_law_try (X : K.In h) (G : h.Ns mainGlobals mg) (c : Sx w h K) : DefAt K mg "_law_try" ["_law_call_so"] st_law_try := by
  obtain ⟨fd, F⟩ := c.t.d.def_ 27 (d := dd_law_try) rfl
  exact defA F (gl X G c "_law_try" (by decide +kernel)) (F.bindsN fun _ _ _ _ _ _ us hl => match us, hl with | [_], _ => rfl)
theorem da_law_known (X : K.In h) (G : h.Ns mainGlobals mg) (c : Sx w h K) : DefAt K mg "_law_known" [] st_law_known := by
  obtain ⟨fd, F⟩ := c.t.d.def_ 28 (d := dd_law_known) rfl
  exact defA F (gl X G c "_law_known" (by decide +kernel)) (F.bindsN fun _ _ _ _ _ _ us hl => match us, hl with | [], _ => rfl)
theorem da_law_some_teeth (X : K.In h) (G : h.Ns mainGlobals mg) (c : Sx w h K) : DefAt K mg "_law_some_teeth" ["_law_deck_here"] st_law_some_teeth := by
  obtain ⟨fd, F⟩ := c.t.d.def_ 29 (d := dd_law_some_teeth) rfl
  exact defA F (gl X G c "_law_some_teeth" (by decide +kernel)) (F.bindsN fun _ _ _ _ _ _ us hl => match us, hl with | [_], _ => rfl)
theorem da_law_a_box (X : K.In h) (G : h.Ns mainGlobals mg) (c : Sx w h K) : DefAt K mg "_law_a_box" ["_law_deck_here", "_law_most"] st_law_a_box := by
  obtain ⟨fd, F⟩ := c.t.d.def_ 30 (d := dd_law_a_box) rfl
  exact defA F (gl X G c "_law_a_box" (by decide +kernel)) (F.bindsN fun _ _ _ _ _ _ us hl => match us, hl with | [_, _], _ => rfl)
theorem da_law_starts (X : K.In h) (G : h.Ns mainGlobals mg) (c : Sx w h K) : DefAt K mg "_law_starts" ["_law_box_so"] st_law_starts := by
  obtain ⟨fd, F⟩ := c.t.d.def_ 31 (d := dd_law_starts) rfl
  exact defA F (gl X G c "_law_starts" (by decide +kernel)) (F.bindsN fun _ _ _ _ _ _ us hl => match us, hl with | [_], _ => rfl)
theorem da_law_plucks (X : K.In h) (G : h.Ns mainGlobals mg) (c : Sx w h K) : DefAt K mg "_law_plucks" ["_law_box_so", "_law_start_so", "_law_tick_so"] st_law_plucks := by
  obtain ⟨fd, F⟩ := c.t.d.def_ 32 (d := dd_law_plucks) rfl
  exact defA F (gl X G c "_law_plucks" (by decide +kernel)) (F.bindsN fun _ _ _ _ _ _ us hl => match us, hl with | [_, _, _], _ => rfl)
theorem da_law_size (X : K.In h) (G : h.Ns mainGlobals mg) (c : Sx w h K) : DefAt K mg "_law_size" ["_law_box_so"] st_law_size := by
  obtain ⟨fd, F⟩ := c.t.d.def_ 33 (d := dd_law_size) rfl
  exact defA F (gl X G c "_law_size" (by decide +kernel)) (F.bindsN fun _ _ _ _ _ _ us hl => match us, hl with | [_], _ => rfl)
theorem da_law_clashes (X : K.In h) (G : h.Ns mainGlobals mg) (c : Sx w h K) : DefAt K mg "_law_clashes" ["_law_box_so", "_law_start_so", "_law_many"] st_law_clashes := by
  obtain ⟨fd, F⟩ := c.t.d.def_ 34 (d := dd_law_clashes) rfl
  exact defA F (gl X G c "_law_clashes" (by decide +kernel)) (F.bindsN fun _ _ _ _ _ _ us hl => match us, hl with | [_, _, _], _ => rfl)
theorem da_law_share (X : K.In h) (G : h.Ns mainGlobals mg) (c : Sx w h K) : DefAt K mg "_law_share" ["_law_box_so", "_law_start_so"] st_law_share := by
  obtain ⟨fd, F⟩ := c.t.d.def_ 35 (d := dd_law_share) rfl
  exact defA F (gl X G c "_law_share" (by decide +kernel)) (F.bindsN fun _ _ _ _ _ _ us hl => match us, hl with | [_, _], _ => rfl)
theorem da_law_good (X : K.In h) (G : h.Ns mainGlobals mg) (c : Sx w h K) : DefAt K mg "_law_good" ["_law_box_so"] st_law_good := by
  obtain ⟨fd, F⟩ := c.t.d.def_ 36 (d := dd_law_good) rfl
  exact defA F (gl X G c "_law_good" (by decide +kernel)) (F.bindsN fun _ _ _ _ _ _ us hl => match us, hl with | [_], _ => rfl)
theorem chain (X : K.In h) (G : h.Ns mainGlobals mg) (c : Sx w h K) {f : Addr} {fd : FuncData} {cc Pt : Addr} {T : List (Addr × Str)} (TB : LamX.TabB base mg cc Pt) (hmT : (Pt, (envOfC "law" (defScope st_law) 0 0 .none).qual ++ "<lambda>") ∈ T) (hu : ∀ p ∈ T, p.1 = Pt → p.2 = (envOfC "law" (defScope st_law) 0 0 .none).qual ++ "<lambda>") (Fn : FunD K "law" "law" (defArgs st_law) (defBody st_law) (defScope st_law) [] [] f fd) (hcc : fd.code = .ref cc) (nT : K.lookup Pt = none) : FnOk P w K mg base (L2N.CX P w) 11 f fd ["_law_script"] (spLaw K T) := by
  have B : Blt mg := blt X G c
  have g_TEETH := gt_TEETH X G c
  have g_InvalidBox := gCls X G c (x := "InvalidBox") (by decide +kernel)
  have g_InvalidBeginning := gCls X G c (x := "InvalidBeginning") (by decide +kernel)
  have g_InvalidTick := gCls X G c (x := "InvalidTick") (by decide +kernel)
  have g_InvalidTooth := gCls X G c (x := "InvalidTooth") (by decide +kernel)
  have g_InvalidFacts := gCls X G c (x := "InvalidFacts") (by decide +kernel)
  have g_InvalidNumber := gCls X G c (x := "InvalidNumber") (by decide +kernel)
  have g_InvalidIndex := gCls X G c (x := "InvalidIndex") (by decide +kernel)
  have g_NoBeginning := gCls X G c (x := "NoBeginning") (by decide +kernel)
  have g_Unlike := gCls X G c (x := "Unlike") (by decide +kernel)
  have g_NothingToUndo := gCls X G c (x := "NothingToUndo") (by decide +kernel)
  have g_TooMany := gCls X G c (x := "TooMany") (by decide +kernel)
  have g_InvalidText := gCls X G c (x := "InvalidText") (by decide +kernel)
  have x_InvalidBox := eAt X G c (x := "InvalidBox") (by decide +kernel) (by decide +kernel)
  have x_InvalidBeginning := eAt X G c (x := "InvalidBeginning") (by decide +kernel) (by decide +kernel)
  have g_clash_share := gCls X G c (x := "clash_share") (by decide +kernel)
  have g_first_clash := gCls X G c (x := "first_clash") (by decide +kernel)
  have g_least_share := gCls X G c (x := "least_share") (by decide +kernel)
  have g_clean := gCls X G c (x := "clean") (by decide +kernel)
  have C_is_within := ok_is_within (P := P) (w := w) (base := base) (sp := sp_is_within) (da_is_within X G c) B (len_is_within (K := K)) (l_is_within)
  have C_has_items := ok_has_items (P := P) (w := w) (base := base) (sp := sp_has_items) (da_has_items X G c) B (len_has_items (K := K)) (l_has_items)
  have C_are_teeth := ok_are_teeth (P := P) (w := w) (base := base) (sp := sp_are_teeth) (da_are_teeth X G c) g_TEETH B (len_are_teeth (K := K)) (l_are_teeth)
  have C_is_barrel := ok_is_barrel (P := P) (w := w) (base := base) (sp := sp_is_barrel) (da_is_barrel X G c) C_has_items C_are_teeth B (len_is_barrel (K := K)) (l_is_barrel)
  have C_is_box_value := ok_is_box_value (P := P) (w := w) (base := base) (sp := sp_is_box_value) (da_is_box_value X G c) C_has_items C_is_within C_is_barrel B (len_is_box_value (K := K)) (l_is_box_value)
  have C_begins := ok_begins (P := P) (w := w) (base := base) (sp := sp_begins) (da_begins X G c) C_has_items C_is_within B (len_begins (K := K)) (l_begins)
  have C_need_box := ok_need_box (P := P) (w := w) (base := base) (sp := (sp_need_box (He.ga K "InvalidBox"))) (da_need_box X G c) C_is_box_value x_InvalidBox (len_need_box (K := K)) (l_need_box _)
  have C_need_beginning := ok_need_beginning (P := P) (w := w) (base := base) (sp := (sp_need_beginning (He.ga K "InvalidBeginning"))) (da_need_beginning X G c) C_begins x_InvalidBeginning (len_need_beginning (K := K)) (l_need_beginning _)
  have C_gcd := ok_gcd (P := P) (w := w) (base := base) (sp := sp_gcd) (da_gcd X G c) (len_gcd (K := K)) (l_gcd)
  have C_period_of := ok_period_of (P := P) (w := w) (base := base) (sp := sp_period_of) (da_period_of X G c) C_gcd B (len_period_of (K := K)) (l_period_of)
  have C_all_beginnings := ok_all_beginnings (P := P) (w := w) (base := base) (sp := sp_all_beginnings) (da_all_beginnings X G c) B (len_all_beginnings (K := K)) (l_all_beginnings)
  have C_items_at := ok_items_at (P := P) (w := w) (base := base) (sp := sp_items_at) (da_items_at X G c) B (len_items_at (K := K)) (l_items_at)
  have C_chord_at := ok_chord_at (P := P) (w := w) (base := base) (sp := sp_chord_at) (da_chord_at X G c) C_items_at g_TEETH (len_chord_at (K := K)) (l_chord_at)
  have C_is_clash := ok_is_clash (P := P) (w := w) (base := base) (sp := sp_is_clash) (da_is_clash X G c) C_items_at C_chord_at B (len_is_clash (K := K)) (l_is_clash)
  have C_first_of := ok_first_of (P := P) (w := w) (base := base) (sp := sp_first_of) (da_first_of X G c) C_period_of C_is_clash B (len_first_of (K := K)) (l_first_of)
  have C_share_of := ok_share_of (P := P) (w := w) (base := base) (sp := sp_share_of) (da_share_of X G c) C_period_of C_is_clash C_gcd B (len_share_of (K := K)) (l_share_of)
  have C_first_clash := ok_first_clash (P := P) (w := w) (base := base) (sp := (sp_first_clash (He.ga K "InvalidBox") (He.ga K "InvalidBeginning"))) (da_first_clash X G c) C_need_box C_need_beginning C_first_of (len_first_clash (K := K)) (l_first_clash)
  have C_clean_ones := ok_clean_ones (P := P) (w := w) (base := base) (sp := sp_clean_ones) (da_clean_ones X G c) C_all_beginnings C_first_of (len_clean_ones (K := K)) (l_clean_ones)
  have C_clean := ok_clean (P := P) (w := w) (base := base) (sp := (sp_clean (He.ga K "InvalidBox"))) (da_clean X G c) C_need_box C_clean_ones (len_clean (K := K)) (l_clean)
  have C_clash_share := ok_clash_share (P := P) (w := w) (base := base) (sp := (sp_clash_share (He.ga K "InvalidBox") (He.ga K "InvalidBeginning"))) (da_clash_share X G c) C_need_box C_need_beginning C_share_of (len_clash_share (K := K)) (l_clash_share)
  have C_least_share := ok_least_share (P := P) (w := w) (base := base) (sp := (sp_least_share (He.ga K "InvalidBox"))) (da_least_share X G c) C_need_box C_period_of C_all_beginnings C_share_of B (len_least_share (K := K)) (l_least_share)
  have C_law_deck := ok_law_deck (P := P) (w := w) (base := base) (sp := sp_law_deck) (da_law_deck X G c) (len_law_deck (K := K)) (l_law_deck)
  have C_law_pick := ok_law_pick (P := P) (w := w) (base := base) (sp := sp_law_pick) (da_law_pick X G c) B (len_law_pick (K := K)) (l_law_pick)
  have C_law_one := ok_law_one (P := P) (w := w) (base := base) (sp := sp_law_one) (da_law_one X G c) C_law_pick B (len_law_one (K := K)) (l_law_one)
  have C_law_sort := ok_law_sort (P := P) (w := w) (base := base) (sp := sp_law_sort) (da_law_sort X G c) B (len_law_sort (K := K)) (l_law_sort)
  have S0 : Cal P w K mg base 2 "_law_same" ["_law_told", "_law_due"] (sp_law_same 0) := ok_law_same (L := 1) (da_law_same X G c) C_law_sort (cal_false (da_law_same X G c) sc_law_same) B (by decide) (len_law_same (K := K)) (l_law_same 0 (by decide) (fun _ _ _ _ _ h => absurd h (by decide)))
  have S1 : Cal P w K mg base 3 "_law_same" ["_law_told", "_law_due"] (sp_law_same 1) := ok_law_same (L := 2) (da_law_same X G c) C_law_sort S0 B (by decide) (len_law_same (K := K)) (l_law_same 1 (by decide) (fun x _ _ _ h _ q => ⟨x, rfl, h, q⟩))
  have S2 : Cal P w K mg base 4 "_law_same" ["_law_told", "_law_due"] (sp_law_same 2) := ok_law_same (L := 3) (da_law_same X G c) C_law_sort S1 B (by decide) (len_law_same (K := K)) (l_law_same 2 (by decide) (fun x _ _ _ h _ q => ⟨x, rfl, h, q⟩))
  have S3 : Cal P w K mg base 5 "_law_same" ["_law_told", "_law_due"] (sp_law_same 3) := ok_law_same (L := 4) (da_law_same X G c) C_law_sort S2 B (by decide) (len_law_same (K := K)) (l_law_same 3 (by decide) (fun x _ _ _ h _ q => ⟨x, rfl, h, q⟩))
  have C_law_same := S3.mono (k := 9) (by decide)
  have C_law_kin := ok_law_kin (P := P) (w := w) (base := base) (sp := sp_law_kin (kinC K)) (da_law_kin X G c) g_InvalidTick g_InvalidBeginning g_InvalidBox g_InvalidNumber g_InvalidFacts g_InvalidTooth g_Unlike g_NoBeginning g_InvalidIndex g_InvalidText g_TooMany g_NothingToUndo B (fr X G c "ValueError" (by decide +kernel)) len_law_kin (fun g ds M P h => l_law_kin g ds M P h)
  have C_law_known := ok_law_known (P := P) (w := w) (base := base) (sp := sp_law_known) (da_law_known X G c) (len_law_known (K := K)) (l_law_known)
  have C_law_some_teeth := ok_law_some_teeth (P := P) (w := w) (base := base) (sp := sp_law_some_teeth) (da_law_some_teeth X G c) C_law_one B (len_law_some_teeth (K := K)) (l_law_some_teeth)
  have C_law_a_box := ok_law_a_box (P := P) (w := w) (base := base) (sp := sp_law_a_box) (da_law_a_box X G c) C_law_pick C_law_some_teeth C_law_one B (len_law_a_box (K := K)) (l_law_a_box)
  have C_law_starts := ok_law_starts (P := P) (w := w) (base := base) (sp := sp_law_starts) (da_law_starts X G c) B (len_law_starts (K := K)) (l_law_starts)
  have C_law_plucks := ok_law_plucks (P := P) (w := w) (base := base) (sp := sp_law_plucks) (da_law_plucks X G c) B (len_law_plucks (K := K)) (l_law_plucks)
  have C_law_size := ok_law_size (P := P) (w := w) (base := base) (sp := sp_law_size) (da_law_size X G c) B (len_law_size (K := K)) (l_law_size)
  have C_law_clashes := ok_law_clashes (P := P) (w := w) (base := base) (sp := sp_law_clashes) (da_law_clashes X G c) C_law_plucks B (len_law_clashes (K := K)) (l_law_clashes)
  have C_law_share := ok_law_share (P := P) (w := w) (base := base) (sp := sp_law_share) (da_law_share X G c) C_law_size C_law_clashes B (len_law_share (K := K)) (l_law_share)
  have C_law_good := ok_law_good (P := P) (w := w) (base := base) (sp := sp_law_good_k04) (da_law_good X G c) C_law_starts C_law_clashes C_law_size C_law_same C_first_clash C_law_share C_clash_share C_clean C_least_share B (len_law_good (K := K)) (l_law_good_k04)
  let fv : Addr → DSp → Prop := fun f sp => (f = He.ga K "clash_share" ∧ sp = (sp_clash_share (He.ga K "InvalidBox") (He.ga K "InvalidBeginning"))) ∨ (f = He.ga K "first_clash" ∧ sp = (sp_first_clash (He.ga K "InvalidBox") (He.ga K "InvalidBeginning"))) ∨ (f = He.ga K "least_share" ∧ sp = (sp_least_share (He.ga K "InvalidBox"))) ∨ (f = He.ga K "clean" ∧ sp = (sp_clean (He.ga K "InvalidBox")))
  have hFV : ∀ f sp, fv f sp → CalV P w K mg base 6 f sp := by
    intro f sp h
    rcases h with ⟨rfl, rfl⟩ | ⟨rfl, rfl⟩ | ⟨rfl, rfl⟩ | ⟨rfl, rfl⟩
    · exact C_clash_share.toV (gl X G c "clash_share" (by decide +kernel)) (by decide)
    · exact C_first_clash.toV (gl X G c "first_clash" (by decide +kernel)) (by decide)
    · exact C_least_share.toV (gl X G c "least_share" (by decide +kernel)) (by decide)
    · exact C_clean.toV (gl X G c "clean" (by decide +kernel)) (by decide)
  refine ok_law (sk := sp_law_kin (kinC K)) (fv := fv) C_law_deck C_law_good C_law_a_box C_law_known C_first_clash C_clash_share C_clean C_least_share g_clash_share g_first_clash g_least_share g_clean hFV B (fun Y e1 e2 e3 e4 e5 q => ?_) TB hmT hu Fn hcc nT (fun a ns hl => l_law_k04 (lbl X G c (x := "InvalidBox") (by decide +kernel) (by decide +kernel)) (lbl X G c (x := "InvalidBeginning") (by decide +kernel) (by decide +kernel)) (.inr (.inl ⟨rfl, rfl⟩)) (.inl ⟨rfl, rfl⟩) (.inr (.inr (.inr ⟨rfl, rfl⟩))) (.inr (.inr (.inl ⟨rfl, rfl⟩))) a ns hl)
  subst e1 e2 e3 e4 e5
  exact tryAt (da_law_try X G c) C_law_kin (by decide) (gl X G c "InvalidText" (by decide +kernel)) (gl X G c "TooMany" (by decide +kernel)) (gl X G c "BoxError" (by decide +kernel))
end
theorem atS (w : World) (mg : Str → Option Value) (fa : Addr) (h : Heap) (Y : hk.says w h) (G : h.Ns mainGlobals mg) (hmg : mg "law" = some (.ref fa)) : ∃ K : PySem.W.Frag, K.In h ∧ LamX.LawAtS PySem.Challenge.rw_barrelsuntold_k04_whole_clashes w K (L2N.CX (PySem.Challenge.rw_barrelsuntold_k04_whole_clashes).prog w) 11 63 "_law_script" mg fa h := by
  obtain ⟨K, X, c⟩ := Y
  obtain ⟨fd, F⟩ := c.t.d.def_ 37 (d := dd_law) rfl
  have e := hmg.symm.trans (gl X G c "law" (by decide +kernel))
  cases e
  have b := FunD.bindsA (ps := ["_law_script"]) F fun _ _ _ _ _ _ us hl => match us, hl with | [_], _ => rfl
  obtain ⟨oc, od, dV, kV, doc, pm, an, cdv, ct, osl, e1, lk, hcd, _, _⟩ := F.ex
  obtain ⟨cc, e2⟩ := He.codeIn_ref hcd
  have hcode : fd.code = .ref cc := by rw [e1]; exact e2
  have hco : He.codeOf K ("law", none) = cc := by
    exact He.codeOf_eq lk hcode
  have hm : (("law", none) : He.Defn) ∈ [(("law", none) : He.Defn)] := List.mem_singleton.mpr rfl
  have hcT : (He.cT K ("law", none)).1 = cc := hco
  let T : List (Addr × Str) := [((He.cT K ("law", none)).2, (envOfC "law" (defScope st_law) 0 0 .none).qual ++ "<lambda>")]
  refine ⟨K, X, fd, [He.cT K ("law", none)], spLaw K T, fun p hp => ?_, fun p hp => ?_, fun p hp => ?_, fun s v => b s [v] rfl, fun H a ns hl _ hT hS => ?_, fun base Xb Gb hTB => ?_⟩
  · rw [List.mem_singleton.mp hp]; exact c.empty _ hm
  · rw [List.mem_singleton.mp hp]; exact c.out _ hm
  · rw [List.mem_singleton.mp hp]; exact PySem.W.codeHd_of_K X (c.hd _ hm)
  · exact ⟨a, ns, rfl, hS, hl, fun p hp => by rw [List.mem_singleton.mp hp]; exact LamX.TabS.nil (hT _ (List.mem_singleton.mpr rfl)), fun _ => rfl⟩
  · have tb := hTB _ (List.mem_singleton.mpr rfl)
    rw [hcT] at tb
    exact chain (T := T) (Pt := (He.cT K ("law", none)).2) X G c tb (List.mem_singleton.mpr rfl) (fun p hp _ => by rw [List.mem_singleton.mp hp]) F hcode (c.out _ hm)
theorem cx_no (P : Program) (w : World) (H : Hp) (s : Shared) (e : Value) (s' : Shared) : L2N.CX P w [] H s (fun _ _ _ => False) e s' → False := fun ⟨_, _, _, _, _, _, _, _, _, _, _, _, h⟩ => h
end DL
open PySem PySem.W PySem.Calls PyProof.Rows
theorem PySem.Challenge.cw_barrelsuntold_k04_whole_clashes_holds : PySem.Challenge.rw_barrelsuntold_k04_whole_clashes.Holds := by
  w_on; o_law
  refine HandSHeadRun.head_any (r := OpenLaw.row PySem.Challenge.rw_barrelsuntold_k04_whole_clashes) (q := DL.viewL) (H := DL.hk) (ob := DL.obK) (M := 8000) (loose := DL.looseL) (d := HandSHeadRun.topDef (OpenLaw.row PySem.Challenge.rw_barrelsuntold_k04_whole_clashes).prog 56) (kwd := []) DL.obK_eq
    (by kernel_rfl) (fun s => by kernel_rfl) DL.runK (by kernel_rfl) (by kernel_rfl) (by kernel_rfl) (by rfl) (by first | assumption | decide +kernel) (by decide +kernel) ⟨rfl, rfl, rfl, rfl, rfl, by decide +kernel⟩ ?hw ?hc
  case hw => w_witness2
  case hc =>
    refine LamX.walk_ofTsE (l := PySem.Challenge.rw_barrelsuntold_k04_whole_clashes) (n := 63) (k := 11) (x := "_law_script") (CX := fun w => L2N.CX (PySem.Challenge.rw_barrelsuntold_k04_whole_clashes).prog w) rfl (by decide) (by kernel_rfl) ⟨rfl, by decide, by decide⟩ ?F (fun w H s e s' => DL.cx_no _ w H s e s')
    intro w mg fa h Y G hmg0
    have hmg : mg ("law" : PySem.Str) = some (.ref fa) := by
      have e : (HandSHeadRun.topDef (OpenLaw.row PySem.Challenge.rw_barrelsuntold_k04_whole_clashes).prog 56).name = ("law" : PySem.Str) := by kernel_rfl
      rw [← e]
      exact hmg0
    exact DL.atS w mg fa h Y G hmg


