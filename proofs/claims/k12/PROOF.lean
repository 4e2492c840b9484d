import PyProof.Rows.All
import Wide.All
import OpenK.AllK
import Wide.FinOn
import HandS.ForMost
import HandS.ForExc
import HandS.CallSlots
import HandS.TupAny
import HandS.Lambda
import HandS.ExcCtx
import HandS.ExcOwn
import HandS.WordsExc
import HandS.Defaults
import HandS.IsInst
import HandS.TupMul
import HandS.Style
import HandS.Deep
import HandS.Zip
import HandS.Walk
import HandS.Set
import PyProof.Rows.SortShellAny
import PyProof.StrWalks
import HandS.Strs
import KE.GoesMore
import HandS.Text
import HandS.HotCalls
import HandS.ExcIs
import HandS.ExcField
import HandS.ExcInitHot
import PyProof.ListStr
import HandS.Conv
import HandS.EndTab
import HandS.HeadWalk
import HandS.CallLocal
import HandS.Dict
import KE.KDictWalk
import KE.SortCalls
import KE.DataFind
import KE.DataMinMax
import HandS.TupSets
import HandS.Star
import HandS.Property
import HandS.ClsMeth
import HandS.More
import KE.KOpsOwn
import KE.KCallOwn
import HandS.SlotsOwn
import HandS.FStr
import PySem.Challenge.RW_barrelsuntold_k12_boxes_written_and_read
import HandS.HeadHook4
import HandS.Head2
import HandS.HeadNt
set_option Elab.async false
set_option linter.all false
set_option maxRecDepth 100000
set_option maxHeartbeats 4000000
/-! A data layer over the hand layer: nested data, a store of hot objects, readings over both. -/
namespace DL
open PySem PySem.Spec PyProof.Rows L2
abbrev Fg := PySem.W.Frag
/-- nested data; a thing that may change is a ref -/
inductive D where
  | non
  | bl (b : Bool)
  | int (i : Int)
  | str (x : Str)
  | tup (xs : List D)
  | lst (xs : List D)
  | ref (a : Addr)
  | ty (n : String)
/-- what stands at a hot address -/
inductive MO where
  | lst (xs : List D)
  | dK (kvs : List (Key × D))
  | dT (kvs : List (List Key × D))
  | ins (C : Addr) (fs : List (Str × D))
  | hid
  | tabs (T : List (Addr × Str))
  | tp (ks : List Key)
  | raw (φ : PySem.Heap → Prop) (L : List (Addr × List Key))
/-- what does not change -/
def MO.cold : MO → Bool
  | .tp _ => true
  | .raw _ _ => true
  | _ => false
abbrev Mem := Addr → Option MO
def mput (M : Mem) (a : Addr) (o : Option MO) : Mem := fun b => if b = a then o else M b
theorem mput_same {M : Mem} {a : Addr} {o : Option MO} : mput M a o a = o := by unfold mput; rw [if_pos rfl]
theorem mput_ne {M : Mem} {a b : Addr} {o : Option MO} (h : b ≠ a) : mput M a o b = M b := by unfold mput; rw [if_neg h]
theorem mput_mput {M : Mem} {a : Addr} {o u : Option MO} : mput (mput M a o) a u = mput M a u := by
  funext b; unfold mput; split <;> rfl
theorem mput_self {M : Mem} {a : Addr} {o : Option MO} (h : M a = o) : mput M a o = M := by
  funext b; unfold mput; split
  · rename_i e; rw [e, h]
  · rfl
/-- two stores beside each other -/
def mj (M F : Mem) : Mem := fun a => match M a with | some o => some o | none => F a
structure Dj (M F : Mem) : Prop where
  at_ : ∀ a, M a = none ∨ F a = none
  nt : ∀ a T, F a ≠ some (.tabs T)
theorem mj_l {M F : Mem} {a : Addr} {o : MO} (h : M a = some o) : mj M F a = some o := by unfold mj; rw [h]
theorem mj_r {M F : Mem} {a : Addr} (h : M a = none) : mj M F a = F a := by unfold mj; rw [h]
theorem mj_none {M F : Mem} {a : Addr} (h : mj M F a = none) : M a = none ∧ F a = none := by
  cases q : M a with
  | none => exact ⟨rfl, by rw [mj_r q] at h; exact h⟩
  | some o => rw [mj_l q] at h; cases h
theorem mj_put {M F : Mem} {a : Addr} {o : MO} : mj (mput M a (some o)) F = mput (mj M F) a (some o) := by
  funext b
  by_cases e : b = a
  · subst e; rw [mput_same, mj_l mput_same]
  · rw [mput_ne e]; unfold mj; rw [mput_ne e]
theorem dj_put {M F : Mem} {a : Addr} {o : Option MO} (d : Dj M F) (h : F a = none) : Dj (mput M a o) F := ⟨fun b => by
  by_cases e : b = a
  · subst e; exact .inr h
  · rw [mput_ne e]; exact d.at_ b, d.nt⟩
theorem dj_here {M F : Mem} {a : Addr} {o : MO} (d : Dj M F) (h : M a = some o) : F a = none := by
  rcases d.at_ a with z | z
  · rw [h] at z; cases z
  · exact z
mutual
/-- the value v bears the data d -/
inductive Rp (K : Fg) (M : Mem) (H : Hp) : V → D → Prop
  | non : Rp K M H .non .non
  | bl (b : Bool) : Rp K M H (.bl b) (.bl b)
  | int (i : Int) : Rp K M H (.int i) (.int i)
  | str (x : Str) : Rp K M H (.str x) (.str x)
  | ty (n : String) : Rp K M H (.ty n) (.ty n)
  | ref (a : Addr) : Rp K M H (.ref a) (.ref a)
  | tup {a : Addr} {vs : List V} {ds : List D} : SqT K H a vs → RpL K M H vs ds → Rp K M H (.ref a) (.tup ds)
  | lst {a : Addr} {vs : List V} {ds : List D} : H a = some (.lst vs) → M a = none → RpL K M H vs ds → Rp K M H (.ref a) (.lst ds)
inductive RpL (K : Fg) (M : Mem) (H : Hp) : List V → List D → Prop
  | nil : RpL K M H [] []
  | cons {v : V} {vs : List V} {d : D} {ds : List D} : Rp K M H v d → RpL K M H vs ds → RpL K M H (v :: vs) (d :: ds)
end
/-- keyed data -/
abbrev KvR (K : Fg) (M : Mem) (H : Hp) {κ : Type} : List (κ × V) → List (κ × D) → Prop := Paired fun p q => p.1 = q.1 ∧ Rp K M H p.2 q.2
def MoOk (K : Fg) (M : Mem) (H : Hp) (a : Addr) : MO → Prop
  | .lst ds => ∃ vs, H a = some (.lst vs) ∧ RpL K M H vs ds
  | .dK kvs => ∃ vs, H a = some (.dK vs) ∧ KvR K M H vs kvs
  | .dT kvs => ∃ vs, H a = some (.dT vs) ∧ KvR K M H vs kvs
  | .ins C fs => ∃ dx vs, H a = some (.ins C dx vs) ∧ KvR K M H vs fs
  | .hid => ∃ vs, H a = some (.lst vs)
  | .tabs T => (∃ q, (a, q) ∈ T) ∧ LamX.Tabs T H
  | .tp ks => H a = some (.tup (ks.map kV))
  | .raw φ L => H a = some (.ext φ) ∧ ∀ p ∈ L, SqT K H p.1 (p.2.map kV)
/-- what may change behind one's back -/
def Hot (o : HO) : Prop := Mut (some o) ∨ ∃ ps, o = .tbl ps
def MemOk (K : Fg) (M : Mem) (H : Hp) : Prop := ∀ a o, M a = some o → MoOk K M H a o
abbrev NT (o : HO) : Prop := ∀ ps, o ≠ .tbl ps
/-- what was there and not hot is as it was -/
structure Ev (M : Mem) (H : Hp) (M' : Mem) (H' : Hp) : Prop where
  keep : ∀ a o, H a = some o → ((M a = none ∧ ∀ ps, o ≠ .tbl ps) ∨ ¬ Hot o) → H' a = some o
  mono : ∀ a o, H a = some o → NT o → M a = none → M' a = none
  dom : ∀ a o, H a = some o → NT o → ∃ o', H' a = some o' ∧ NT o'
theorem Ev.refl {M : Mem} {H : Hp} : Ev M H M H := ⟨fun _ _ h _ => h, fun _ _ _ _ h => h, fun _ o h n => ⟨o, h, n⟩⟩
theorem Ev.trans {M M1 M2 : Mem} {H H1 H2 : Hp} (a : Ev M H M1 H1) (b : Ev M1 H1 M2 H2) : Ev M H M2 H2 where
  keep := fun x o h q => b.keep x o (a.keep x o h q) (q.elim (fun z => .inl ⟨a.mono x o h z.2 z.1, z.2⟩) .inr)
  mono := fun x o h n q => by
    obtain ⟨o', h', n'⟩ := a.dom x o h n
    exact b.mono x o' h' n' (a.mono x o h n q)
  dom := fun x o h n => by
    obtain ⟨o', h', n'⟩ := a.dom x o h n
    exact b.dom x o' h' n'
/-- what data stand on is kept -/
structure Kp (A : Mem) (H : Hp) (A' : Mem) (H' : Hp) : Prop where
  tup : ∀ a vs, Rd H a (.tup vs) → Rd H' a (.tup vs)
  lst : ∀ a vs, H a = some (.lst vs) → A a = none → H' a = some (.lst vs) ∧ A' a = none
theorem Ev.kpF {M M' F : Mem} {H H' : Hp} (e : Ev M H M' H') : Kp (mj M F) H (mj M' F) H' where
  tup := fun a vs h => by
    rcases h with h | ⟨o, h⟩
    · exact .inl (e.keep _ _ h (.inr fun z => z.elim id fun ⟨_, e⟩ => nomatch e))
    · exact .inr ⟨o, e.keep _ _ h (.inr fun z => z.elim id fun ⟨_, e⟩ => nomatch e)⟩
  lst := fun a vs h n => by
    obtain ⟨n1, n2⟩ := mj_none n
    exact ⟨e.keep _ _ h (.inl ⟨n1, fun _ => nofun⟩), (mj_r (e.mono _ _ h (fun _ => nofun) n1)).trans n2⟩
theorem Ev.kp {M M' : Mem} {H H' : Hp} (e : Ev M H M' H') : Kp M H M' H' where
  tup := fun a vs h => by
    rcases h with h | ⟨o, h⟩
    · exact .inl (e.keep _ _ h (.inr fun z => z.elim id fun ⟨_, e⟩ => nomatch e))
    · exact .inr ⟨o, e.keep _ _ h (.inr fun z => z.elim id fun ⟨_, e⟩ => nomatch e)⟩
  lst := fun a vs h n => by
    exact ⟨e.keep _ _ h (.inl ⟨n, fun _ => nofun⟩), e.mono _ _ h (fun _ => nofun) n⟩
theorem Kp.sqT {K : Fg} {M M' : Mem} {H H' : Hp} (e : Kp M H M' H') {a : Addr} {vs : List V} (h : SqT K H a vs) : SqT K H' a vs := by
  rcases h with h | h
  · exact .inl (e.tup _ _ h)
  · exact .inr h
mutual
theorem Rp.kp {K : Fg} {M M' : Mem} {H H' : Hp} (e : Kp M H M' H') : ∀ (d : D) {v : V}, Rp K M H v d → Rp K M' H' v d
  | .non, _, h => by cases h; exact .non
  | .bl b, _, h => by cases h; exact .bl b
  | .int i, _, h => by cases h; exact .int i
  | .str x, _, h => by cases h; exact .str x
  | .ty n, _, h => by cases h; exact .ty n
  | .ref a, _, h => by cases h; exact .ref a
  | .tup ds, _, h => by
    cases h with
    | tup hs hl => exact .tup (e.sqT hs) (RpL.kp e ds hl)
  | .lst ds, _, h => by
    cases h with
    | lst hs hn hl => exact .lst (e.lst _ _ hs hn).1 (e.lst _ _ hs hn).2 (RpL.kp e ds hl)
theorem RpL.kp {K : Fg} {M M' : Mem} {H H' : Hp} (e : Kp M H M' H') : ∀ (ds : List D) {vs : List V}, RpL K M H vs ds → RpL K M' H' vs ds
  | [], _, h => by cases h; exact .nil
  | d :: ds, _, h => by
    cases h with
    | cons h1 h2 => exact .cons (Rp.kp e d h1) (RpL.kp e ds h2)
end
theorem Rp.ev {K : Fg} {M M' F : Mem} {H H' : Hp} (e : Ev M H M' H') (d : D) {v : V} (r : Rp K (mj M F) H v d) : Rp K (mj M' F) H' v d := Rp.kp e.kpF d r
theorem RpL.ev {K : Fg} {M M' F : Mem} {H H' : Hp} (e : Ev M H M' H') (d : List D) {v : List V} (r : RpL K (mj M F) H v d) : RpL K (mj M' F) H' v d := RpL.kp e.kpF d r
theorem RpL.length {K : Fg} {M : Mem} {H : Hp} : ∀ {vs : List V} {ds : List D}, RpL K M H vs ds → vs.length = ds.length
  | [], [], _ => rfl
  | _ :: _, _ :: _, .cons _ h2 => by rw [List.length_cons, List.length_cons, RpL.length h2]
theorem RpL.get {K : Fg} {M : Mem} {H : Hp} : ∀ {vs : List V} {ds : List D} {i : Nat} {d : D}, RpL K M H vs ds → ds[i]? = some d → ∃ v, vs[i]? = some v ∧ Rp K M H v d
  | [], [], i, d, .nil, e => by simp at e
  | v :: _, _ :: _, 0, d, .cons h1 _, e => by
    simp only [List.getElem?_cons_zero, Option.some.injEq] at e
    subst e
    exact ⟨v, rfl, h1⟩
  | _ :: _, _ :: _, i + 1, d, .cons _ h2, e => by
    simp only [List.getElem?_cons_succ] at e ⊢
    exact RpL.get h2 e
theorem RpL.getV {K : Fg} {M : Mem} {H : Hp} : ∀ {vs : List V} {ds : List D} {i : Nat} {v : V}, RpL K M H vs ds → vs[i]? = some v → ∃ d, ds[i]? = some d ∧ Rp K M H v d
  | [], [], i, d, .nil, e => by simp at e
  | _ :: _, d :: _, 0, v, .cons h1 _, e => by
    simp only [List.getElem?_cons_zero, Option.some.injEq] at e
    subst e
    exact ⟨d, rfl, h1⟩
  | _ :: _, _ :: _, i + 1, v, .cons _ h2, e => by
    simp only [List.getElem?_cons_succ] at e ⊢
    exact RpL.getV h2 e
theorem RpL.append {K : Fg} {M : Mem} {H : Hp} : ∀ {vs ws : List V} {ds es : List D}, RpL K M H vs ds → RpL K M H ws es → RpL K M H (vs ++ ws) (ds ++ es)
  | [], _, [], _, .nil, h => h
  | _ :: _, _, _ :: _, _, .cons h1 h2, h => .cons h1 (RpL.append h2 h)
theorem RpL.take {K : Fg} {M : Mem} {H : Hp} : ∀ {vs : List V} {ds : List D} (n : Nat), RpL K M H vs ds → RpL K M H (vs.take n) (ds.take n)
  | _, _, 0, _ => .nil
  | _, _, _ + 1, .nil => .nil
  | _, _, n + 1, .cons h1 h2 => .cons h1 (RpL.take n h2)
theorem RpL.drop {K : Fg} {M : Mem} {H : Hp} : ∀ {vs : List V} {ds : List D} (n : Nat), RpL K M H vs ds → RpL K M H (vs.drop n) (ds.drop n)
  | _, _, 0, h => h
  | _, _, _ + 1, .nil => .nil
  | _, _, n + 1, .cons _ h2 => RpL.drop n h2
theorem RpL.set {K : Fg} {M : Mem} {H : Hp} {v : V} {d : D} (r : Rp K M H v d) : ∀ {vs : List V} {ds : List D} (n : Nat), RpL K M H vs ds → RpL K M H (vs.set n v) (ds.set n d)
  | _, _, _, .nil => .nil
  | _, _, 0, .cons _ h2 => .cons r h2
  | _, _, n + 1, .cons h1 h2 => .cons h1 (RpL.set r n h2)
theorem RpL.reverse {K : Fg} {M : Mem} {H : Hp} : ∀ {vs : List V} {ds : List D}, RpL K M H vs ds → RpL K M H vs.reverse ds.reverse
  | _, _, .nil => .nil
  | _, _, .cons h1 h2 => by
    rw [List.reverse_cons, List.reverse_cons]
    exact RpL.append (RpL.reverse h2) (.cons h1 .nil)
theorem KvR.kp {K : Fg} {M M' : Mem} {H H' : Hp} {κ : Type} (e : Kp M H M' H') {l : List (κ × V)} {m : List (κ × D)} (r : KvR K M H l m) : KvR K M' H' l m :=
  Paired.mapP r fun p q z => ⟨z.1, Rp.kp e q.2 z.2⟩
/-- an entry whose own object stands as it stood -/
theorem MoOk.kp {K : Fg} {M M' : Mem} {H H' : Hp} {a : Addr} {o : MO} (e : Kp M H M' H') (t : ∀ b x, H b = some x → (∃ ps, x = .tbl ps) ∨ (∃ φ, x = .ext φ) → H' b = some x) (k : H' a = H a) (h : MoOk K M H a o) : MoOk K M' H' a o := by
  cases o with
  | lst ds => obtain ⟨vs, e1, r⟩ := h; exact ⟨vs, k.trans e1, RpL.kp e ds r⟩
  | dK kvs => obtain ⟨vs, e1, r⟩ := h; exact ⟨vs, k.trans e1, KvR.kp e r⟩
  | dT kvs => obtain ⟨vs, e1, r⟩ := h; exact ⟨vs, k.trans e1, KvR.kp e r⟩
  | ins C fs => obtain ⟨dx, vs, e1, r⟩ := h; exact ⟨dx, vs, k.trans e1, KvR.kp e r⟩
  | hid => obtain ⟨u, e1⟩ := h; exact ⟨u, k.trans e1⟩
  | tp ks => exact k.trans h
  | raw φ L => exact ⟨k.trans h.1, fun p hp => e.sqT (h.2 p hp)⟩
  | tabs T =>
    refine ⟨h.1, fun p hp => ?_⟩
    obtain ⟨ps, h1, h2, h3⟩ := h.2 p hp
    refine ⟨ps, t _ _ h1 (.inl ⟨_, rfl⟩), h2, fun pos cv hc => ?_⟩
    obtain ⟨c, e1, e2⟩ := h3 pos cv hc
    exact ⟨c, e1, t _ _ e2 (.inr ⟨_, rfl⟩)⟩
theorem MemOk.dom {K : Fg} {M : Mem} {H : Hp} (m : MemOk K M H) {a : Addr} {o : MO} (h : M a = some o) : ∃ u, H a = some u ∧ ((Hot u ∧ ∀ φ, u ≠ .ext φ) ∨ o.cold = true) := by
  have z := m a o h
  cases o with
  | lst ds => obtain ⟨vs, e1, r⟩ := z; exact ⟨_, e1, .inl ⟨.inl trivial, fun _ => nofun⟩⟩
  | dK kvs => obtain ⟨vs, e1, r⟩ := z; exact ⟨_, e1, .inl ⟨.inl trivial, fun _ => nofun⟩⟩
  | dT kvs => obtain ⟨vs, e1, r⟩ := z; exact ⟨_, e1, .inl ⟨.inl trivial, fun _ => nofun⟩⟩
  | ins C fs => obtain ⟨dx, vs, e1, r⟩ := z; exact ⟨_, e1, .inl ⟨.inl trivial, fun _ => nofun⟩⟩
  | hid => obtain ⟨vs, e1⟩ := z; exact ⟨_, e1, .inl ⟨.inl trivial, fun _ => nofun⟩⟩
  | tp ks => exact ⟨_, z, .inr rfl⟩
  | raw φ L => exact ⟨_, z.1, .inr rfl⟩
  | tabs T =>
    obtain ⟨⟨q, hq⟩, t⟩ := z
    obtain ⟨ps, e1, _⟩ := t _ hq
    exact ⟨_, e1, .inl ⟨.inr ⟨_, rfl⟩, fun _ => nofun⟩⟩
theorem MemOk.domH {K : Fg} {M : Mem} {H : Hp} (m : MemOk K M H) {a : Addr} {o : MO} (h : M a = some o) (nk : o.cold = false := by rfl) : ∃ u, H a = some u ∧ Hot u ∧ ∀ φ, u ≠ .ext φ := by
  obtain ⟨u, e, h1⟩ := m.dom h
  exact ⟨u, e, h1.elim id fun z => by rw [nk] at z; cases z⟩
theorem MemOk.fresh {K : Fg} {M : Mem} {H : Hp} (m : MemOk K M H) {p : Addr} (h : H p = none) : M p = none := by
  cases q : M p with
  | none => rfl
  | some o =>
    obtain ⟨u, e, _⟩ := m.dom q
    rw [h] at e; cases e
/-- a new object that is not hot -/
theorem Ev.new {M : Mem} {H : Hp} {p : Addr} {o : HO} (h : H p = none) : Ev M H M (upd H p o) where
  keep := fun a u e _ => by rw [upd_ne (ne_of_none e h)]; exact e
  mono := fun _ _ _ _ n => n
  dom := fun a u e n => ⟨u, by rw [upd_ne (ne_of_none e h)]; exact e, n⟩
theorem MemOk.new {K : Fg} {M : Mem} {H : Hp} {p : Addr} {o : HO} (m : MemOk K M H) (h : H p = none) : MemOk K M (upd H p o) := fun a u e => by
  obtain ⟨x, ex, _⟩ := m.dom e
  exact MoOk.kp (Ev.new h).kp (fun b x hb _ => by rw [upd_ne (ne_of_none hb h)]; exact hb) (upd_ne (ne_of_none ex h)) (m a u e)
/-- a new hot object -/
theorem Ev.newHot {M : Mem} {H : Hp} {p : Addr} {o : HO} {u : MO} (h : H p = none) : Ev M H (mput M p (some u)) (upd H p o) where
  keep := fun a x e _ => by rw [upd_ne (ne_of_none e h)]; exact e
  mono := fun a x e _ n => by rw [mput_ne (ne_of_none e h)]; exact n
  dom := fun a x e n => ⟨x, by rw [upd_ne (ne_of_none e h)]; exact e, n⟩
theorem MemOk.newHot {K : Fg} {M : Mem} {H : Hp} {p : Addr} {o : HO} {u : MO} (m : MemOk K M H) (h : H p = none) (z : MoOk K (mput M p (some u)) (upd H p o) p u) : MemOk K (mput M p (some u)) (upd H p o) := fun a x e => by
  by_cases ea : a = p
  · subst ea
    rw [mput_same] at e; cases e
    exact z
  · rw [mput_ne ea] at e
    exact MoOk.kp (Ev.newHot h).kp (fun b x hb _ => by rw [upd_ne (ne_of_none hb h)]; exact hb) (upd_ne ea) (m a x e)
/-- a hot object written -/
theorem Ev.write {M : Mem} {H : Hp} {a : Addr} {o : HO} {u u' : MO} (h : M a = some u) (ho : ∃ x, H a = some x ∧ Hot x ∧ ∀ φ, x ≠ .ext φ) (no : NT o := by exact fun _ => nofun) : Ev M H (mput M a (some u')) (upd H a o) where
  keep := fun b x e q => by
    have hb : b ≠ a := fun z => by
      subst z
      obtain ⟨y, ey, my⟩ := ho
      rw [e] at ey; cases ey
      rcases q with q | q
      · rw [h] at q; cases q.1
      · exact q my.1
    rw [upd_ne hb]; exact e
  mono := fun b x e _ n => by
    have hb : b ≠ a := fun z => by subst z; rw [h] at n; cases n
    rw [mput_ne hb]; exact n
  dom := fun b x e n => by
    by_cases hb : b = a
    · subst hb; exact ⟨o, upd_same, no⟩
    · exact ⟨x, by rw [upd_ne hb]; exact e, n⟩
theorem MemOk.write {K : Fg} {M : Mem} {H : Hp} {a : Addr} {o : HO} {u u' : MO} (m : MemOk K M H) (h : M a = some u) (nt : ∀ ps, H a ≠ some (.tbl ps)) (z : MoOk K (mput M a (some u')) (upd H a o) a u') (no : NT o := by exact fun _ => nofun) (nk : u.cold = false := by rfl) : MemOk K (mput M a (some u')) (upd H a o) := fun b x e => by
  by_cases ea : b = a
  · subst ea
    rw [mput_same] at e; cases e
    exact z
  · rw [mput_ne ea] at e
    refine MoOk.kp (Ev.write h (m.domH h nk) no).kp (fun c y hc q => ?_) (upd_ne ea) (m b x e)
    have hca : c ≠ a := fun z => by
      subst z
      rcases q with ⟨ps, q⟩ | ⟨φ, q⟩
      · exact nt ps (q ▸ hc)
      · obtain ⟨w, ew, _, nw⟩ := m.domH h nk
        rw [hc] at ew
        cases ew
        exact nw φ q
    rw [upd_ne hca]; exact hc
end DL

set_option Elab.async false
set_option linter.all false
set_option maxRecDepth 100000
set_option maxHeartbeats 4000000
namespace DL
open PySem PySem.Spec PyProof.Rows L2
/-! ### fewer hot things -/
mutual
theorem Rp.less {K : Fg} {M M' : Mem} {H : Hp} (e : ∀ a, M a = none → M' a = none) : ∀ (d : D) {v : V}, Rp K M H v d → Rp K M' H v d
  | .non, _, h => by cases h; exact .non
  | .bl b, _, h => by cases h; exact .bl b
  | .int i, _, h => by cases h; exact .int i
  | .str x, _, h => by cases h; exact .str x
  | .ty n, _, h => by cases h; exact .ty n
  | .ref a, _, h => by cases h; exact .ref a
  | .tup ds, _, h => by
    cases h with
    | tup hs hl => exact .tup hs (RpL.less e ds hl)
  | .lst ds, _, h => by
    cases h with
    | lst hs hn hl => exact .lst hs (e _ hn) (RpL.less e ds hl)
theorem RpL.less {K : Fg} {M M' : Mem} {H : Hp} (e : ∀ a, M a = none → M' a = none) : ∀ (ds : List D) {vs : List V}, RpL K M H vs ds → RpL K M' H vs ds
  | [], _, h => by cases h; exact .nil
  | d :: ds, _, h => by
    cases h with
    | cons h1 h2 => exact .cons (Rp.less e d h1) (RpL.less e ds h2)
end
theorem KvR.less {K : Fg} {M M' : Mem} {H : Hp} {κ : Type} (e : ∀ a, M a = none → M' a = none) {l : List (κ × V)} {m : List (κ × D)} (r : KvR K M H l m) : KvR K M' H l m :=
  Paired.mapP r fun p q z => ⟨z.1, Rp.less e q.2 z.2⟩
theorem MoOk.less {K : Fg} {M M' : Mem} {H : Hp} {a : Addr} (e : ∀ a, M a = none → M' a = none) : ∀ {o : MO}, MoOk K M H a o → MoOk K M' H a o
  | .lst ds, ⟨vs, e1, r⟩ => ⟨vs, e1, RpL.less e ds r⟩
  | .dK kvs, ⟨vs, e1, r⟩ => ⟨vs, e1, KvR.less e r⟩
  | .dT kvs, ⟨vs, e1, r⟩ => ⟨vs, e1, KvR.less e r⟩
  | .ins C fs, ⟨dx, vs, e1, r⟩ => ⟨dx, vs, e1, KvR.less e r⟩
  | .hid, h => h
  | .tp _, h => h
  | .raw _ _, h => h
  | .tabs _, h => h
theorem MemOk.less {K : Fg} {M M' : Mem} {H : Hp} (m : MemOk K M H) (e : ∀ a o, M' a = some o → M a = some o) : MemOk K M' H := fun a o h =>
  MoOk.less (fun b n => by
    cases q : M' b with
    | none => rfl
    | some u => rw [e b u q] at n; cases n) (m a o (e a o h))
theorem Ev.less {M M' M2 : Mem} {H H' : Hp} (v : Ev M H M' H') (e : ∀ a, M' a = none → M2 a = none) : Ev M H M2 H' :=
  ⟨v.keep, fun a o h t n => e a (v.mono a o h t n), v.dom⟩
/-! ### contexts and lifts -/
abbrev DSt := List (Option D)
abbrev DTE := DSt → Mem → (D → Mem → Prop) → Prop
abbrev DTT := DSt → Mem → (Bool → Mem → Prop) → Prop
abbrev DTA := DSt → Mem → (List D → Mem → Prop) → Prop
structure DEnds where
  nx : DSt → Mem → Prop
  rt : D → Mem → Prop
  bk : DSt → Mem → Prop := fun _ _ => False
  ct : DSt → Mem → Prop := fun _ _ => False
abbrev DTS := DEnds → DSt → Mem → Prop
/-- what is wanted of an error: its class, its own fields -/
abbrev DX := Value → Option (List (Str × D)) → Mem → Prop
/-- a def's entry -/
structure DC where
  M0 : Mem
  H0 : Hp
  F0 : Mem
  PX : DX
def DX0 : DX := fun _ _ _ => False
abbrev DC.mute (c : DC) : DC := { c with PX := DX0 }
def SlR (K : Fg) (A : Mem) (H : Hp) (ds : DSt) (σ : L2.St) : Prop := ds.length = σ.length ∧ ∀ (i : Nat) (d : D), ds[i]? = some (some d) → ∃ v, σ[i]? = some (some v) ∧ Rp K A H v d
structure At (K : Fg) (c : DC) (ds : DSt) (M F : Mem) (σ : L2.St) (H : Hp) : Prop where
  sl : SlR K (mj M F) H ds σ
  mo : MemOk K (mj M F) H
  ev : Ev c.M0 c.H0 M H
  dj : Dj M F
  ge : ∀ a o, c.F0 a = some o → F a = some o
theorem SlR.kp {K : Fg} {A A' : Mem} {H H' : Hp} {ds : DSt} {σ : L2.St} (s : SlR K A H ds σ) (e : Kp A H A' H') : SlR K A' H' ds σ :=
  ⟨s.1, fun i d h => by
    obtain ⟨v, e1, r⟩ := s.2 i d h
    exact ⟨v, e1, Rp.kp e d r⟩⟩
theorem SlR.set {K : Fg} {A : Mem} {H : Hp} {ds : DSt} {σ : L2.St} {v : V} {d : D} (s : SlR K A H ds σ) (i : Nat) (r : Rp K A H v d) : SlR K A H (ds.set i (some d)) (σ.set i (some v)) := by
  refine ⟨by rw [List.length_set, List.length_set, s.1], fun j e h => ?_⟩
  rw [List.getElem?_set] at h
  split at h
  · rename_i hij
    subst hij
    split at h
    · rename_i hl
      cases h
      refine ⟨v, ?_, r⟩
      rw [List.getElem?_set_self (by rw [← s.1]; exact hl)]
    · cases h
  · rename_i hij
    rw [List.getElem?_set_ne hij]
    exact s.2 j e h
theorem At.go {K : Fg} {c : DC} {ds : DSt} {M M' F : Mem} {σ : L2.St} {H H' : Hp} (a : At K c ds M F σ H) (d : Dj M' F) (e : Ev M H M' H') (m : MemOk K (mj M' F) H') : At K c ds M' F σ H' :=
  ⟨a.sl.kp e.kpF, m, a.ev.trans e, d, a.ge⟩
/-- what is wanted behind: data and store, seen from below -/
def Fin (K : Fg) (M F : Mem) (H : Hp) (P : D → Mem → Prop) (Q : VK) : Prop :=
  ∀ (d : D) (M' : Mem) (v : V) (H' : Hp), P d M' → Dj M' F → Ev M H M' H' → MemOk K (mj M' F) H' → Rp K (mj M' F) H' v d → Q v H'
def FinT (K : Fg) (M F : Mem) (H : Hp) (P : Bool → Mem → Prop) (Q : Bool → Hp → Prop) : Prop :=
  ∀ (b : Bool) (M' : Mem) (H' : Hp), P b M' → Dj M' F → Ev M H M' H' → MemOk K (mj M' F) H' → Q b H'
def FinL (K : Fg) (M F : Mem) (H : Hp) (P : List D → Mem → Prop) (Q : List V → Hp → Prop) : Prop :=
  ∀ (ds : List D) (M' : Mem) (vs : List V) (H' : Hp), P ds M' → Dj M' F → Ev M H M' H' → MemOk K (mj M' F) H' → RpL K (mj M' F) H' vs ds → Q vs H'
def XdR (K : Fg) (A : Mem) (H : Hp) : Option Addr → Option (List (Str × D)) → Prop
  | none, none => True
  | some a, some l => ∃ vs, H a = some (.xd vs) ∧ KvR K A H vs l
  | _, _ => False
theorem XdR.less {K : Fg} {M M' : Mem} {H : Hp} (e : ∀ a, M a = none → M' a = none) : ∀ {d : Option Addr} {fs : Option (List (Str × D))}, XdR K M H d fs → XdR K M' H d fs
  | none, none, _ => trivial
  | some _, some _, ⟨vs, e1, r⟩ => ⟨vs, e1, KvR.less e r⟩
def FinX (K : Fg) (M F : Mem) (H : Hp) (PX : DX) (E : XK) : Prop :=
  ∀ (cls : Value) (fs : Option (List (Str × D))) (M' : Mem) (d : Option Addr) (H' : Hp), PX cls fs M' → Dj M' F → Ev M H M' H' → MemOk K (mj M' F) H' → XdR K (mj M' F) H' d fs → E cls d H'
theorem Fin.ev {K : Fg} {M F M1 : Mem} {H H1 : Hp} {P : D → Mem → Prop} {Q : VK} (f : Fin K M F H P Q) (e : Ev M H M1 H1) : Fin K M1 F H1 P Q :=
  fun d M' v H' p dj ev mo rp => f d M' v H' p dj (e.trans ev) mo rp
theorem FinT.ev {K : Fg} {M F M1 : Mem} {H H1 : Hp} {P : Bool → Mem → Prop} {Q : Bool → Hp → Prop} (f : FinT K M F H P Q) (e : Ev M H M1 H1) : FinT K M1 F H1 P Q :=
  fun d M' H' p dj ev mo => f d M' H' p dj (e.trans ev) mo
theorem FinL.ev {K : Fg} {M F M1 : Mem} {H H1 : Hp} {P : List D → Mem → Prop} {Q : List V → Hp → Prop} (f : FinL K M F H P Q) (e : Ev M H M1 H1) : FinL K M1 F H1 P Q :=
  fun d M' v H' p dj ev mo rp => f d M' v H' p dj (e.trans ev) mo rp
def Lf (K : Fg) (c : DC) (t : DTE) : TE := fun σ H Q => ∃ ds M F P, At K c ds M F σ H ∧ t ds M P ∧ Fin K M F H P Q
def Lt (K : Fg) (c : DC) (t : DTT) : TT := fun σ H Q => ∃ ds M F P, At K c ds M F σ H ∧ t ds M P ∧ FinT K M F H P Q
def La (K : Fg) (c : DC) (t : DTA) : TA := fun σ H Q => ∃ ds M F P, At K c ds M F σ H ∧ t ds M P ∧ FinL K M F H P Q
structure EndsOk (K : Fg) (M F : Mem) (H : Hp) (DD : DEnds) (W : Ends) : Prop where
  nx : ∀ (ds : DSt) (M' : Mem) (σ : L2.St) (H' : Hp), DD.nx ds M' → Dj M' F → Ev M H M' H' → MemOk K (mj M' F) H' → SlR K (mj M' F) H' ds σ → W.nx σ H'
  rt : Fin K M F H DD.rt W.rt
  bk : ∀ (ds : DSt) (M' : Mem) (σ : L2.St) (H' : Hp), DD.bk ds M' → Dj M' F → Ev M H M' H' → MemOk K (mj M' F) H' → SlR K (mj M' F) H' ds σ → W.bk σ H'
  ct : ∀ (ds : DSt) (M' : Mem) (σ : L2.St) (H' : Hp), DD.ct ds M' → Dj M' F → Ev M H M' H' → MemOk K (mj M' F) H' → SlR K (mj M' F) H' ds σ → W.ct σ H'
theorem EndsOk.ev {K : Fg} {M F M1 : Mem} {H H1 : Hp} {DD : DEnds} {W : Ends} (f : EndsOk K M F H DD W) (e : Ev M H M1 H1) : EndsOk K M1 F H1 DD W :=
  ⟨fun ds M' σ H' p dj ev mo sl => f.nx ds M' σ H' p dj (e.trans ev) mo sl, f.rt.ev e, fun ds M' σ H' p dj ev mo sl => f.bk ds M' σ H' p dj (e.trans ev) mo sl, fun ds M' σ H' p dj ev mo sl => f.ct ds M' σ H' p dj (e.trans ev) mo sl⟩
def Ls (K : Fg) (c : DC) (t : DTS) : TS := fun W σ H => ∃ ds M F DD, At K c ds M F σ H ∧ t DD ds M ∧ EndsOk K M F H DD W
def DE (X : Cx) (c : DC) (e : Expr) (t : DTE) : Prop := PE X e (Lf X.K c t)
def DT (X : Cx) (c : DC) (e : Expr) (t : DTT) : Prop := PT X e (Lt X.K c t)
def DW (X : Cx) (c : DC) (e : Expr) (t : DTT) : Prop := PW X e (Lt X.K c t)
def DA (X : Cx) (c : DC) (es : List Expr) (t : DTA) : Prop := PA X es (La X.K c t)
def DS (X : Cx) (c : DC) (s : Stmt) (t : DTS) : Prop := PS X s (Ls X.K c t)
def DSs (X : Cx) (c : DC) (s : List Stmt) (t : DTS) : Prop := PSs X s (Ls X.K c t)
theorem _root_.L2.PE.imp {X : Cx} {e : Expr} {t u : TE} (h : PE X e t) (i : ∀ σ H Q, u σ H Q → t σ H Q) : PE X e u := ⟨fun pins s σ H Q I q => h.run pins s σ H Q I (i _ _ _ q)⟩
theorem _root_.L2.PT.imp {X : Cx} {e : Expr} {t u : TT} (h : PT X e t) (i : ∀ σ H Q, u σ H Q → t σ H Q) : PT X e u := ⟨fun pins s σ H Q I q => h.run pins s σ H Q I (i _ _ _ q)⟩
theorem _root_.L2.PW.imp {X : Cx} {e : Expr} {t u : TT} (h : PW X e t) (i : ∀ σ H Q, u σ H Q → t σ H Q) : PW X e u := ⟨fun wh pins s σ H Q I q => h.run wh pins s σ H Q I (i _ _ _ q)⟩
theorem _root_.L2.PA.imp {X : Cx} {e : List Expr} {t u : TA} (h : PA X e t) (i : ∀ σ H Q, u σ H Q → t σ H Q) : PA X e u := ⟨fun pos pins s σ H Q I q => h.run pos pins s σ H Q I (i _ _ _ q)⟩
theorem _root_.L2.PS.imp {X : Cx} {e : Stmt} {t u : TS} (h : PS X e t) (i : ∀ D σ H, u D σ H → t D σ H) : PS X e u := ⟨fun pins s σ H D I q => h.run pins s σ H D I (i _ _ _ q)⟩
theorem _root_.L2.PSs.imp {X : Cx} {e : List Stmt} {t u : TS} (h : PSs X e t) (i : ∀ D σ H, u D σ H → t D σ H) : PSs X e u := ⟨fun pins s σ H D I q => h.run pins s σ H D I (i _ _ _ q)⟩
/-! ### readings of expressions -/
def dVar (i : Nat) : DTE := fun ds M P => match ds[i]? with | some (some d) => P d M | _ => False
def dC (d : D) : DTE := fun _ M P => P d M
abbrev DO1 := D → Mem → (D → Mem → Prop) → Prop
abbrev DO2 := D → D → Mem → (D → Mem → Prop) → Prop
abbrev DOL := List D → Mem → (D → Mem → Prop) → Prop
def dUn (g : DO1) (ta : DTE) : DTE := fun ds M P => ta ds M fun x M1 => g x M1 P
def dBin (g : DO2) (ta tb : DTE) : DTE := fun ds M P => ta ds M fun x M1 => tb ds M1 fun y M2 => g x y M2 P
def dNil : DTA := fun _ M P => P [] M
def dCons (ta : DTE) (tr : DTA) : DTA := fun ds M P => ta ds M fun x M1 => tr ds M1 fun xs M2 => P (x :: xs) M2
def dApp (g : DOL) (t : DTA) : DTE := fun ds M P => t ds M fun xs M1 => g xs M1 P
/-- a rule by values -/
def Op1 (K : Fg) (r : V → Hp → VK → Prop) (g : DO1) : Prop := ∀ (M F : Mem) (x : D) (v : V) (H : Hp) (P : D → Mem → Prop) (Q : VK), g x M P → Dj M F → MemOk K (mj M F) H → Rp K (mj M F) H v x → Fin K M F H P Q → r v H Q
def Op2 (K : Fg) (r : R2) (g : DO2) : Prop := ∀ (M F : Mem) (x y : D) (v w : V) (H : Hp) (P : D → Mem → Prop) (Q : VK), g x y M P → Dj M F → MemOk K (mj M F) H → Rp K (mj M F) H v x → Rp K (mj M F) H w y → Fin K M F H P Q → r v w H Q
def OpL (K : Fg) (r : List V → Hp → VK → Prop) (g : DOL) : Prop := ∀ (M F : Mem) (xs : List D) (vs : List V) (H : Hp) (P : D → Mem → Prop) (Q : VK), g xs M P → Dj M F → MemOk K (mj M F) H → RpL K (mj M F) H vs xs → Fin K M F H P Q → r vs H Q
section
variable {X : Cx} {c : DC} {a b : Expr} {pos : Pos} {ta tb tc : DTE}
theorem d_var {e : Expr} (i : Nat) (h : PE X e (tVar i)) : DE X c e (dVar i) := h.imp fun σ H Q ⟨ds, M, F, P, at', ht, fin⟩ => by
  unfold dVar at ht
  split at ht
  · rename_i d e1
    obtain ⟨v, e2, r⟩ := at'.sl.2 i d e1
    exact ⟨v, e2, fin d M v H ht at'.dj .refl at'.mo r⟩
  · exact ht.elim
theorem d_const {e : Expr} {v : V} {d : D} (h : PE X e (tC v)) (r : ∀ A H, Rp X.K A H v d) : DE X c e (dC d) := h.imp fun σ H Q ⟨ds, M, F, P, at', ht, fin⟩ =>
  fin d M v H ht at'.dj .refl at'.mo (r _ _)
theorem d_int {i : Int} {j : Nat} : DE X c (.Constant (.int i) j pos) (dC (.int i)) := d_const pe_int fun _ _ => .int i
theorem d_bl {i : Bool} {j : Nat} : DE X c (.Constant (.bool i) j pos) (dC (.bl i)) := d_const pe_bl fun _ _ => .bl i
theorem d_non {j : Nat} : DE X c (.Constant .none j pos) (dC .non) := d_const pe_non fun _ _ => .non
theorem d_str {i : Str} {j : Nat} : DE X c (.Constant (.str i) j pos) (dC (.str i)) := d_const pe_str fun _ _ => .str i
theorem lf_un {K : Fg} {r : V → Hp → VK → Prop} {g : DO1} (h : Op1 K r g) {σ : L2.St} {H : Hp} {Q : VK} : Lf K c (dUn g ta) σ H Q → tUn r (Lf K c ta) σ H Q := fun ⟨ds, M, F, P, at', ht, fin⟩ =>
  ⟨ds, M, F, fun x M1 => g x M1 P, at', ht, fun x M1 v H1 p dj ev mo rp => h M1 F x v H1 P Q p dj mo rp (fin.ev ev)⟩
theorem lf_bin {K : Fg} {r : R2} {g : DO2} (h : Op2 K r g) {σ : L2.St} {H : Hp} {Q : VK} : Lf K c (dBin g ta tb) σ H Q → tOp r (Lf K c ta) (Lf K c tb) σ H Q := fun ⟨ds, M, F, P, at', ht, fin⟩ =>
  ⟨ds, M, F, fun x M1 => tb ds M1 fun y M2 => g x y M2 P, at', ht, fun x M1 v H1 p dj ev mo rp =>
    ⟨ds, M1, F, fun y M2 => g x y M2 P, at'.go dj ev mo, p, fun y M2 w H2 p2 dj2 ev2 mo2 rp2 =>
      h M2 F x y v w H2 P Q p2 dj2 mo2 (Rp.ev ev2 x rp) rp2 (fin.ev (ev.trans ev2))⟩⟩
theorem lf_app {K : Fg} {r : List V → Hp → VK → Prop} {g : DOL} (h : OpL K r g) {t : DTA} {σ : L2.St} {H : Hp} {Q : VK} : Lf K c (dApp g t) σ H Q → tCB r (La K c t) σ H Q := fun ⟨ds, M, F, P, at', ht, fin⟩ =>
  ⟨ds, M, F, fun x M1 => g x M1 P, at', ht, fun x M1 v H1 p dj ev mo rp => h M1 F x v H1 P Q p dj mo rp (fin.ev ev)⟩
theorem d_op {op : Operator} {r : R2} {g : DO2} (ho : OpR X (binaryOp op) r) (hg : Op2 X.K r g) (ha : DE X c a ta) (hb : DE X c b tb) : DE X c (.BinOp a op b pos) (dBin g ta tb) := (pe_op ho ha hb).imp fun _ _ _ => lf_bin hg
theorem d_un {op : UnaryOp} {r : V → Hp → VK → Prop} {g : DO1} (ho : UnR X (unaryOp op) r) (hg : Op1 X.K r g) (ha : DE X c a ta) : DE X c (.UnaryOp op a pos) (dUn g ta) := (pe_un ho ha).imp fun _ _ _ => lf_un hg
theorem d_cmp {op : CmpOp} {r : R2} {g : DO2} (ho : OpR X (compareOp op) r) (hg : Op2 X.K r g) (ha : DE X c a ta) (hb : DE X c b tb) (hm : behindInMarks op b = false) : DE X c (.Compare a [op] [b] pos) (dBin g ta tb) := (pe_cmpR ho ha hb hm).imp fun _ _ _ => lf_bin hg
theorem d_ix {r : R2} {g : DO2} (ho : IxR X r) (hg : Op2 X.K r g) (ha : DE X c a ta) (hb : DE X c b tb) (hs : PlainIx b) : DE X c (.Subscript a b pos) (dBin g ta tb) := (pe_ix ho ha hb hs).imp fun _ _ _ => lf_bin hg
/-! arguments -/
theorem d_anil : DA X c [] dNil := pa_nil.imp fun σ H Q ⟨ds, M, F, P, at', ht, fin⟩ => fin [] M [] H ht at'.dj .refl at'.mo .nil
theorem d_acons {es : List Expr} {t : DTA} (ha : DE X c a ta) (hr : DA X c es t) (hs : starEach (a :: es) X.env = (false, eval a X.env) :: starEach es X.env := by rfl) : DA X c (a :: es) (dCons ta t) :=
  (pa_cons ha hr hs).imp fun σ H Q ⟨ds, M, F, P, at', ht, fin⟩ =>
    ⟨ds, M, F, fun x M1 => t ds M1 fun xs M2 => P (x :: xs) M2, at', ht, fun x M1 v H1 p dj ev mo rp =>
      ⟨ds, M1, F, fun xs M2 => P (x :: xs) M2, at'.go dj ev mo, p, fun xs M2 vs H2 p2 dj2 ev2 mo2 rp2 => fin (x :: xs) M2 (v :: vs) H2 p2 dj2 (ev.trans ev2) mo2 (.cons (Rp.ev ev2 x rp) rp2)⟩⟩
/-! tests -/
def dB (t : DTE) : DTT := fun ds M P => t ds M fun d M1 => match d with | .bl k => P k M1 | _ => False
theorem lt_b {K : Fg} {σ : L2.St} {H : Hp} {Q : Bool → Hp → Prop} : Lt K c (dB ta) σ H Q → (Lf K c ta) σ H (fun x H' => ∃ k, x = .bl k ∧ Q k H') := fun ⟨ds, M, F, P, at', ht, fin⟩ =>
  ⟨ds, M, F, _, at', ht, fun x M1 v H1 p dj ev mo rp => by
    cases x with
    | bl k => cases rp; exact ⟨k, rfl, fin k M1 H1 p dj ev mo⟩
    | _ => exact p.elim⟩
theorem d_tval {e : Expr} (h : DE X c e ta) (he : ∀ whole, isTrue e X.env whole = (do let v ← whole; standAt e.pos; holding [v] (truthy v)) := by intro _; rfl) : DT X c e (dB ta) := (pt_val h he).imp fun _ _ _ => lt_b
theorem d_tcmp {op : CmpOp} {r : R2} {g : DO2} (ho : OpR X (compareOp op) r) (hg : Op2 X.K r g) (ha : DE X c a ta) (hb : DE X c b tb) (hm : behindInMarks op b = false) : DT X c (.Compare a [op] [b] pos) (dB (dBin g ta tb)) :=
  (pt_cmpR ho ha hb hm).imp fun σ H Q h => lf_bin hg (lt_b h : Lf X.K c (dBin g ta tb) σ H _)
def dAnd (t u : DTT) : DTT := fun ds M P => t ds M fun k M1 => (k = true → u ds M1 P) ∧ (k = false → P false M1)
def dOr (t u : DTT) : DTT := fun ds M P => t ds M fun k M1 => (k = true → P true M1) ∧ (k = false → u ds M1 P)
def dNot (t : DTT) : DTT := fun ds M P => t ds M fun k M1 => P (!k) M1
theorem d_and1 {t : DTT} (ha : DT X c a t) : DW X c (.BoolOp .And [a] pos) t := pw_and1 ha
theorem d_or1 {t : DTT} (ha : DT X c a t) : DW X c (.BoolOp .Or [a] pos) t := pw_or1 ha
theorem d_and {t u : DTT} {rest : List Expr} (ha : DT X c a t) (hb : DW X c (.BoolOp .And (b :: rest) pos) u) : DW X c (.BoolOp .And (a :: b :: rest) pos) (dAnd t u) := (pw_and ha hb).imp fun σ H Q ⟨ds, M, F, P, at', ht, fin⟩ =>
  ⟨ds, M, F, _, at', ht, fun k M1 H1 p dj ev mo => by
    cases k with
    | true => exact ⟨ds, M1, F, P, at'.go dj ev mo, p.1 rfl, fin.ev ev⟩
    | false => exact fin false M1 H1 (p.2 rfl) dj ev mo⟩
theorem d_or {t u : DTT} {rest : List Expr} (ha : DT X c a t) (hb : DW X c (.BoolOp .Or (b :: rest) pos) u) : DW X c (.BoolOp .Or (a :: b :: rest) pos) (dOr t u) := (pw_or ha hb).imp fun σ H Q ⟨ds, M, F, P, at', ht, fin⟩ =>
  ⟨ds, M, F, _, at', ht, fun k M1 H1 p dj ev mo => by
    cases k with
    | false => exact ⟨ds, M1, F, P, at'.go dj ev mo, p.2 rfl, fin.ev ev⟩
    | true => exact fin true M1 H1 (p.1 rfl) dj ev mo⟩
theorem d_wt {e : Expr} {t : DTT} (h : DW X c e t) : DT X c e t := h.pt
theorem d_not {t : DTT} (ha : DT X c a t) : DT X c (.UnaryOp .Not a pos) (dNot t) := (pt_not ha).imp fun σ H Q ⟨ds, M, F, P, at', ht, fin⟩ =>
  ⟨ds, M, F, _, at', ht, fun k M1 H1 p dj ev mo => fin (!k) M1 H1 p dj ev mo⟩
/-! and, or, not as values -/
def dAndV (ta tb : DTE) : DTE := fun ds M P => ta ds M fun x M1 => match x with | .bl k => (k = true → tb ds M1 P) ∧ (k = false → P (.bl false) M1) | _ => False
def dOrV (ta tb : DTE) : DTE := fun ds M P => ta ds M fun x M1 => match x with | .bl k => (k = true → P (.bl true) M1) ∧ (k = false → tb ds M1 P) | _ => False
def dNotV (ta : DTE) : DTE := fun ds M P => ta ds M fun x M1 => match x with | .bl k => P (.bl (!k)) M1 | _ => False
theorem d_one {op : BoolOp} (h : DE X c a ta) : DE X c (.BoolOp op [a] pos) ta := pe_one h
theorem d_andV {rest : List Expr} (ha : DE X c a ta) (hb : DE X c (.BoolOp .And (b :: rest) pos) tb) : DE X c (.BoolOp .And (a :: b :: rest) pos) (dAndV ta tb) := (pe_and ha hb).imp fun σ H Q ⟨ds, M, F, P, at', ht, fin⟩ =>
  ⟨ds, M, F, _, at', ht, fun x M1 v H1 p dj ev mo rp => by
    cases x with
    | bl k =>
      cases rp
      refine ⟨k, rfl, ?_⟩
      cases k with
      | true => exact ⟨ds, M1, F, P, at'.go dj ev mo, p.1 rfl, fin.ev ev⟩
      | false => exact fin (.bl false) M1 (.bl false) H1 (p.2 rfl) dj ev mo (.bl false)
    | _ => exact p.elim⟩
theorem d_orV {rest : List Expr} (ha : DE X c a ta) (hb : DE X c (.BoolOp .Or (b :: rest) pos) tb) : DE X c (.BoolOp .Or (a :: b :: rest) pos) (dOrV ta tb) := (pe_or ha hb).imp fun σ H Q ⟨ds, M, F, P, at', ht, fin⟩ =>
  ⟨ds, M, F, _, at', ht, fun x M1 v H1 p dj ev mo rp => by
    cases x with
    | bl k =>
      cases rp
      refine ⟨k, rfl, ?_⟩
      cases k with
      | false => exact ⟨ds, M1, F, P, at'.go dj ev mo, p.2 rfl, fin.ev ev⟩
      | true => exact fin (.bl true) M1 (.bl true) H1 (p.1 rfl) dj ev mo (.bl true)
    | _ => exact p.elim⟩
theorem d_notV (ha : DE X c a ta) : DE X c (.UnaryOp .Not a pos) (dNotV ta) := (pe_not ha).imp fun σ H Q ⟨ds, M, F, P, at', ht, fin⟩ =>
  ⟨ds, M, F, _, at', ht, fun x M1 v H1 p dj ev mo rp => by
    cases x with
    | bl k => cases rp; exact ⟨k, rfl, fin (.bl (!k)) M1 _ H1 p dj ev mo (.bl _)⟩
    | _ => exact p.elim⟩
def dIfE (t : DTT) (ta tb : DTE) : DTE := fun ds M P => t ds M fun k M1 => (k = true → ta ds M1 P) ∧ (k = false → tb ds M1 P)
theorem d_ifE {e : Expr} {t : DTT} (hc : DT X c e t) (ha : DE X c a ta) (hb : DE X c b tb) : DE X c (.IfExp e a b pos) (dIfE t ta tb) := (pe_ifExp hc ha hb).imp fun σ H Q ⟨ds, M, F, P, at', ht, fin⟩ =>
  ⟨ds, M, F, _, at', ht, fun k M1 H1 p dj ev mo => by
    cases k with
    | true => exact ⟨ds, M1, F, P, at'.go dj ev mo, p.1 rfl, fin.ev ev⟩
    | false => exact ⟨ds, M1, F, P, at'.go dj ev mo, p.2 rfl, fin.ev ev⟩⟩
/-- a < b < e -/
def dChain (g g' : DO2) (ta tb tc : DTE) : DTE := fun ds M P => ta ds M fun x M1 => tb ds M1 fun y M2 => g x y M2 fun z M3 => match z with
  | .bl k => (k = true → tc ds M3 fun u M4 => g' y u M4 P) ∧ (k = false → P (.bl false) M3)
  | _ => False
/-! displays -/
def dTup (t : DTA) : DTE := fun ds M P => t ds M fun xs M1 => xs.length ≤ sizeLine ∧ P (.tup xs) M1
def dLst (t : DTA) : DTE := fun ds M P => t ds M fun xs M1 => xs.length ≤ sizeLine ∧ P (.lst xs) M1
def dLstH (t : DTA) : DTE := fun ds M P => t ds M fun xs M1 => xs.length ≤ sizeLine ∧ ∀ p, M1 p = none → P (.ref p) (mput M1 p (some (.lst xs)))
/-- a tuple is made -/
theorem fin_tup {K : Fg} {M F : Mem} {H : Hp} {P : D → Mem → Prop} {Q : VK} {xs : List D} {vs : List V} (fin : Fin K M F H P Q) (dj : Dj M F) (mo : MemOk K (mj M F) H) (r : RpL K (mj M F) H vs xs) (h : P (.tup xs) M) (p : Addr) (n : H p = none) :
    Q (.ref p) (upd H p (.tup vs)) := fin (.tup xs) M (.ref p) _ h dj (Ev.new n) (mo.new n) (.tup (.of upd_same) (RpL.kp (Ev.new n).kp xs r))
/-- a list is made, and stands still -/
theorem fin_lst {K : Fg} {M F : Mem} {H : Hp} {P : D → Mem → Prop} {Q : VK} {xs : List D} {vs : List V} (fin : Fin K M F H P Q) (dj : Dj M F) (mo : MemOk K (mj M F) H) (r : RpL K (mj M F) H vs xs) (h : P (.lst xs) M) (p : Addr) (n : H p = none) :
    Q (.ref p) (upd H p (.lst vs)) := fin (.lst xs) M (.ref p) _ h dj (Ev.new n) (mo.new n) (.lst upd_same (mo.fresh n) (RpL.kp (Ev.new n).kp xs r))
/-- a hot list is made -/
theorem fin_lstH {K : Fg} {M F : Mem} {H : Hp} {P : D → Mem → Prop} {Q : VK} {xs : List D} {vs : List V} (fin : Fin K M F H P Q) (dj : Dj M F) (mo : MemOk K (mj M F) H) (r : RpL K (mj M F) H vs xs) (h : ∀ p, M p = none → P (.ref p) (mput M p (some (.lst xs)))) (p : Addr) (n : H p = none) :
    Q (.ref p) (upd H p (.lst vs)) := by
  obtain ⟨n1, n2⟩ := mj_none (mo.fresh n)
  refine fin (.ref p) _ (.ref p) _ (h p n1) (dj_put dj n2) (Ev.newHot n) ?_ (.ref p)
  rw [mj_put]
  exact mo.newHot n ⟨vs, upd_same, RpL.kp (Ev.newHot n).kp xs r⟩
theorem d_tup {es : List Expr} {t : DTA} {k : Nat} (h : DA X c es t) : DE X c (.Tuple es k pos) (dTup t) := (pe_tup h).imp fun σ H Q ⟨ds, M, F, P, at', ht, fin⟩ =>
  ⟨ds, M, F, _, at', ht, fun xs M1 vs H1 p dj ev mo rp => ⟨by rw [rp.length]; exact p.1, fin_tup (fin.ev ev) dj mo rp p.2⟩⟩
theorem d_lst {es : List Expr} {t : DTA} (h : DA X c es t) : DE X c (.List es pos) (dLst t) := (pe_lst h).imp fun σ H Q ⟨ds, M, F, P, at', ht, fin⟩ =>
  ⟨ds, M, F, _, at', ht, fun xs M1 vs H1 p dj ev mo rp => ⟨by rw [rp.length]; exact p.1, fin_lst (fin.ev ev) dj mo rp p.2⟩⟩
theorem d_lstH {es : List Expr} {t : DTA} (h : DA X c es t) : DE X c (.List es pos) (dLstH t) := (pe_lst h).imp fun σ H Q ⟨ds, M, F, P, at', ht, fin⟩ =>
  ⟨ds, M, F, _, at', ht, fun xs M1 vs H1 p dj ev mo rp => ⟨by rw [rp.length]; exact p.1, fin_lstH (fin.ev ev) dj mo rp p.2⟩⟩
end
end DL

set_option Elab.async false
set_option linter.all false
set_option maxRecDepth 100000
set_option maxHeartbeats 4000000
namespace DL
open PySem PySem.Spec PyProof.Rows L2
/-! ### statements -/
def dSkip : DTS := fun W ds M => W.nx ds M
def dSeq (t u : DTS) : DTS := fun W ds M => t { W with nx := fun ds' M' => u W ds' M' } ds M
def dExpr (te : DTE) : DTS := fun W ds M => te ds M fun _ M1 => W.nx ds M1
def dRet (te : DTE) : DTS := fun W ds M => te ds M W.rt
def dRetN : DTS := fun W _ M => W.rt .non M
def dSet (i : Nat) (te : DTE) : DTS := fun W ds M => te ds M fun d M1 => W.nx (ds.set i (some d)) M1
def dIf (t : DTT) (a b : DTS) : DTS := fun W ds M => t ds M fun k M1 => (k = true → a W ds M1) ∧ (k = false → b W ds M1)
def dBreak : DTS := fun W ds M => W.bk ds M
def dCont : DTS := fun W ds M => W.ct ds M
section
variable {X : Cx} {c : DC} {st : Stmt} {rest : List Stmt} {t u : DTS} {e : Expr} {te : DTE} {pos : Pos}
theorem EndsOk.here {K : Fg} {M F : Mem} {H : Hp} {DD : DEnds} {W : Ends} {ds : DSt} {σ : L2.St} (f : EndsOk K M F H DD W) (at' : At K c ds M F σ H) (h : DD.nx ds M) : W.nx σ H := f.nx ds M σ H h at'.dj .refl at'.mo at'.sl
theorem d_nil : DSs X c [] dSkip := pss_nil.imp fun W σ H ⟨ds, M, F, DD, at', ht, f⟩ => f.here at' ht
theorem d_seq (h1 : DS X c st t) (h2 : DSs X c rest u) : DSs X c (st :: rest) (dSeq t u) := (pss_cons h1 h2).imp fun W σ H ⟨ds, M, F, DD, at', ht, f⟩ =>
  ⟨ds, M, F, _, at', ht, ⟨fun ds' M' σ' H' p dj ev mo sl => ⟨ds', M', F, DD, ⟨sl, mo, at'.ev.trans ev, dj, at'.ge⟩, p, f.ev ev⟩, f.rt, f.bk, f.ct⟩⟩
theorem d_last (h1 : DS X c st t) : DSs X c [st] t := pss_one h1
theorem d_pass : DS X c (.Pass pos) dSkip := ps_pass.imp fun W σ H ⟨ds, M, F, DD, at', ht, f⟩ => f.here at' ht
theorem d_break : DS X c (.Break pos) dBreak := ps_break.imp fun W σ H ⟨ds, M, F, DD, at', ht, f⟩ => f.bk ds M σ H ht at'.dj .refl at'.mo at'.sl
theorem d_cont : DS X c (.Continue pos) dCont := ps_continue.imp fun W σ H ⟨ds, M, F, DD, at', ht, f⟩ => f.ct ds M σ H ht at'.dj .refl at'.mo at'.sl
theorem d_expr (he : DE X c e te) (hs : swapsWith e none pos.line X.env = pure false := by rfl) : DS X c (.Expr e pos) (dExpr te) := (ps_expr he hs).imp fun W σ H ⟨ds, M, F, DD, at', ht, f⟩ =>
  ⟨ds, M, F, _, at', ht, fun d M' v H' p dj ev mo rp => f.nx ds M' σ H' p dj ev mo (at'.sl.kp ev.kpF)⟩
theorem d_ret (he : DE X c e te) : DS X c (.Return (some e) pos) (dRet te) := (ps_ret he).imp fun W σ H ⟨ds, M, F, DD, at', ht, f⟩ => ⟨ds, M, F, _, at', ht, f.rt⟩
theorem d_retN : DS X c (.Return none pos) dRetN := ps_retN.imp fun W σ H ⟨ds, M, F, DD, at', ht, f⟩ => f.rt .non M .non H ht at'.dj .refl at'.mo .non
theorem d_if {a b : List Stmt} {tc : DTT} (hc : DT X c e tc) (ha : DSs X c a t) (hb : DSs X c b u) : DS X c (.If e a b pos) (dIf tc t u) := (ps_if hc ha hb).imp fun W σ H ⟨ds, M, F, DD, at', ht, f⟩ =>
  ⟨ds, M, F, _, at', ht, fun k M1 H1 p dj ev mo => by
    cases k with
    | true => exact ⟨ds, M1, F, DD, at'.go dj ev mo, p.1 rfl, f.ev ev⟩
    | false => exact ⟨ds, M1, F, DD, at'.go dj ev mo, p.2 rfl, f.ev ev⟩⟩
theorem d_set {i : Nat} {x : Str} {pos' : Pos} (hN : X.N.Nodup) (hi : X.N[i]? = some x) (hx : Loc X.env.scope x) (he : DE X c e te) (hs : swapsWith e (some (.Name x pos')) pos.line X.env = pure false := by rfl) (hf : X.fn x = true ∨ X.env.scope.names.lookup x = some .local := by first | exact .inl rfl | exact .inr rfl | assumption) :
    DS X c (.Assign [.Name x pos'] e pos) (dSet i te) := (ps_set hN hi hx he hs hf).imp fun W σ H ⟨ds, M, F, DD, at', ht, f⟩ =>
  ⟨ds, M, F, _, at', ht, fun d M' v H' p dj ev mo rp => f.nx _ M' _ H' p dj ev mo ((at'.sl.kp ev.kpF).set i rp)⟩
end
/-! ### targets -/
abbrev DTG := D → DSt → Mem → (DSt → Mem → Prop) → Prop
abbrev DTGs := List D → DSt → Mem → (DSt → Mem → Prop) → Prop
/-- slots outside of vs are as they were -/
def Out (vs : List Nat) (σ σ' : L2.St) : Prop := σ'.length = σ.length ∧ ∀ j, j ∉ vs → σ'[j]? = σ[j]?
theorem Out.refl {vs : List Nat} {σ : L2.St} : Out vs σ σ := ⟨rfl, fun _ _ => rfl⟩
theorem Out.trans {vs : List Nat} {σ σ' σ2 : L2.St} (a : Out vs σ σ') (b : Out vs σ' σ2) : Out vs σ σ2 := ⟨b.1.trans a.1, fun j h => (b.2 j h).trans (a.2 j h)⟩
theorem Out.set {vs : List Nat} {σ : L2.St} {i : Nat} {v : Option V} (h : i ∈ vs) : Out vs σ (σ.set i v) := ⟨List.length_set, fun j hj => List.getElem?_set_ne (fun (e : i = j) => hj (by rw [← e]; exact h))⟩
def FinG (K : Fg) (vs : List Nat) (M F : Mem) (σ : L2.St) (H : Hp) (P : DSt → Mem → Prop) (Q : L2.St → Hp → Prop) : Prop :=
  ∀ (ds : DSt) (M' : Mem) (σ' : L2.St) (H' : Hp), P ds M' → Dj M' F → Ev M H M' H' → MemOk K (mj M' F) H' → SlR K (mj M' F) H' ds σ' → Out vs σ σ' → Q σ' H'
def Lg (K : Fg) (c : DC) (vs : List Nat) (g : DTG) : TG := fun v σ H Q => ∃ d ds M F P, At K c ds M F σ H ∧ Rp K (mj M F) H v d ∧ g d ds M P ∧ FinG K vs M F σ H P Q
def Lgs (K : Fg) (c : DC) (vs : List Nat) (g : DTGs) : TGs := fun v σ H Q => ∃ d ds M F P, At K c ds M F σ H ∧ RpL K (mj M F) H v d ∧ g d ds M P ∧ FinG K vs M F σ H P Q
def DG (X : Cx) (c : DC) (vs : List Nat) (tg : Expr) (g : DTG) : Prop := PG X tg (Lg X.K c vs g)
def DGs (X : Cx) (c : DC) (vs : List Nat) (tg : List Expr) (g : DTGs) : Prop := PGs X tg (Lgs X.K c vs g)
theorem _root_.L2.PG.imp {X : Cx} {e : Expr} {t u : TG} (h : PG X e t) (i : ∀ v σ H Q, u v σ H Q → t v σ H Q) : PG X e u := ⟨fun pins s σ H v w Q I r q => h.run pins s σ H v w Q I r (i _ _ _ _ q)⟩
theorem _root_.L2.PGs.imp {X : Cx} {e : List Expr} {t u : TGs} (h : PGs X e t) (i : ∀ v σ H Q, u v σ H Q → t v σ H Q) : PGs X e u := ⟨fun pins s σ H v w Q I r q => h.run pins s σ H v w Q I r (i _ _ _ _ q)⟩
def dgN (i : Nat) : DTG := fun d ds M P => P (ds.set i (some d)) M
def dgT (n : Nat) (t : DTGs) : DTG := fun d ds M P => match d with | .tup xs => xs.length = n ∧ t xs ds M P | _ => False
def dgNil : DTGs := fun xs ds M P => match xs with | [] => P ds M | _ => False
def dgCons (t : DTG) (u : DTGs) : DTGs := fun xs ds M P => match xs with | x :: r => t x ds M fun ds1 M1 => u r ds1 M1 P | [] => False
section
variable {X : Cx} {c : DC} {vs : List Nat} {pos : Pos}
theorem d_gn {i : Nat} {x : Str} (hN : X.N.Nodup) (hi : X.N[i]? = some x) (hx : Loc X.env.scope x) (hv : i ∈ vs) (hf : X.fn x = true ∨ X.env.scope.names.lookup x = some .local := by first | exact .inl rfl | exact .inr rfl | assumption) : DG X c vs (.Name x pos) (dgN i) :=
  (pg_name hN hi hx hf).imp fun v σ H Q ⟨d, ds, M, F, P, at', rp, ht, fin⟩ => fin _ M _ H ht at'.dj .refl at'.mo (at'.sl.set i rp) (.set hv)
theorem d_gnil : DGs X c vs [] dgNil := pgs_nil.imp fun v σ H Q ⟨d, ds, M, F, P, at', rp, ht, fin⟩ => by
  cases d with
  | nil =>
    cases rp
    exact ⟨rfl, fin ds M σ H ht at'.dj .refl at'.mo at'.sl .refl⟩
  | cons x r => exact ht.elim
theorem d_gcons {e : Expr} {es : List Expr} {t : DTG} {u : DTGs} (h1 : DG X c vs e t) (h2 : DGs X c vs es u) (hs : (assignEach (e :: es) X.env).map (·.2) = assign e X.env :: (assignEach es X.env).map (·.2) := by rfl) : DGs X c vs (e :: es) (dgCons t u) :=
  (pgs_cons h1 h2 hs).imp fun v σ H Q ⟨d, ds, M, F, P, at', rp, ht, fin⟩ => by
    cases d with
    | nil => exact ht.elim
    | cons x r =>
      cases rp with
      | cons r1 r2 =>
        refine ⟨_, _, rfl, x, ds, M, F, _, at', r1, ht, fun ds' M' σ' H' p dj ev mo sl out => ?_⟩
        exact ⟨r, ds', M', F, P, ⟨sl, mo, at'.ev.trans ev, dj, at'.ge⟩, RpL.ev ev r r2, p, fun ds2 M2 σ2 H2 p2 dj2 ev2 mo2 sl2 out2 => fin ds2 M2 σ2 H2 p2 dj2 (ev.trans ev2) mo2 sl2 (out.trans out2)⟩
theorem d_gt {es : List Expr} {k n : Nat} {t : DTGs} (hc : X.calm = true) (h : DGs X c vs es t) (hn : (assignEach es X.env).length = n := by rfl) (hst : (assignEach es X.env).findIdx? (·.1) = none := by rfl) : DG X c vs (.Tuple es k pos) (dgT n t) :=
  (pg_tup hc h hn hst).imp fun v σ H Q ⟨d, ds, M, F, P, at', rp, ht, fin⟩ => by
    cases d with
    | tup xs =>
      cases rp with
      | tup hs hl => exact ⟨_, _, rfl, hs, hl.length.trans ht.1, xs, ds, M, F, P, at', hl, ht.2, fin⟩
    | _ => exact ht.elim
/-- target = value -/
def dAsg (te : DTE) (g : DTG) : DTS := fun W ds M => te ds M fun d M1 => g d ds M1 W.nx
theorem d_asg {tg e : Expr} {te : DTE} {g : DTG} (he : DE X c e te) (hg : DG X c vs tg g) (hs : swapsWithSole [tg] e pos.line X.env = pure false := by rfl) (hw : swappedStores [tg] e X.env = pure none := by rfl)
    (h1 : (assignEach [tg] X.env).map (·.2) = [assign tg X.env] := by rfl) : DS X c (.Assign [tg] e pos) (dAsg te g) := (ps_asg he hg hs hw h1).imp fun W σ H ⟨ds, M, F, DD, at', ht, f⟩ =>
  ⟨ds, M, F, _, at', ht, fun d M1 v H1 p dj ev mo rp => ⟨d, ds, M1, F, DD.nx, at'.go dj ev mo, rp, p, fun ds2 M2 σ2 H2 p2 dj2 ev2 mo2 sl2 _ => f.nx ds2 M2 σ2 H2 p2 dj2 (ev.trans ev2) mo2 sl2⟩⟩
/-- a, b = x, y: plain locals -/
def dPar (i j : Nat) (ta : DTA) : DTS := fun W ds M => ta ds M fun xs M1 => match xs with | [a, b] => W.nx ((ds.set i (some a)).set j (some b)) M1 | _ => False
theorem d_par {i j : Nat} {x y : Str} {a b : Expr} {ta : DTA} {px py pt : Pos} {kt k2 : Nat} {pt2 : Pos} (hc : X.calm = true) (hN : X.N.Nodup) (hi : X.N[i]? = some x) (hj : X.N[j]? = some y) (hij : i ≠ j)
    (hx : X.env.scope.names.lookup x = some .local) (hy : X.env.scope.names.lookup y = some .local) (ha : DA X c [a, b] ta)
    (hw : swappedStores [.Tuple [.Name x px, .Name y py] kt pt] (.Tuple [a, b] k2 pt2) X.env = pure (some [x, y]))
    (hs : swapsWithSole [.Tuple [.Name x px, .Name y py] kt pt] (.Tuple [a, b] k2 pt2) pos.line X.env = pure false := by rfl) :
    DS X c (.Assign [.Tuple [.Name x px, .Name y py] kt pt] (.Tuple [a, b] k2 pt2) pos) (dPar i j ta) := (ps_par hc hN hi hj hij hx hy ha hw hs).imp fun W σ H ⟨ds, M, F, DD, at', ht, f⟩ =>
  ⟨ds, M, F, _, at', ht, fun xs M1 vs H1 p dj ev mo rp => by
    match xs, vs, rp, p with
    | [a, b], _, .cons r1 (.cons r2 .nil), p => exact ⟨_, _, rfl, f.nx _ M1 _ H1 p dj ev mo (((at'.sl.kp ev.kpF).set i r1).set j r2)⟩⟩
end
/-! ### what is walked -/
abbrev DTI := DSt → Mem → (List D → Mem → Prop) → Prop
/-- J gives the items xs, while the data stand -/
def DWalk (K : Fg) (J : It) (xs : List D) (A : Mem) (H : Hp) : Prop := ∀ (A1 : Mem) (H1 : Hp), Kp A H A1 H1 → MemOk K A1 H1 → (∀ i, i < xs.length → J.go i H1) ∧ J.stop xs.length H1 ∧
  ∀ (i : Nat) (x : V) (H2 : Hp) (d : D), xs[i]? = some d → J.yld i H1 x H2 → Ev A1 H1 A1 H2 ∧ MemOk K A1 H2 ∧ Rp K A1 H2 x d ∧ ∀ b o, H1 b = some o → H2 b = some o
def Li (K : Fg) (c : DC) (t : DTI) : TI := fun σ H R => ∃ ds M F P, At K c ds M F σ H ∧ t ds M P ∧ ∀ (xs : List D) (M' : Mem) (H' : Hp) (J : It), P xs M' → Dj M' F → Ev M H M' H' → MemOk K (mj M' F) H' → DWalk K J xs (mj M' F) H' → R J H'
def DI (X : Cx) (c : DC) (tg e : Expr) (t : DTI) : Prop := PI X tg e (Li X.K c t)
theorem _root_.L2.PI.imp {X : Cx} {tg e : Expr} {t u : TI} (h : PI X tg e t) (i : ∀ σ H Q, u σ H Q → t σ H Q) : PI X tg e u := ⟨fun pins s σ H R I q => h.run pins s σ H R I (i _ _ _ q)⟩
/-- behind a yield: from any store beside -/
theorem ev_of_same {M : Mem} {H H2 : Hp} (h : ∀ b o, H b = some o → H2 b = some o) : Ev M H M H2 := ⟨fun a o e _ => h a o e, fun _ _ _ _ n => n, fun a o e n => ⟨o, h a o e, n⟩⟩
/-! ### for -/
def forL (g : DTG) (tb : DTS) (W : DEnds) : List D → DSt → Mem → Prop
  | [], ds, M => W.nx ds M
  | x :: r, ds, M => g x ds M fun ds1 M1 => tb { nx := fun ds2 M2 => forL g tb W r ds2 M2, rt := W.rt, bk := W.nx, ct := fun ds2 M2 => forL g tb W r ds2 M2 } ds1 M1
def dFor (ti : DTI) (g : DTG) (tb : DTS) : DTS := fun W ds M => ti ds M fun xs M1 => forL g tb W xs ds M1
section
variable {X : Cx} {c : DC} {vs : List Nat} {pos : Pos}
theorem d_for {tg iter : Expr} {body : List Stmt} {ti : DTI} {g : DTG} {tb : DTS} (hp : PassesOwn (model X.prog X.w) X.A X.env X.xe) (hc : X.calm = true) (hi : DI X c tg iter ti) (hg : DG X c vs tg g) (hb : DSs X c body tb)
    (hs : ∀ x, foldedSetIterable iter X.env x = pure x := by intro _; rfl) : DS X c (.For tg iter body [] pos) (dFor ti g tb) := (ps_for hp hc hi hg hb hs).imp fun W σ H ⟨ds, M, F, DD, at', ht, f⟩ => by
  refine ⟨ds, M, F, _, at', ht, fun xs M1 H1 J p dj ev mo wk => ?_⟩
  refine ⟨fun i m σ2 H2 => m = xs.length - i ∧ i ≤ xs.length ∧ ∃ ds2 M2, At X.K c ds2 M2 F σ2 H2 ∧ Ev M1 H1 M2 H2 ∧ forL g tb DD (xs.drop i) ds2 M2, ⟨xs.length, by simp, Nat.zero_le _, ds, M1, at'.go dj ev mo, .refl, p⟩, ?_⟩
  rintro i m σ2 H2 ⟨rfl, hle, ds2, M2, at2, ev2, q⟩
  obtain ⟨w1, w2, w3⟩ := wk (mj M2 F) H2 ev2.kpF at2.mo
  by_cases hlt : i < xs.length
  · rw [List.drop_eq_getElem_cons hlt] at q
    have hx : xs[i]? = some xs[i] := List.getElem?_eq_getElem hlt
    refine .inr ⟨w1 i hlt, fun σ3 H3 => ∃ ds3 M3, At X.K c ds3 M3 F σ3 H3 ∧ Ev M1 H1 M3 H3 ∧ forL g tb DD (xs.drop (i + 1)) ds3 M3, fun σ3 H3 ⟨ds3, M3, h1, h2, h3⟩ => ⟨xs.length - (i + 1), by omega, rfl, hlt, ds3, M3, h1, h2, h3⟩, fun x H3 y => ?_⟩
    obtain ⟨_, mo3, rx, same⟩ := w3 i x H3 _ hx y
    have e3 : Ev M2 H2 M2 H3 := ev_of_same same
    refine ⟨xs[i], ds2, M2, F, _, at2.go at2.dj e3 mo3, rx, q, fun ds4 M4 σ4 H4 p4 dj4 ev4 mo4 sl4 _ => ?_⟩
    have e4 := e3.trans ev4
    have at4 : At X.K c ds4 M4 F σ4 H4 := ⟨sl4, mo4, at2.ev.trans e4, dj4, at2.ge⟩
    have e14 := ev2.trans e4
    have eE := ev.trans e14
    exact ⟨ds4, M4, F, _, at4, p4, ⟨fun ds5 M5 σ5 H5 p5 dj5 ev5 mo5 sl5 => ⟨ds5, M5, ⟨sl5, mo5, at4.ev.trans ev5, dj5, at4.ge⟩, e14.trans ev5, p5⟩, f.rt.ev eE,
      fun ds5 M5 σ5 H5 p5 dj5 ev5 mo5 sl5 => f.nx ds5 M5 σ5 H5 p5 dj5 (eE.trans ev5) mo5 sl5, fun ds5 M5 σ5 H5 p5 dj5 ev5 mo5 sl5 => ⟨ds5, M5, ⟨sl5, mo5, at4.ev.trans ev5, dj5, at4.ge⟩, e14.trans ev5, p5⟩⟩⟩
  · have e : i = xs.length := by omega
    subst e
    rw [List.drop_length] at q
    exact .inl ⟨w2, f.nx ds2 M2 σ2 H2 q at2.dj (ev.trans ev2) at2.mo at2.sl⟩
/-! ### while -/
def whileN (t : DTT) (tb : DTS) (W : DEnds) : Nat → DSt → Mem → Prop
  | 0, _, _ => False
  | n + 1, ds, M => t ds M fun k M1 => (k = true → tb { nx := fun ds2 M2 => whileN t tb W n ds2 M2, rt := W.rt, bk := W.nx, ct := fun ds2 M2 => whileN t tb W n ds2 M2 } ds M1) ∧ (k = false → W.nx ds M1)
def dWhile (t : DTT) (tb : DTS) : DTS := fun W ds M => ∃ n, whileN t tb W n ds M
theorem d_while {e : Expr} {body : List Stmt} {t : DTT} {tb : DTS} (hp : PassesOwn (model X.prog X.w) X.A X.env X.xe) (hc : DT X c e t) (hb : DSs X c body tb) : DS X c (.While e body [] pos) (dWhile t tb) := (ps_while hp hc hb).imp fun W σ H ⟨ds, M, F, DD, at', ⟨n, ht⟩, f⟩ => by
  refine ⟨fun m σ2 H2 => ∃ ds2 M2, At X.K c ds2 M2 F σ2 H2 ∧ Ev M H M2 H2 ∧ whileN t tb DD m ds2 M2, ⟨n, ds, M, at', .refl, ht⟩, ?_⟩
  rintro m σ2 H2 ⟨ds2, M2, at2, ev2, q⟩
  cases m with
  | zero => exact q.elim
  | succ m =>
    refine ⟨ds2, M2, F, _, at2, q, fun k M3 H3 p dj ev mo => ?_⟩
    have at3 := at2.go dj ev mo
    have e3 := ev2.trans ev
    cases k with
    | true =>
      refine ⟨fun σ3 H3 => ∃ ds3 M3, At X.K c ds3 M3 F σ3 H3 ∧ Ev M H M3 H3 ∧ whileN t tb DD m ds3 M3, fun σ3 H3 h => ⟨m, Nat.lt_succ_self _, h⟩, ?_⟩
      exact ⟨ds2, M3, F, _, at3, p.1 rfl, ⟨fun ds5 M5 σ5 H5 p5 dj5 ev5 mo5 sl5 => ⟨ds5, M5, ⟨sl5, mo5, at3.ev.trans ev5, dj5, at3.ge⟩, e3.trans ev5, p5⟩, f.rt.ev e3,
        fun ds5 M5 σ5 H5 p5 dj5 ev5 mo5 sl5 => f.nx ds5 M5 σ5 H5 p5 dj5 (e3.trans ev5) mo5 sl5, fun ds5 M5 σ5 H5 p5 dj5 ev5 mo5 sl5 => ⟨ds5, M5, ⟨sl5, mo5, at3.ev.trans ev5, dj5, at3.ge⟩, e3.trans ev5, p5⟩⟩⟩
    | false => exact f.nx ds2 M3 σ2 H3 (p.2 rfl) dj e3 mo at3.sl
end
end DL

set_option Elab.async false
set_option linter.all false
set_option maxRecDepth 100000
set_option maxHeartbeats 4000000
namespace DL
open PySem PySem.Spec PyProof.Rows L2
/-! ### comprehensions -/
def dwipe (ds : DSt) : List Nat → DSt
  | [] => ds
  | v :: vs => (dwipe ds vs).set v none
theorem dwipe_length (ds : DSt) : ∀ vs : List Nat, (dwipe ds vs).length = ds.length
  | [] => rfl
  | v :: vs => by rw [dwipe, List.length_set, dwipe_length ds vs]
theorem dwipe_some {ds : DSt} {i : Nat} {d : D} : ∀ {vs : List Nat}, (dwipe ds vs)[i]? = some (some d) → ds[i]? = some (some d) ∧ i ∉ vs
  | [], h => ⟨h, by simp⟩
  | v :: vs, h => by
    rw [dwipe, List.getElem?_set] at h
    split at h
    · split at h <;> cases h
    · rename_i hv
      obtain ⟨h1, h2⟩ := dwipe_some h
      exact ⟨h1, by simp only [List.mem_cons, not_or]; exact ⟨fun e => hv e.symm, h2⟩⟩
theorem wipe_get {σ : L2.St} {i : Nat} : ∀ {vs : List Nat}, i ∉ vs → (wipe σ vs)[i]? = σ[i]?
  | [], _ => rfl
  | v :: vs, h => by
    simp only [List.mem_cons, not_or] at h
    rw [wipe, List.getElem?_set_ne (Ne.symm h.1), wipe_get h.2]
theorem wipe_in {σ : L2.St} {i : Nat} : ∀ {vs : List Nat}, i ∈ vs → i < σ.length → (wipe σ vs)[i]? = some none
  | v :: vs, h, hl => by
    rw [wipe, List.getElem?_set]
    by_cases e : v = i
    · rw [if_pos e, if_pos (by rw [wipe_length]; omega)]
    · rw [if_neg e]
      rcases List.mem_cons.mp h with z | z
      · exact absurd z.symm e
      · exact wipe_in z hl
theorem wipe_out {σ σ' : L2.St} {vs : List Nat} (o : Out vs σ σ') : wipe σ' vs = wipe σ vs := by
  apply List.ext_getElem?
  intro i
  by_cases h : i ∈ vs
  · by_cases hl : i < σ.length
    · rw [wipe_in h hl, wipe_in h (by rw [o.1]; exact hl)]
    · rw [List.getElem?_eq_none (by rw [wipe_length, o.1]; omega), List.getElem?_eq_none (by rw [wipe_length]; omega)]
  · rw [wipe_get h, wipe_get h, o.2 i h]
theorem wipe_wipe {σ : L2.St} {vs : List Nat} : wipe (wipe σ vs) vs = wipe σ vs := by
  apply wipe_out
  refine ⟨wipe_length σ vs, fun j h => wipe_get h⟩
theorem SlR.wipe {K : Fg} {A : Mem} {H : Hp} {ds : DSt} {σ : L2.St} (s : SlR K A H ds σ) (vs : List Nat) : SlR K A H (dwipe ds vs) (L2.wipe σ vs) := by
  refine ⟨by rw [dwipe_length, wipe_length, s.1], fun i d h => ?_⟩
  obtain ⟨h1, h2⟩ := dwipe_some h
  obtain ⟨v, e, r⟩ := s.2 i d h1
  exact ⟨v, by rw [wipe_get h2]; exact e, r⟩
def compL (vs : List Nat) (g : DTG) (tt : DTT) (te : DTE) (ds : DSt) (Q : List D → Mem → Prop) : List D → List D → Mem → Prop
  | [], acc, M => Q acc M
  | x :: r, acc, M => g x (dwipe ds vs) M fun ds2 M2 => tt ds2 M2 fun b M3 => (b = true → te ds2 M3 fun y M4 => compL vs g tt te ds Q r (acc ++ [y]) M4) ∧ (b = false → compL vs g tt te ds Q r acc M3)
def dYes : DTT := fun _ M P => P true M
def dComp (vs : List Nat) (ti : DTI) (g : DTG) (tt : DTT) (te : DTE) : DTE := fun ds M P => ti ds M fun xs M1 => xs.length ≤ sizeLine ∧ compL vs g tt te ds (fun ys M2 => P (.lst ys) M2) xs [] M1
/-- the list that is made stays hot for a user -/
def dCompH (vs : List Nat) (ti : DTI) (g : DTG) (tt : DTT) (te : DTE) : DTE := fun ds M P => ti ds M fun xs M1 => xs.length ≤ sizeLine ∧ compL vs g tt te ds (fun ys M2 => ∀ p, M2 p = none → P (.ref p) (mput M2 p (some (.lst ys)))) xs [] M1
def DTs (X : Cx) (c : DC) (ifs : List Expr) (t : DTT) : Prop := PTs X ifs (Lt X.K c t)
theorem _root_.L2.PTs.imp {X : Cx} {e : List Expr} {t u : TT} (h : PTs X e t) (i : ∀ σ H Q, u σ H Q → t σ H Q) : PTs X e u := ⟨fun pins s σ H Q I q => h.run pins s σ H Q I (i _ _ _ q)⟩
theorem d_tsnil {X : Cx} {c : DC} : DTs X c [] dYes := pts_nil.imp fun σ H Q ⟨ds, M, F, P, at', ht, fin⟩ => fin true M H ht at'.dj .refl at'.mo
theorem d_tsone {X : Cx} {c : DC} {e : Expr} {t : DTT} (h : DT X c e t) : DTs X c [e] t := pts_one h
theorem djH {M F : Mem} {p : Addr} (d : Dj M F) (h : M p = none) : Dj M (mput F p (some .hid)) := by
  refine ⟨fun a => ?_, fun a T => ?_⟩
  · by_cases e : a = p
    · subst e; exact .inl h
    · rw [mput_ne e]; exact d.at_ a
  · by_cases e : a = p
    · subst e; rw [mput_same]; exact nofun
    · rw [mput_ne e]; exact d.nt a T
theorem mjH {M F : Mem} {p : Addr} (h : M p = none) : mj M (mput F p (some .hid)) = mput (mj M F) p (some .hid) := by
  funext a
  by_cases e : a = p
  · subst e; rw [mput_same, mj_r h, mput_same]
  · rw [mput_ne e]; unfold mj; rw [mput_ne e]
theorem djU {M F : Mem} {p : Addr} (d : Dj M (mput F p (some .hid))) (n : F p = none) : Dj M F := by
  refine ⟨fun a => ?_, fun a T h => ?_⟩
  · by_cases e : a = p
    · subst e; exact .inr n
    · have z := d.at_ a; rw [mput_ne e] at z; exact z
  · have e : a ≠ p := fun e => by subst e; rw [n] at h; cases h
    exact d.nt a T (by rw [mput_ne e]; exact h)
theorem djM {M F : Mem} {p : Addr} (d : Dj M (mput F p (some .hid))) : M p = none := by
  rcases d.at_ p with z | z
  · exact z
  · rw [mput_same] at z; cases z
section
variable {X : Cx} {c : DC} {pos : Pos} {vs : List Nat} {ti : DTI} {g : DTG} {tt : DTT} {te : DTE}
/-- the machine's reading of a comprehension, of ours -/
theorem lc_read {K : Fg} {σ : L2.St} {H : Hp} {Q : VK} {ds : DSt} {M F : Mem} {Qd : List D → Mem → Prop} (at' : At K c ds M F σ H)
    (ht : ti ds M fun xs M1 => xs.length ≤ sizeLine ∧ compL vs g tt te ds Qd xs [] M1)
    (fin : ∀ (L : Addr) (ys : List D) (M' : Mem) (ws : List V) (H' : Hp), Qd ys M' → Dj M' F → Ev M H M' H' → MemOk K (mput (mj M' F) L (some .hid)) H' → M' L = none → F L = none → H' L = some (.lst ws) → (∀ o, H L = some o → NT o → False) → RpL K (mput (mj M' F) L (some .hid)) H' ws ys → Q (.ref L) H') :
    tLc (Li K c ti) (Lg K c.mute vs g) (Lt K c.mute tt) (Lf K c.mute te) vs σ H Q := by
  refine ⟨ds, M, F, _, at', ht, fun xs M1 H1 J ⟨hz, q⟩ dj1 ev1 mo1 wk D hD => ?_⟩
  obtain ⟨nM, nF⟩ := mj_none (mo1.fresh hD)
  have hD0 : ∀ o, H D = some o → NT o → False := fun o e n => by
    obtain ⟨o', e', _⟩ := ev1.dom D o e n
    rw [hD] at e'; cases e'
  -- the frame with the list hidden
  obtain ⟨F', hF'⟩ : ∃ F', F' = mput F D (some .hid) := ⟨_, rfl⟩
  have geF : ∀ a o, c.F0 a = some o → F' a = some o := fun a o e => by
    have z := at'.ge a o e
    rw [hF', mput_ne (fun q => by subst q; rw [nF] at z; cases z)]
    exact z
  -- what holds between the turns
  refine ⟨fun i m H5 => m = xs.length - i ∧ i ≤ xs.length ∧ ∃ M5 acc ys, Dj M5 F' ∧ Ev M1 H1 M5 H5 ∧ MemOk K (mj M5 F') H5 ∧ H5 D = some (.lst acc) ∧ RpL K (mj M5 F') H5 acc ys ∧ ys.length ≤ i ∧ compL vs g tt te ds Qd (xs.drop i) ys M5, ⟨xs.length, by simp, Nat.zero_le _, M1, [], [], ?_, ?_, ?_, upd_same, .nil, Nat.le_refl _, q⟩, ?_⟩
  · rw [hF']; exact djH dj1 nM
  · exact Ev.new hD
  · rw [hF', mjH nM]
    exact mo1.newHot hD ⟨_, upd_same⟩
  rintro i m H5 ⟨rfl, hle, M5, acc, ys, dj5, ev5, mo5, hD5, ra, hly, q5⟩
  have nM5 : M5 D = none := by rw [hF'] at dj5; exact djM dj5
  have kp15 : Kp (mj M1 F) H1 (mj M5 F') H5 := by
    rw [hF', mjH nM5]
    have z : Kp (mj M1 F) H1 (mj M5 F) H5 := ev5.kpF
    refine ⟨z.tup, fun a vs h n => ?_⟩
    have z2 := z.lst a vs h n
    refine ⟨z2.1, ?_⟩
    rw [mput_ne (fun e => by
      subst e
      rw [hD] at h; cases h)]
    exact z2.2
  obtain ⟨w1, w2, w3⟩ := wk (mj M5 F') H5 kp15 mo5
  by_cases hlt : i < xs.length
  · rw [List.drop_eq_getElem_cons hlt] at q5
    have hx : xs[i]? = some xs[i] := List.getElem?_eq_getElem hlt
    refine .inr ⟨w1 i hlt, fun H6 => ∃ M5 acc ys, Dj M5 F' ∧ Ev M1 H1 M5 H6 ∧ MemOk K (mj M5 F') H6 ∧ H6 D = some (.lst acc) ∧ RpL K (mj M5 F') H6 acc ys ∧ ys.length ≤ i + 1 ∧ compL vs g tt te ds Qd (xs.drop (i + 1)) ys M5, fun H6 h => ⟨xs.length - (i + 1), by omega, rfl, hlt, h⟩, fun x H6 y => ?_⟩
    obtain ⟨_, mo6, rx, same⟩ := w3 i x H6 _ hx y
    have e56 : Ev M5 H5 M5 H6 := ev_of_same same
    have sl5 : SlR K (mj M5 F') H6 (dwipe ds vs) (L2.wipe σ vs) := ((at'.sl.kp ev1.kpF).kp kp15 |>.kp e56.kpF).wipe vs
    have at6 : At K c.mute (dwipe ds vs) M5 F' (L2.wipe σ vs) H6 := ⟨sl5, mo6, at'.ev.trans (ev1.trans (ev5.trans e56)), dj5, geF⟩
    have hD6 : H6 D = some (.lst acc) := same D _ hD5
    have noD : ∀ {M7 : Mem} {H7 : Hp}, Ev M5 H6 M7 H7 → H7 D = some (.lst acc) := fun e => e.keep D _ hD6 (.inl ⟨nM5, fun _ => nofun⟩)
    refine ⟨xs[i], dwipe ds vs, M5, F', _, at6, rx, q5, fun ds7 M7 σ7 H7 p7 dj7 ev7 mo7 sl7 out7 => ?_⟩
    refine ⟨(wipe_out out7).trans wipe_wipe, ?_⟩
    have at7 : At K c.mute ds7 M7 F' σ7 H7 := ⟨sl7, mo7, at6.ev.trans ev7, dj7, geF⟩
    refine ⟨ds7, M7, F', _, at7, p7, fun b M8 H8 p8 dj8 ev8 mo8 => ?_⟩
    have e68 := ev7.trans ev8
    have e18 := ev5.trans (e56.trans e68)
    have ra8 : RpL K (mj M8 F') H8 acc ys := RpL.ev e68 ys (RpL.ev e56 ys ra)
    cases b with
    | false =>
      dsimp only
      rw [if_neg Bool.false_ne_true]
      exact ⟨M8, acc, ys, dj8, e18, mo8, noD e68, ra8, by omega, p8.2 rfl⟩
    | true =>
      dsimp only
      rw [if_pos rfl]
      refine ⟨ds7, M8, F', _, at7.go dj8 ev8 mo8, p8.1 rfl, fun y M9 v H9 p9 dj9 ev9 mo9 r9 => ?_⟩
      have e69 := e68.trans ev9
      have hD9 := noD e69
      have lenA : acc.length = ys.length := ra.length
      have nM9 : M9 D = none := by rw [hF'] at dj9; exact djM dj9
      have hot : (mj M9 F') D = some .hid := by rw [mj_r nM9, hF', mput_same]
      refine ⟨acc, hD9, by omega, M9, acc ++ [v], ys ++ [y], dj9, ?_, ?_, upd_same, ?_, by rw [List.length_append]; show ys.length + 1 ≤ i + 1; omega, p9⟩
      · have e19 := e18.trans ev9
        refine ⟨fun a o h hn => ?_, e19.mono, fun a o h nt => ?_⟩
        · rw [upd_ne (ne_of_none h hD)]; exact e19.keep a o h hn
        · rw [upd_ne (ne_of_none h hD)]; exact e19.dom a o h nt
      · have z : MemOk K (mput (mj M9 F') D (some .hid)) (upd H9 D (.lst (acc ++ [v]))) := mo9.write hot (fun ps z => by rw [hD9] at z; cases z) ⟨_, upd_same⟩
        rw [mput_self hot] at z
        exact z
      · have kpw : Kp (mj M9 F') H9 (mj M9 F') (upd H9 D (.lst (acc ++ [v]))) := by
          have z := (Ev.write (o := HO.lst (acc ++ [v])) (u' := MO.hid) hot ⟨_, hD9, .inl trivial, fun _ => nofun⟩).kp
          rw [mput_self hot] at z
          exact z
        exact (RpL.kp kpw ys (RpL.ev ev9 ys ra8)).append (.cons (Rp.kp kpw y r9) .nil)
  · have e : i = xs.length := by omega
    subst e
    rw [List.drop_length] at q5
    refine .inl ⟨w2, ?_⟩
    have m2 : MemOk K (mput (mj M5 F) D (some .hid)) H5 := by rw [← mjH nM5, ← hF']; exact mo5
    have r2 : RpL K (mput (mj M5 F) D (some .hid)) H5 acc ys := by rw [← mjH nM5, ← hF']; exact ra
    exact fin D ys M5 acc H5 q5 (by rw [hF'] at dj5; exact djU dj5 nF) (ev1.trans ev5) m2 nM5 nF hD5 hD0 r2
theorem lc_cold {K : Fg} {σ : L2.St} {H : Hp} {Q : VK} : Lf K c (dComp vs ti g tt te) σ H Q → tLc (Li K c ti) (Lg K c.mute vs g) (Lt K c.mute tt) (Lf K c.mute te) vs σ H Q := fun ⟨ds, M, F, P, at', ht, fin⟩ =>
  lc_read at' ht fun D ys M' ws H' p dj ev mo nM nF hD hD0 r => by
    have cold : (mj M' F) D = none := by rw [mj_r nM]; exact nF
    have ls : ∀ a, mput (mj M' F) D (some .hid) a = none → (mj M' F) a = none := fun a h => by
      by_cases e : a = D
      · subst e; exact cold
      · rw [mput_ne e] at h; exact h
    exact fin (.lst ys) M' (.ref D) H' p dj ev (mo.less fun a o h => by rw [mput_ne (fun e => by subst e; rw [cold] at h; cases h)]; exact h) (.lst hD cold (RpL.less ls ys r))
theorem lc_hot {K : Fg} {σ : L2.St} {H : Hp} {Q : VK} : Lf K c (dCompH vs ti g tt te) σ H Q → tLc (Li K c ti) (Lg K c.mute vs g) (Lt K c.mute tt) (Lf K c.mute te) vs σ H Q := fun ⟨ds, M, F, P, at', ht, fin⟩ =>
  lc_read at' ht fun D ys M' ws H' p dj ev mo nM nF hD hD0 r => by
    have cold : (mj M' F) D = none := by rw [mj_r nM]; exact nF
    have e1 : ∀ a, mput (mj M' F) D (some .hid) a = none → mput (mj M' F) D (some (.lst ys)) a = none := fun a h => by
      by_cases e : a = D
      · subst e; rw [mput_same] at h; cases h
      · rw [mput_ne e] at h ⊢; exact h
    refine fin (.ref D) _ (.ref D) H' (p D nM) (dj_put dj nF) ⟨ev.keep, fun a o h t n => ?_, ev.dom⟩ ?_ (.ref D)
    · rw [mput_ne (fun e => hD0 o (by rw [← e]; exact h) t)]; exact ev.mono a o h t n
    · rw [mj_put]
      intro a o h
      by_cases e : a = D
      · subst e
        rw [mput_same] at h; cases h
        exact ⟨ws, hD, RpL.less e1 ys r⟩
      · rw [mput_ne e] at h
        exact MoOk.less e1 (mo a o (by rw [mput_ne e]; exact h))
variable {tg iter elt : Expr} {ifs : List Expr} {scope : Scope} {own : List (Str × Nat)}
theorem d_lc (hc : X.calm = true) (hN : X.N.Nodup) (hi : DI X c tg iter ti) (ok : BlkOk X.N X.env.scope scope own)
    (hg : ∀ (s : Shared) (H : Hp) (C : Addr) (cl : List (Str × Addr)) (fp : List Addr), DG (X.blk s H scope (compEnvC scope cl C X.env) fp) c.mute (own.map (·.2)) tg g) (ht : ∀ (s : Shared) (H : Hp) (C : Addr) (cl : List (Str × Addr)) (fp : List Addr), DTs (X.blk s H scope (compEnvC scope cl C X.env) fp) c.mute ifs tt)
    (he : ∀ (s : Shared) (H : Hp) (C : Addr) (cl : List (Str × Addr)) (fp : List Addr), DE (X.blk s H scope (compEnvC scope cl C X.env) fp) c.mute elt te) (hs : ∀ x, foldedSetIterable iter X.env x = pure x := by intro _; rfl) :
    DE X c (.ListComp elt [⟨tg, iter, ifs, 0⟩] scope pos) (dComp (own.map (·.2)) ti g tt te) := (pe_lc (g := Lg X.K c.mute (own.map fun (x : Str × Nat) => x.2) g) (tt := Lt X.K c.mute tt) (te := Lf X.K c.mute te) hc hN hi ok hg ht he hs).imp fun _ _ _ => lc_cold
theorem d_lcH (hc : X.calm = true) (hN : X.N.Nodup) (hi : DI X c tg iter ti) (ok : BlkOk X.N X.env.scope scope own)
    (hg : ∀ (s : Shared) (H : Hp) (C : Addr) (cl : List (Str × Addr)) (fp : List Addr), DG (X.blk s H scope (compEnvC scope cl C X.env) fp) c.mute (own.map (·.2)) tg g) (ht : ∀ (s : Shared) (H : Hp) (C : Addr) (cl : List (Str × Addr)) (fp : List Addr), DTs (X.blk s H scope (compEnvC scope cl C X.env) fp) c.mute ifs tt)
    (he : ∀ (s : Shared) (H : Hp) (C : Addr) (cl : List (Str × Addr)) (fp : List Addr), DE (X.blk s H scope (compEnvC scope cl C X.env) fp) c.mute elt te) (hs : ∀ x, foldedSetIterable iter X.env x = pure x := by intro _; rfl) :
    DE X c (.ListComp elt [⟨tg, iter, ifs, 0⟩] scope pos) (dCompH (own.map (·.2)) ti g tt te) := (pe_lc (g := Lg X.K c.mute (own.map fun (x : Str × Nat) => x.2) g) (tt := Lt X.K c.mute tt) (te := Lf X.K c.mute te) hc hN hi ok hg ht he hs).imp fun _ _ _ => lc_hot
/-- name = [..], the name a plain local -/
theorem d_setLc {i : Nat} {y : Str} {py : Pos} {spos : Pos} (hc : X.calm = true) (hN : X.N.Nodup) (hy : X.N[i]? = some y) (hyl : X.env.scope.names.lookup y = some .local)
    (hsw : swapsWith (.ListComp elt [⟨tg, iter, ifs, 0⟩] scope pos) (some (.Name y py)) spos.line X.env = pure true) (hi : DI X c tg iter ti) (ok : BlkOk X.N X.env.scope scope own)
    (hg : ∀ (s : Shared) (H : Hp) (C : Addr) (cl : List (Str × Addr)) (fp : List Addr), DG (X.blk s H scope (compEnvC scope cl C X.env) fp) c.mute (own.map (·.2)) tg g) (ht : ∀ (s : Shared) (H : Hp) (C : Addr) (cl : List (Str × Addr)) (fp : List Addr), DTs (X.blk s H scope (compEnvC scope cl C X.env) fp) c.mute ifs tt)
    (he : ∀ (s : Shared) (H : Hp) (C : Addr) (cl : List (Str × Addr)) (fp : List Addr), DE (X.blk s H scope (compEnvC scope cl C X.env) fp) c.mute elt te) (hs : ∀ x, foldedSetIterable iter X.env x = pure x := by intro _; rfl) :
    DS X c (.Assign [.Name y py] (.ListComp elt [⟨tg, iter, ifs, 0⟩] scope pos) spos) (dSet i (dComp (own.map (·.2)) ti g tt te)) := (ps_setLc (g := Lg X.K c.mute (own.map fun (x : Str × Nat) => x.2) g) (tt := Lt X.K c.mute tt) (te := Lf X.K c.mute te) hc hN hy hyl hsw hi ok hg ht he hs).imp fun W σ H ⟨ds, M, F, DD, at', ht, f⟩ =>
  lc_cold (Q := fun v H' => W.nx (σ.set i (some v)) H') ⟨ds, M, F, fun d M1 => DD.nx (ds.set i (some d)) M1, at', ht, fun d M' v H' p dj ev mo rp => f.nx _ M' _ H' p dj ev mo ((at'.sl.kp ev.kpF).set i rp)⟩
end
end DL

set_option Elab.async false
set_option linter.all false
set_option maxRecDepth 100000
set_option maxHeartbeats 4000000
namespace DL
open PySem PySem.Spec PyProof.Rows L2
/-! ### what a def promises, over data -/
abbrev DSp := List D → Mem → (D → Mem → Prop) → DX → Prop
def lsp (K : Fg) (sp : DSp) : Sp := fun vs H Q E => ∃ ds M F P PX, RpL K (mj M F) H vs ds ∧ MemOk K (mj M F) H ∧ Dj M F ∧ sp ds M P PX ∧ Fin K M F H P Q ∧ FinX K M F H PX E
def xed (K : Fg) (c : DC) : XK := fun cls d H' => ∃ fs M F, c.PX cls fs M ∧ (∀ a o, c.F0 a = some o → F a = some o) ∧ Dj M F ∧ Ev c.M0 c.H0 M H' ∧ MemOk K (mj M F) H' ∧ XdR K (mj M F) H' d fs
abbrev WD (K : Fg) (c : DC) : WX := fun cls d _ H => xed K c cls d H
theorem takes_mute {X : Cx} {K : Fg} {c : DC} : L2N.Takes X (WD K c.mute) := fun _ _ x => by
  obtain ⟨_, _, _, _, _, _, _, _, _, _, _, _, _, _, _, _, fs, M, F, z, _⟩ := x
  exact z.elim
/-- a def that stands in the text, with its promise -/
structure Cal (P : Program) (w : World) (K : Fg) (mg : Str → Option Value) (base : Heap) (k : Nat) (x : Str) (ps : List Str) (sp : DSp) : Prop where
  ex : ∃ f fd, FnOk P w K mg base (L2N.CX P w) k f fd ps (lsp K sp) ∧ mg x = some (.ref f) ∧ PySem.W.keepIn K (.ref f) = true ∧ Binds K fd ps []
def dCall (sp : DSp) (PX : DX) (t : DTA) : DTE := fun ds M P => t ds M fun xs M1 => sp xs M1 P PX
theorem finx_here {K : Fg} {c : DC} {ds : DSt} {M F : Mem} {σ : L2.St} {H : Hp} (a : At K c ds M F σ H) : FinX K M F H c.PX (xed K c) := fun cls fs M' d H' p dj ev mo xr => ⟨fs, M', F, p, a.ge, dj, a.ev.trans ev, mo, xr⟩
section
variable {X : Cx} {c : DC} {k j : Nat} {x : Str} {ps : List Str} {sp : DSp} {p pos : Pos} {e : Expr} {es : List Expr} {t : DTA}
theorem d_call (h : Cal X.prog X.w X.K X.mg X.base k x ps sp) (hr : Room j X.A) (hk : k ≤ j) (hg : Gl X x) (tk : L2N.Takes X (WD X.K c)) (ha : DA X c (e :: es) t)
    (hdb : (x == ("__debug__" : Str)) = false := by decide) (he : starEach (e :: es) X.env = (false, eval e X.env) :: starEach es X.env := by rfl) (hpl : (backTo pos (starEach es X.env)).any (·.1) = false := by rfl) :
    DE X c (.Call (.Name x p) (e :: es) [] pos) (dCall sp c.PX t) := by
  obtain ⟨f, fd, F, hm, kp, b⟩ := h.ex
  refine (pe_call F (hr.mono hk) hg hm kp b .nil (L2N.passes_call (E := xed X.K c) tk fun _ _ _ _ h => h) ha hdb he hpl).imp fun σ H Q ⟨ds, M, F, P, at', ht, fin⟩ => ?_
  exact ⟨ds, M, F, _, at', ht, fun xs M1 vs H1 q dj ev mo rp => ⟨xs, M1, F, P, c.PX, by rw [List.append_nil]; exact rp, mo, dj, q, fin.ev ev, finx_here (at'.go dj ev mo)⟩⟩
theorem d_call0 (h : Cal X.prog X.w X.K X.mg X.base k x ps sp) (hr : Room j X.A) (hk : k ≤ j) (hg : Gl X x) (tk : L2N.Takes X (WD X.K c)) (hdb : (x == ("__debug__" : Str)) = false := by decide) : DE X c (.Call (.Name x p) [] [] pos) (dCall sp c.PX dNil) := by
  obtain ⟨f, fd, F, hm, kp, b⟩ := h.ex
  refine (pe_call0 F (hr.mono hk) hg hm kp b .nil (L2N.passes_call (E := xed X.K c) tk fun _ _ _ _ h => h) hdb).imp fun σ H Q ⟨ds, M, F, P, at', ht, fin⟩ => ?_
  exact ⟨[], M, F, P, c.PX, .nil, at'.mo, at'.dj, ht, fin, finx_here at'⟩
end
/-! ### the end of a def: hot things may be let go, or stand still from now on -/
inductive Fz (P : D → Mem → Prop) : D → Mem → Prop
  | here {d : D} {M : Mem} : P d M → Fz P d M
  | drop {d : D} {M : Mem} (a : Addr) : Fz P d (mput M a none) → Fz P d M
  | frz {a : Addr} {xs : List D} {M : Mem} : M a = some (.lst xs) → Fz P (.lst xs) (mput M a none) → Fz P (.ref a) M
theorem mput_less {M F : Mem} {a : Addr} : ∀ b, mj M F b = none → mj (mput M a none) F b = none := fun b h => by
  obtain ⟨h1, h2⟩ := mj_none h
  rw [mj_r]
  · exact h2
  · by_cases e : b = a
    · subst e; rw [mput_same]
    · rw [mput_ne e]; exact h1
theorem mput_sub {M F : Mem} {a : Addr} (d : Dj M F) (hF : M a = none ∨ F a = none) : ∀ b o, mj (mput M a none) F b = some o → mj M F b = some o := fun b o h => by
  by_cases e : b = a
  · subst e
    rw [mj_r mput_same] at h
    rcases hF with z | z
    · rw [mj_r z]; exact h
    · rw [z] at h; cases h
  · unfold mj at h ⊢
    rw [mput_ne e] at h
    exact h
theorem dj_drop {M F : Mem} {a : Addr} (d : Dj M F) : Dj (mput M a none) F := ⟨fun b => by
  by_cases e : b = a
  · subst e; exact .inl mput_same
  · rw [mput_ne e]; exact d.at_ b, d.nt⟩
theorem ev_drop {M M' : Mem} {H H' : Hp} {a : Addr} (e : Ev M H M' H') : Ev M H (mput M' a none) H' := e.less fun b n => by
  by_cases z : b = a
  · subst z; rw [mput_same]
  · rw [mput_ne z]; exact n
theorem fz_fin {K : Fg} {M F : Mem} {H : Hp} {P : D → Mem → Prop} {Q : VK} (fin : Fin K M F H P Q) : Fin K M F H (Fz P) Q := by
  intro d M' v H' h
  induction h generalizing v with
  | here q => exact fun dj ev mo rp => fin _ _ v H' q dj ev mo rp
  | drop a _ ih => exact fun dj ev mo rp => ih v (dj_drop dj) (ev_drop ev) (mo.less (mput_sub dj (dj.at_ a))) (Rp.less mput_less _ rp)
  | @frz a xs M1 ha _ ih =>
    intro dj ev mo rp
    cases rp
    have fa := dj_here dj ha
    obtain ⟨vs, e1, r⟩ := mo a _ (mj_l ha)
    exact ih (.ref a) (dj_drop dj) (ev_drop ev) (mo.less (mput_sub dj (dj.at_ a))) (.lst e1 (by rw [mj_r mput_same]; exact fa) (RpL.less mput_less xs r))
def dstart (N : List Str) (ds : List D) : DSt := ds.map some ++ List.replicate (N.length - ds.length) none
theorem slr_start {K : Fg} {A : Mem} {H : Hp} {N : List Str} {vs : List V} {ds : List D} (r : RpL K A H vs ds) : SlR K A H (dstart N ds) (L2.start N vs) := by
  unfold dstart L2.start
  rw [r.length]
  refine ⟨by simp [r.length], fun i d h => ?_⟩
  by_cases hi : i < ds.length
  · rw [List.getElem?_append_left (by rw [List.length_map]; exact hi), List.getElem?_map] at h
    cases e : ds[i]? with
    | none => rw [e] at h; cases h
    | some d' =>
      rw [e] at h
      cases h
      obtain ⟨v, e2, rv⟩ := r.get e
      refine ⟨v, ?_, rv⟩
      rw [List.getElem?_append_left (by rw [List.length_map, r.length]; exact hi), List.getElem?_map, e2] <;> rfl
  · rw [List.getElem?_append_right (by rw [List.length_map]; omega), List.getElem?_replicate] at h
    split at h <;> cases h
/-- what a def's body is walked in -/
structure FCtx (X : Cx) (c : DC) (k : Nat) : Prop where
  tk : L2N.Takes X (WD X.K c)
  hp : PassesOwn (model X.prog X.w) X.A X.env X.xe
  hr : Room k X.A
def dEnds (P : D → Mem → Prop) : DEnds := { nx := fun _ M => Fz P .non M, rt := fun d M => Fz P d M }
section
variable {P : Program} {w : World} {K : Fg} {mg : Str → Option Value} {base : Heap}
/-- THE RULE for a def -/
theorem dfn {x qual : Str} {st : Stmt} {f : Addr} {fd : FuncData} {N ps : List Str} {k : Nat} {sp : DSp} {t : DX → DTS} (Fn : FunD K x qual (defArgs st) (defBody st) (defScope st) [] [] f fd) (S : FnScope N ps (defScope st)) (len : ∀ ds M P PX, sp ds M P PX → ds.length = ps.length)
    (body : ∀ (cdv : Value) (A : Around) (outer : List Env) (s : Shared) (H : Hp) (E : XK) (c : DC), FCtx (cxOf (L2N.CX P w) P w K mg base N qual (defScope st) f cdv A outer s H E) c k → DSs (cxOf (L2N.CX P w) P w K mg base N qual (defScope st) f cdv A outer s H E) c (defBody st) (t c.PX))
    (hsp : ∀ ds M P PX, sp ds M P PX → t PX (dEnds P) (dstart N ds) M) : FnOk P w K mg base (L2N.CX P w) (k + 1) f fd ps (lsp K sp) := by
  refine Fn.ok S (fun vs H Q E ⟨ds, M, F, P, PX, r, _, _, q, _⟩ => r.length.trans (len _ _ _ _ q)) (fun cdv A outer s H vs Q E hr ⟨ds, M, F, P', PX, r, mo, dj, q, fin, finx⟩ => ?_)
  have tk : L2N.Takes (cxOf (L2N.CX P w) P w K mg base N qual (defScope st) f cdv A outer s H E) (WD K ⟨M, H, F, PX⟩) :=
    (L2N.takes_of rfl rfl rfl rfl).imp fun cls d σ H' ⟨fs, M', F', px, ge, dj', ev, mo', xr⟩ => by
      have lt : ∀ a, F' a = none → F a = none := fun a n => by
        cases e : F a with
        | none => rfl
        | some o => rw [show F' a = some o from ge a o e] at n; cases n
      have sub : ∀ a o, mj M' F a = some o → mj M' F' a = some o := fun a o h => by
        cases e : M' a with
        | none =>
          rw [mj_r e] at h ⊢
          exact ge a o h
        | some u =>
          rw [mj_l e] at h ⊢
          exact h
      have les : ∀ a, mj M' F' a = none → mj M' F a = none := fun a h => by
        obtain ⟨h1, h2⟩ := mj_none h
        rw [mj_r h1]; exact lt a h2
      exact finx cls fs M' d H' px ⟨fun a => (dj'.at_ a).elim .inl fun n => .inr (lt a n), fun a T z => dj'.nt a T (ge a _ z)⟩ ev (mo'.less sub) (xr.less les)
  refine ⟨_, body cdv A outer s H E ⟨M, H, F, PX⟩ ⟨tk, passes_of rfl, hr⟩, ?_⟩
  refine ⟨dstart N ds, M, F, dEnds P', ⟨slr_start r, mo, .refl, dj, fun _ _ h => h⟩, hsp ds M P' PX q, ?_⟩
  exact ⟨fun ds' M' σ' H' p dj ev mo sl => fz_fin fin .non M' .non H' p dj ev mo .non, fz_fin fin, fun ds' M' σ' H' p => p.elim, fun ds' M' σ' H' p => p.elim⟩
end
/-- where a def stands -/
structure DefAt (K : Fg) (mg : Str → Option Value) (x : Str) (ps : List Str) (st : Stmt) : Prop where
  ex : ∃ f fd, FunD K x x (defArgs st) (defBody st) (defScope st) [] [] f fd ∧ mg x = some (.ref f) ∧ Binds K fd ps []
section
variable {P : Program} {w : World} {K : Fg} {mg : Str → Option Value} {base : Heap}
theorem dcal {x : Str} {st : Stmt} {N ps : List Str} {k : Nat} {sp : DSp} {t : DX → DTS} (d : DefAt K mg x ps st) (S : FnScope N ps (defScope st)) (len : ∀ ds M P PX, sp ds M P PX → ds.length = ps.length)
    (body : ∀ (f : Addr) (cdv : Value) (A : Around) (outer : List Env) (s : Shared) (H : Hp) (E : XK) (c : DC), FCtx (cxOf (L2N.CX P w) P w K mg base N x (defScope st) f cdv A outer s H E) c k → DSs (cxOf (L2N.CX P w) P w K mg base N x (defScope st) f cdv A outer s H E) c (defBody st) (t c.PX))
    (hsp : ∀ ds M P PX, sp ds M P PX → t PX (dEnds P) (dstart N ds) M) : Cal P w K mg base (k + 1) x ps sp := by
  obtain ⟨f, fd, F, hm, b⟩ := d.ex
  exact ⟨⟨f, fd, dfn F S len (fun cdv => body f cdv) hsp, hm, F.kp, b⟩⟩
end
/-! ### raise -/
def dRaise (PX : DX) (cls : Value) : DTS := fun _ _ M => PX cls none M
theorem d_raise {X : Cx} {c : DC} {e : Expr} {C : Addr} {pos : Pos} (hc : X.calm = true) (tk : L2N.Takes X (WD X.K c)) (he : L2N.PMk X e (fun _ H Q => Q (.ref C) none H)) : DS X c (.Raise (some e) none pos) (dRaise c.PX (.ref C)) :=
  (L2N.ps_raise hc tk he).imp fun W σ H ⟨ds, M, F, DD, at', ht, f⟩ => ⟨none, M, F, ht, at'.ge, at'.dj, at'.ev, at'.mo, trivial⟩
section
variable {X : Cx} {C : Addr} {bmB : List Value} {B newId initId : String}
theorem pmkN {x m : Str} {j : Nat} {p p2 pos : Pos} (F : ExcBaseFacts B newId initId bmB) (q : PySem.W.excIn X.K C bmB newId = true) (gC : X.mg x = some (.ref C)) (kC : PySem.W.keepIn X.K (.ref C) = true) (r : Raises X (.ref C)) (hg : Gl X x)
    (hdb : (x == ("__debug__" : Str)) = false := by decide) : L2N.PMk X (.Call (.Name x p) [.Constant (.str m) j p2] [] pos) (fun _ H Q => Q (.ref C) none H) := by
  intro pins s σ H Q I h
  refine wpAny_Call_Name_kw (ld_glob I hg gC ?_ hdb)
  have ha : PA X [.Constant (.str m) j p2] (tCons (tC (.str m)) tNil) := pa_cons pe_str pa_nil
  refine PySem.W.callWith_K (h₀ := X.base) I.ok.mod.kin kC (thn (ha.run pos pins s σ H (fun vs H1 => vs = [V.str m] ∧ H = H1) I ⟨rfl, rfl⟩) fun us s1 hh => ?_)
  obtain ⟨vs, H1, I1, r1, ev, eH⟩ := hh
  subst ev
  rw [← eH] at I1
  refine ⟨I1.kIn, ?_⟩
  match us, r1 with
  | [u], .cons ru .nil =>
    show wpAny _ _ (call (.ref C) [u]) _ _ _
    obtain ⟨bm, N, nm, qn, bs, hdct, sn, sub, ab, col, dd, k0, k1, k2, k3, k5, mN, hC, hN, hni, T⟩ := exc_obj I1.kIn q
    refine wpAny_call_exc_subT F T hC hN hni (fun h' e hm => ?_) (by show 1 ≤ sizeLine; rw [sizeLine_eq]; omega)
    exact L2N.mk_of I1 hm r h (I1.hok.gone hm.new)
end
/-- an error class of the text, made with a text alone -/
structure ErrAt (K : Fg) (mg : Str → Option Value) (x : Str) (C : Addr) : Prop where
  gC : mg x = some (.ref C)
  xC : PySem.W.excIn K C [.type "ValueError", .type "Exception", .type "BaseException", .type "object"] "ValueError.__new__" = true
  kC : PySem.W.keepIn K (.ref C) = true
  bC : PySem.W.subIn K (.ref C) (.type "BaseException") = some true
  tC : PySem.W.typeIn K (.ref C) = some (.type "type")
theorem d_raiseE {X : Cx} {c : DC} {x m : Str} {C : Addr} {j : Nat} {p p2 pos pos2 : Pos} (hc : X.calm = true) (tk : L2N.Takes X (WD X.K c)) (T : ErrAt X.K X.mg x C) (hg : Gl X x) (hdb : (x == ("__debug__" : Str)) = false := by decide) :
    DS X c (.Raise (some (.Call (.Name x p) [.Constant (.str m) j p2] [] pos)) none pos2) (dRaise c.PX (.ref C)) :=
  d_raise hc tk (pmkN PySem.F.excBase_ValueError T.xC T.gC T.kC (raises_own T.bC T.tC) hg hdb)
end DL

set_option Elab.async false
set_option linter.all false
set_option maxRecDepth 100000
set_option maxHeartbeats 4000000
namespace DL
open PySem PySem.Spec PyProof.Rows L2
theorem Fin.val {K : Fg} {M F : Mem} {H : Hp} {P : D → Mem → Prop} {Q : VK} {d : D} {v : V} (f : Fin K M F H P Q) (dj : Dj M F) (mo : MemOk K (mj M F) H) (p : P d M) (r : Rp K (mj M F) H v d) : Q v H := f d M v H p dj .refl mo r
/-! ### ints -/
def gI (f : Int → Int → D) : DO2 := fun x y M P => match x, y with | .int i, .int j => P (f i j) M | _, _ => False
def gIC (C : Int → Int → Prop) (f : Int → Int → D) : DO2 := fun x y M P => match x, y with | .int i, .int j => C i j ∧ P (f i j) M | _, _ => False
section
variable {K : Fg}
theorem op2_I {f : Int → Int → D} {g : Int → Int → V} (h : ∀ i j A H, Rp K A H (g i j) (f i j)) : Op2 K (rI0 g) (gI f) := fun M F x y v w H P Q q dj mo rx ry fin => by
  unfold gI at q
  split at q
  · cases rx; cases ry; exact ⟨_, _, rfl, rfl, fin.val dj mo q (h _ _ _ _)⟩
  · exact q.elim
theorem op2_IC {C : Int → Int → Prop} {f : Int → Int → D} {g : Int → Int → V} (h : ∀ i j A H, Rp K A H (g i j) (f i j)) : Op2 K (rI C g) (gIC C f) := fun M F x y v w H P Q q dj mo rx ry fin => by
  unfold gIC at q
  split at q
  · cases rx; cases ry; exact ⟨_, _, rfl, rfl, q.1, fin.val dj mo q.2 (h _ _ _ _)⟩
  · exact q.elim
end
section
variable {X : Cx} {c : DC} {a b e : Expr} {pos : Pos} {ta tb te : DTE}
def gMod : DO2 := gIC (fun _ j => 0 < j) fun i j => .int (i % j)
def gDiv : DO2 := gIC CDiv fun i j => .int (i / j)
def gSub : DO2 := gI fun i j => .int (i - j)
def gPow : DO2 := gIC CPow fun i j => .int (i ^ j.toNat)
theorem d_mod (ha : DE X c a ta) (hb : DE X c b tb) : DE X c (.BinOp a .Mod b pos) (dBin gMod ta tb) := d_op op_mod (op2_IC fun _ _ _ _ => .int _) ha hb
theorem d_div (ha : DE X c a ta) (hb : DE X c b tb) : DE X c (.BinOp a .FloorDiv b pos) (dBin gDiv ta tb) := d_op op_fdiv (op2_IC fun _ _ _ _ => .int _) ha hb
theorem d_sub (ha : DE X c a ta) (hb : DE X c b tb) : DE X c (.BinOp a .Sub b pos) (dBin gSub ta tb) := d_op op_sub (op2_I fun _ _ _ _ => .int _) ha hb
theorem d_pow (ha : DE X c a ta) (hb : DE X c b tb) : DE X c (.BinOp a .Pow b pos) (dBin gPow ta tb) := d_op op_pow (op2_IC fun _ _ _ _ => .int _) ha hb
def gNeg : DO1 := fun x M P => match x with | .int i => P (.int (-i)) M | _ => False
theorem d_neg (ha : DE X c a ta) : DE X c (.UnaryOp .USub a pos) (dUn gNeg ta) := d_un un_neg (fun M F x v H P Q q dj mo rx fin => by
  unfold gNeg at q
  split at q
  · cases rx; exact ⟨_, rfl, fin.val dj mo q (.int _)⟩
  · exact q.elim) ha
def gLt : DO2 := gI fun i j => .bl (decide (i < j))
def gLe : DO2 := gI fun i j => .bl (decide (i ≤ j))
def gGt : DO2 := gI fun i j => .bl (decide (j < i))
def gGe : DO2 := gI fun i j => .bl (decide (j ≤ i))
theorem og_lt {K : Fg} : Op2 K (rI0 fun i j => .bl (decide (i < j))) gLt := op2_I fun _ _ _ _ => .bl _
theorem og_le {K : Fg} : Op2 K (rI0 fun i j => .bl (decide (i ≤ j))) gLe := op2_I fun _ _ _ _ => .bl _
theorem og_gt {K : Fg} : Op2 K (rI0 fun i j => .bl (decide (j < i))) gGt := op2_I fun _ _ _ _ => .bl _
theorem og_ge {K : Fg} : Op2 K (rI0 fun i j => .bl (decide (j ≤ i))) gGe := op2_I fun _ _ _ _ => .bl _
/-- low <= x <= high -/
theorem d_chain {op op' : CmpOp} {r r' : R2} {g g' : DO2} {tc : DTE} (ho : OpR X (compareOp op) r) (ho' : OpR X (compareOp op') r') (hg : Op2 X.K r g) (hg' : Op2 X.K r' g') (ha : DE X c a ta) (hb : DE X c b tb) (he : DE X c e tc)
    (k : PE X a (Lf X.K c ta) → PE X b (Lf X.K c tb) → PE X e (Lf X.K c tc) → PE X (.Compare a [op, op'] [b, e] pos) (tChain r r' (Lf X.K c ta) (Lf X.K c tb) (Lf X.K c tc))) : DE X c (.Compare a [op, op'] [b, e] pos) (dChain g g' ta tb tc) :=
  (k ha hb he).imp fun σ H Q ⟨ds, M, F, P, at', ht, fin⟩ =>
    ⟨ds, M, F, _, at', ht, fun x M1 v H1 p dj ev mo rp => ⟨ds, M1, F, _, at'.go dj ev mo, p, fun y M2 w H2 p2 dj2 ev2 mo2 rp2 =>
      hg M2 F x y v w H2 _ _ p2 dj2 mo2 (Rp.ev ev2 x rp) rp2 fun z M3 u H3 p3 dj3 ev3 mo3 rp3 => by
        cases z with
        | bl k =>
          cases rp3
          refine ⟨k, rfl, ?_⟩
          have e3 := ev.trans (ev2.trans ev3)
          have at3 := at'.go dj3 e3 mo3
          cases k with
          | false => exact fin (.bl false) M3 (.bl false) H3 (p3.2 rfl) dj3 e3 mo3 (.bl false)
          | true => exact ⟨ds, M3, F, _, at3, p3.1 rfl, fun z2 M4 u2 H4 p4 dj4 ev4 mo4 rp4 => hg' M4 F y z2 w u2 H4 P _ p4 dj4 mo4 (Rp.ev ev4 y (Rp.ev ev3 y rp2)) rp4 (fin.ev (e3.trans ev4))⟩
        | _ => exact p3.elim⟩⟩
end
/-! ### data as the library has them -/
mutual
def py : D → PyData
  | .non => .none
  | .bl b => .bool b
  | .int i => .int i
  | .str x => .str x
  | .tup xs => .tuple (pyL xs)
  | .lst xs => .list (pyL xs)
  | .ref _ => .none
  | .ty _ => .none
def pyL : List D → List PyData
  | [] => []
  | d :: r => py d :: pyL r
end
theorem pyL_map : ∀ xs : List D, pyL xs = xs.map py
  | [] => rfl
  | d :: r => by rw [pyL, pyL_map r, List.map_cons]
/-- plain data, at most n deep -/
def dkn : Nat → D → Bool
  | _, .non => true
  | _, .bl _ => true
  | _, .int _ => true
  | _, .str x => PySem.PyData.strOk x
  | 0, .tup _ => false
  | 0, .lst _ => false
  | n + 1, .tup xs => xs.all (dkn n)
  | n + 1, .lst xs => xs.all (dkn n)
  | _, .ref _ => false
  | _, .ty _ => false
theorem dkn_fit : ∀ (n : Nat) (d : D), dkn n d = true → (py d).canLay0 = true ∧ (py d).depth ≤ n
  | _, .non, _ => ⟨by simp [py, PyData.canLay0], by simp [py, PyData.depth]⟩
  | _, .bl _, _ => ⟨by simp [py, PyData.canLay0], by simp [py, PyData.depth]⟩
  | _, .int _, _ => ⟨by simp [py, PyData.canLay0], by simp [py, PyData.depth]⟩
  | n, .str x, h => ⟨by
      cases n <;> (simp only [dkn] at h; simp [py, PyData.canLay0, h]), by simp [py, PyData.depth]⟩
  | 0, .tup _, h => by simp [dkn] at h
  | 0, .lst _, h => by simp [dkn] at h
  | n + 1, .tup xs, h => by
    have h' : ∀ x ∈ xs, dkn n x = true := by simpa [dkn] using h
    have z : PyData.canLayAll0 (pyL xs) = true ∧ PyData.depthAll (pyL xs) ≤ n := by
      clear h
      induction xs with
      | nil => exact ⟨by simp [pyL, PyData.canLayAll0], by simp [pyL, PyData.depthAll]⟩
      | cons x r ih =>
        obtain ⟨i1, i2⟩ := ih fun y hy => h' y (List.mem_cons_of_mem _ hy)
        obtain ⟨j1, j2⟩ := dkn_fit n x (h' x List.mem_cons_self)
        exact ⟨by simp [pyL, PyData.canLayAll0, i1, j1], by simp only [pyL, PyData.depthAll]; omega⟩
    exact ⟨by simp only [py, PyData.canLay0]; exact z.1, by simp only [py, PyData.depth]; omega⟩
  | n + 1, .lst xs, h => by
    have h' : ∀ x ∈ xs, dkn n x = true := by simpa [dkn] using h
    have z : PyData.canLayAll0 (pyL xs) = true ∧ PyData.depthAll (pyL xs) ≤ n := by
      clear h
      induction xs with
      | nil => exact ⟨by simp [pyL, PyData.canLayAll0], by simp [pyL, PyData.depthAll]⟩
      | cons x r ih =>
        obtain ⟨i1, i2⟩ := ih fun y hy => h' y (List.mem_cons_of_mem _ hy)
        obtain ⟨j1, j2⟩ := dkn_fit n x (h' x List.mem_cons_self)
        exact ⟨by simp [pyL, PyData.canLayAll0, i1, j1], by simp only [pyL, PyData.depthAll]; omega⟩
    exact ⟨by simp only [py, PyData.canLay0]; exact z.1, by simp only [py, PyData.depth]; omega⟩
  | n, .ref _, h => by cases n <;> simp [dkn] at h
  | n, .ty _, h => by cases n <;> simp [dkn] at h
theorem dkn_shaped {d : D} (h : dkn 64 d = true) : SeqAt.shaped (py d) = true := by
  obtain ⟨h1, h2⟩ := dkn_fit 64 d h
  unfold SeqAt.shaped
  rw [h1, decide_eq_true h2] <;> rfl
theorem dpAll_of {K : Fg} {A : Mem} {H : Hp} : ∀ {xs : List D} {vs : List V}, (∀ x ∈ xs, ∀ v, Rp K A H v x → Dp K H v (py x)) → RpL K A H vs xs → DpAll K H vs (pyL xs)
  | [], [], _, .nil => .nil
  | x :: r, _, h, .cons h1 h2 => .cons (h x List.mem_cons_self _ h1) (dpAll_of (fun y hy => h y (List.mem_cons_of_mem _ hy)) h2)
theorem dkn_dp {K : Fg} {A : Mem} {H : Hp} : ∀ (n : Nat) (d : D) {v : V}, dkn n d = true → Rp K A H v d → Dp K H v (py d)
  | _, .non, _, _, r => by cases r; exact .non
  | _, .bl _, _, _, r => by cases r; exact .bl _
  | _, .int _, _, _, r => by cases r; exact .int _
  | _, .str _, _, _, r => by cases r; exact .str _
  | 0, .tup _, _, h, _ => by simp [dkn] at h
  | 0, .lst _, _, h, _ => by simp [dkn] at h
  | n + 1, .tup xs, _, h, r => by
    have h' : ∀ x ∈ xs, dkn n x = true := by simpa [dkn] using h
    cases r with
    | tup hs hl => exact .tup hs (dpAll_of (fun x hx v rv => dkn_dp n x (h' x hx) rv) hl)
  | n + 1, .lst xs, _, h, r => by
    have h' : ∀ x ∈ xs, dkn n x = true := by simpa [dkn] using h
    cases r with
    | lst hs hn hl => exact .lst (.of hs) (dpAll_of (fun x hx v rv => dkn_dp n x (h' x hx) rv) hl)
  | n, .ref _, _, h, _ => by cases n <;> simp [dkn] at h
  | n, .ty _, _, h, _ => by cases n <;> simp [dkn] at h
/-- == of data -/
abbrev dq (x y : D) : Bool := PyData.eqv (py x) (py y)
def gEq : DO2 := fun x y M P => (dkn 64 x = true ∧ dkn 64 y = true) ∧ P (.bl (dq x y)) M
def gNe : DO2 := fun x y M P => (dkn 64 x = true ∧ dkn 64 y = true) ∧ P (.bl (!dq x y)) M
theorem og_eq {K : Fg} : Op2 K (rEqD K) gEq := fun M F x y v w H P Q ⟨⟨h1, h2⟩, q⟩ dj mo rx ry fin => ⟨_, _, dkn_dp 64 x h1 rx, dkn_dp 64 y h2 ry, dkn_shaped h1, dkn_shaped h2, fin.val dj mo q (.bl _)⟩
theorem og_ne {K : Fg} : Op2 K (rNeD K) gNe := fun M F x y v w H P Q ⟨⟨h1, h2⟩, q⟩ dj mo rx ry fin => ⟨_, _, dkn_dp 64 x h1 rx, dkn_dp 64 y h2 ry, dkn_shaped h1, dkn_shaped h2, fin.val dj mo q (.bl _)⟩
/-- x is None -/
def dIsN : D → Bool
  | .non => true
  | _ => false
theorem dIsN_of {K : Fg} {A : Mem} {H : Hp} {d : D} {v : V} (r : Rp K A H v d) : decide (v = .non) = dIsN d := by
  cases r <;> simp [dIsN]
def gIsN : DO2 := fun x y M P => match y with | .non => P (.bl (dIsN x)) M | _ => False
def gNotN : DO2 := fun x y M P => match y with | .non => P (.bl (!dIsN x)) M | _ => False
theorem og_isN {K : Fg} : Op2 K (fun x y H Q => y = .non ∧ Q (.bl (decide (x = .non))) H) gIsN := fun M F x y v w H P Q q dj mo rx ry fin => by
  unfold gIsN at q
  split at q
  · cases ry; refine ⟨rfl, ?_⟩; rw [dIsN_of rx]; exact fin.val dj mo q (.bl _)
  · exact q.elim
theorem og_notN {K : Fg} : Op2 K (fun x y H Q => y = .non ∧ Q (.bl (!decide (x = .non))) H) gNotN := fun M F x y v w H P Q q dj mo rx ry fin => by
  unfold gNotN at q
  split at q
  · cases ry; refine ⟨rfl, ?_⟩; rw [dIsN_of rx]; exact fin.val dj mo q (.bl _)
  · exact q.elim
/-! ### + -/
/-- two lists, wherever they may be read -/
def rCatS : R2 := fun x y H Q => ∃ l b xs zs, x = .ref l ∧ y = .ref b ∧ Rd H l (.lst xs) ∧ Rd H b (.lst zs) ∧ xs.length + zs.length ≤ sizeLine ∧ ∀ p, H p = none → Q (.ref p) (upd H p (.lst (xs ++ zs)))
theorem op_catS {X : Cx} : OpR X (binaryOp .Add) rCatS := fun pins s σ H x y v u Q I rx ry ⟨l, b, xs, zs, e1, e2, hl, hb, hz, q⟩ => by
  subst e1 e2
  cases rx
  cases ry
  obtain ⟨_, its, n, r, ho⟩ := hl.ok I.hok
  obtain ⟨_, its2, n2, r2, ho2⟩ := hb.ok I.hok
  have z : its.toArray.size + its2.toArray.size ≤ sizeLine := by rw [List.size_toArray, List.size_toArray, ← r.length, ← r2.length]; exact hz
  refine PySem.P.add_list ho ho2 ?_ z
  rw [show its.toArray ++ its2.toArray = (its ++ its2).toArray from by simp]
  exact ⟨.ref _, _, I.lnew (t' := s.toks) (r.append r2) (by rw [List.length_append]; exact hz), rfl, q _ I.fresh⟩
def gAdd : DO2 := fun x y M P => match x, y with
  | .int i, .int j => P (.int (i + j)) M
  | .str i, .str j => i.length + j.length ≤ sizeLine ∧ P (.str (i ++ j)) M
  | .lst xs, .lst ys => xs.length + ys.length ≤ sizeLine ∧ P (.lst (xs ++ ys)) M
  | .tup xs, .tup ys => xs.length + ys.length ≤ sizeLine ∧ P (.tup (xs ++ ys)) M
  | _, _ => False
def rAddS : R2 := fun x y H Q => ∃ i j, x = .str i ∧ y = .str j ∧ i.length + j.length ≤ sizeLine ∧ Q (.str (i ++ j)) H
def rAddA (K : Fg) : R2 := fun x y H Q => rI0 (fun i j => .int (i + j)) x y H Q ∨ rAddS x y H Q ∨ rCatS x y H Q ∨ rCatA K x y H Q
theorem op_addA {X : Cx} : OpR X (binaryOp .Add) (rAddA X.K) := op_add.or (OpR.or (r := rAddS) op_add_str (op_catS.or op_catA))
theorem og_add {K : Fg} : Op2 K (rAddA K) gAdd := fun M F x y v w H P Q q dj mo rx ry fin => by
  unfold gAdd at q
  split at q
  · cases rx; cases ry; exact .inl ⟨_, _, rfl, rfl, fin.val dj mo q (.int _)⟩
  · cases rx; cases ry; exact .inr (.inl ⟨_, _, rfl, rfl, q.1, fin.val dj mo q.2 (.str _)⟩)
  · cases rx with
    | lst hs hn hl =>
      cases ry with
      | lst hs2 hn2 hl2 => exact .inr (.inr (.inl ⟨_, _, _, _, rfl, rfl, .inl hs, .inl hs2, by rw [hl.length, hl2.length]; exact q.1, fin_lst fin dj mo (hl.append hl2) q.2⟩))
  · cases rx with
    | tup hs hl =>
      cases ry with
      | tup hs2 hl2 =>
        refine .inr (.inr (.inr ⟨_, _, _, _, rfl, rfl, hs, hs2, by rw [hl.length, hl2.length]; exact q.1, fun e => ?_, fun _ e => ?_, fun _ _ => fin_tup fin dj mo (hl.append hl2) q.2⟩))
        · subst e
          cases hl
          exact fin.val dj mo q.2 (.tup hs2 hl2)
        · subst e
          cases hl2
          refine fin.val dj mo q.2 (.tup hs ?_)
          rw [List.append_nil]; exact hl
  · exact q.elim
section
variable {X : Cx} {c : DC} {a b e : Expr} {pos : Pos} {ta tb te : DTE}
theorem d_add (ha : DE X c a ta) (hb : DE X c b tb) : DE X c (.BinOp a .Add b pos) (dBin gAdd ta tb) := d_op op_addA og_add ha hb
/-! ### places -/
theorem atI_rp {K : Fg} {A : Mem} {H : Hp} {vs : List V} {xs : List D} {i : Int} {d : D} (r : RpL K A H vs xs) (h : atI xs i = some d) : ∃ v, atI vs i = some v ∧ Rp K A H v d := by
  unfold atI at h ⊢
  rw [r.length]
  cases e : ixN xs.length i with
  | none => rw [e] at h; cases h
  | some j =>
    rw [e] at h
    exact r.get h
def gIx : DO2 := fun x y M P => match x, y with
  | .lst xs, .int i => (match atI xs i with | some d => P d M | none => False)
  | .tup xs, .int i => (match atI xs i with | some d => P d M | none => False)
  | .str z, .int i => z.length ≤ sizeLine ∧ (match atI z.cps.toList i with | some d => P (.str ⟨#[d]⟩) M | none => False)
  | .ref a, .int i => (match M a with | some (.lst xs) => (match atI xs i with | some d => P d M | none => False) | _ => False)
  | _, _ => False
theorem og_ix {K : Fg} : Op2 K (rIx K) gIx := fun M F x y v w H P Q q dj mo rx ry fin => by
  unfold gIx at q
  split at q
  · split at q
    · rename_i e
      cases rx with
      | lst hs hn hl =>
        cases ry
        obtain ⟨u, e2, ru⟩ := atI_rp hl e
        exact .inl ⟨_, _, _, _, rfl, rfl, .of hs, e2, fin.val dj mo q ru⟩
    · exact q.elim
  · split at q
    · rename_i e
      cases rx with
      | tup hs hl =>
        cases ry
        obtain ⟨u, e2, ru⟩ := atI_rp hl e
        exact .inr (.inl ⟨_, _, _, _, rfl, rfl, hs, e2, fin.val dj mo q ru⟩)
    · exact q.elim
  · obtain ⟨hz, q⟩ := q
    split at q
    · rename_i e
      cases rx
      cases ry
      exact .inr (.inr ⟨_, _, _, rfl, rfl, hz, e, fin.val dj mo q (.str _)⟩)
    · exact q.elim
  · split at q
    · rename_i hM
      split at q
      · rename_i e
        cases rx
        cases ry
        obtain ⟨vs, e1, r⟩ := mo _ _ (mj_l hM)
        obtain ⟨u, e2, ru⟩ := atI_rp r e
        exact .inl ⟨_, _, _, _, rfl, rfl, .of e1, e2, fin.val dj mo q ru⟩
      · exact q.elim
    · exact q.elim
  · exact q.elim
theorem d_index (ha : DE X c a ta) (hb : DE X c b tb) (hs : PlainIx b) : DE X c (.Subscript a b pos) (dBin gIx ta tb) := d_ix ix_seq og_ix ha hb hs
end
/-! ### built-in functions by name -/
section
variable {X : Cx} {c : DC} {x : Str} {p pos : Pos} {e : Expr} {es : List Expr} {t : DTA} {id T : String} {r : List V → Hp → VK → Prop} {g : DOL}
theorem d_fn (hc : CallR X (.builtin id) r) (hr : OpL X.K r g) (hg : Gl X x) (hm : X.mg x = none) (hv : bootBuiltins x = some (.builtin id)) (ha : DA X c (e :: es) t) (hn : x ≠ "__name__" := by decide) (hdb : (x == ("__debug__" : Str)) = false := by decide)
    (he : starEach (e :: es) X.env = (false, eval e X.env) :: starEach es X.env := by rfl) (hpl : (backTo pos (starEach es X.env)).any (·.1) = false := by rfl) : DE X c (.Call (.Name x p) (e :: es) [] pos) (dApp g t) :=
  (pe_callB hc hg hm hv ha hn hdb he hpl).imp fun _ _ _ => lf_app hr
theorem d_fty (hc : CallR X (.type T) r) (hr : OpL X.K r g) (hg : Gl X x) (hm : X.mg x = none) (hv : bootBuiltins x = some (.type T)) (ha : DA X c (e :: es) t) (hn : x ≠ "__name__" := by decide) (hdb : (x == ("__debug__" : Str)) = false := by decide)
    (he : starEach (e :: es) X.env = (false, eval e X.env) :: starEach es X.env := by rfl) (hpl : (backTo pos (starEach es X.env)).any (·.1) = false := by rfl) : DE X c (.Call (.Name x p) (e :: es) [] pos) (dApp g t) :=
  (pe_callTy hc hg hm hv ha hn hdb he hpl).imp fun _ _ _ => lf_app hr
end
def gLen : DOL := fun xs M P => match xs with
  | [.lst ys] => P (.int ys.length) M
  | [.tup ys] => P (.int ys.length) M
  | [.str z] => z.length ≤ sizeLine ∧ P (.int z.length) M
  | [.ref a] => (match M a with | some (.lst ys) => P (.int ys.length) M | _ => False)
  | _ => False
theorem ol_len {K : Fg} : OpL K (fun xs H Q => ∃ x n, xs = [x] ∧ LenV K x H n ∧ Q (.int n) H) gLen := fun M F xs vs H P Q q dj mo rs fin => by
  unfold gLen at q
  split at q
  · match vs, rs with
    | [_], .cons (.lst hs hn hl) .nil => exact ⟨_, _, rfl, .inl ⟨_, .of hs, hl.length.symm⟩, fin.val dj mo q (.int _)⟩
  · match vs, rs with
    | [_], .cons (.tup hs hl) .nil => exact ⟨_, _, rfl, .inr ⟨_, hs, hl.length.symm⟩, fin.val dj mo q (.int _)⟩
  · match vs, rs with
    | [_], .cons (.str z) .nil => exact ⟨_, _, rfl, ⟨q.1, rfl⟩, fin.val dj mo q.2 (.int _)⟩
  · split at q
    · rename_i hM
      match vs, rs with
      | [_], .cons (.ref a) .nil =>
        obtain ⟨ws, e1, r⟩ := mo _ _ (mj_l hM)
        exact ⟨_, _, rfl, .inl ⟨_, .of e1, r.length.symm⟩, fin.val dj mo q (.int _)⟩
    · exact q.elim
  · exact q.elim
/-- of what kind -/
def isiB (n : String) : D → Bool
  | .bl _ => n == "bool" || n == "int"
  | .int _ => n == "int"
  | .str _ => n == "str"
  | .tup _ => n == "tuple"
  | .lst _ => n == "list"
  | _ => false
def isiN (n : String) : Bool := ["int", "bool", "str", "tuple", "list"].contains n
def gIsi : DOL := fun xs M P => match xs with
  | [.ref _, _] => False
  | [.ty _, _] => False
  | [x, .ty n] => isiN n = true ∧ P (.bl (isiB n x)) M
  | _ => False
theorem isi_tab : ∀ n, isiN n = true → kitB "NoneType" n = some false ∧ kitB "bool" n = some (n == "bool" || n == "int") ∧ kitB "int" n = some (n == "int") ∧ kitB "str" n = some (n == "str") ∧ kitB "tuple" n = some (n == "tuple") ∧ kitB "list" n = some (n == "list") := fun n h => by
  have e : n = "int" ∨ n = "bool" ∨ n = "str" ∨ n = "tuple" ∨ n = "list" := by simpa [isiN] using h
  rcases e with rfl | rfl | rfl | rfl | rfl <;> exact ⟨by decide +kernel, by decide +kernel, by decide +kernel, by decide +kernel, by decide +kernel, by decide +kernel⟩
end DL

set_option Elab.async false
set_option linter.all false
set_option maxRecDepth 100000
set_option maxHeartbeats 4000000
namespace DL
open PySem PySem.Spec PyProof.Rows L2
/-! ### isinstance -/
theorem rp_ty {K : Fg} {A : Mem} {H : Hp} {x : D} {v : V} (r : Rp K A H v x) (n1 : ∀ a, x ≠ .ref a) (n2 : ∀ n, x ≠ .ty n) : ∃ t : String, TyX K H v (.type t) ∧ ∀ n, isiN n = true → kitB t n = some (isiB n x) := by
  cases r with
  | non => exact ⟨"NoneType", .base .non, fun n h => (isi_tab n h).1⟩
  | bl b => exact ⟨"bool", .base (.bl b), fun n h => (isi_tab n h).2.1⟩
  | int i => exact ⟨"int", .base (.int i), fun n h => (isi_tab n h).2.2.1⟩
  | str z => exact ⟨"str", .base (.str z), fun n h => (isi_tab n h).2.2.2.1⟩
  | ty n => exact absurd rfl (n2 n)
  | ref a => exact absurd rfl (n1 a)
  | tup hs hl =>
    refine ⟨"tuple", ?_, fun n h => (isi_tab n h).2.2.2.2.1⟩
    rcases hs with (h | ⟨o, h⟩) | ⟨o, its, n, e, c, _⟩
    · exact .base (.tup h)
    · exact .fTuple h
    · exact .kTuple e c
  | lst hs hn hl =>
    exact ⟨"list", .base (.lst hs), fun n h => (isi_tab n h).2.2.2.2.2⟩
theorem ol_isi {K : Fg} : OpL K (rIsi K) gIsi := fun M F xs vs H P Q q dj mo rs fin => by
  unfold gIsi at q
  split at q
  · exact q.elim
  · exact q.elim
  · rename_i x n n1 n2
    match vs, rs with
    | [_, _], .cons rx (.cons (.ty _) .nil) =>
      obtain ⟨t, h1, h2⟩ := rp_ty rx (fun a e => n1 a e) (fun m e => n2 m e)
      exact ⟨_, _, _, _, _, rfl, .ty n, h1, kit_ty (h2 n q.1), fin.val dj mo q.2 (.bl _)⟩
  · exact q.elim
/-! ### walks -/
/-- what a list, a tuple, a text gives -/
def iSeq (K : Fg) (te : TE) : TI := fun σ H R => te σ H fun x H1 => (∃ a xs, x = .ref a ∧ SqL K H1 a xs ∧ R (Itl K a) H1) ∨ (∃ a xs, x = .ref a ∧ SqT K H1 a xs ∧ R (Itt K a) H1) ∨ ∃ z, x = .str z ∧ R (Its z) H1
theorem pi_seq {X : Cx} {tg l : Expr} {tl : TE} (hl : PE X l tl) : PI X tg l (iSeq X.K tl) := ⟨fun pins s σ H R I h => by
  refine thn (hl.run pins s σ H _ I h) fun v s1 ⟨x, H1, I1, r1, q1⟩ => ?_
  have fp : ∀ b ∈ [s1.heap.objs.size], FpOk X pins H1 b := fun b hb => by
    rw [List.mem_singleton.mp hb]
    exact I1.fpOk (Nat.le_refl _) (I1.hok.fresh (Nat.le_refl _))
  rcases q1 with ⟨a, xs, rfl, hq, q⟩ | ⟨a, xs, rfl, hq, q⟩ | ⟨z, rfl, q⟩
  · cases r1
    obtain ⟨its, _, p, _⟩ := I1.list hq
    exact wpAny_pyIter_list p.isList ⟨_, _, _, _, H1, rfl, I1.kept (t' := s1.toks) fun b o e => Heap.get?_push_of_some _ e, turn_list a s1.heap.objs.size, ⟨_, Heap.get?_push_size _ rfl, rfl, rfl⟩, fp, q⟩
  · cases r1
    obtain ⟨its, _, p, _⟩ := I1.tuple hq
    exact wpAny_pyIter_tuple (show s1.heap.IsTuple a its.toArray from p) ⟨_, _, _, _, H1, rfl, I1.kept (t' := s1.toks) fun b o e => Heap.get?_push_of_some _ e, turn_tuple a s1.heap.objs.size, ⟨_, Heap.get?_push_size _ rfl, rfl, rfl⟩, fp, q⟩
  · obtain ⟨t, rfl⟩ := r1
    cases hw : z.cps.all (· < 128) with
    | false => exact wpAny_pyIter_wide hw (pi_one (tk := s1.toks) I1 _ (turn_str _ z t _ (.inr rfl)) ⟨_, Heap.get?_push_size _ rfl, rfl, rfl⟩ q)
    | true => exact wpAny_pyIter_ascii hw (pi_one (tk := s1.toks) I1 _ (turn_str _ z t _ (.inl rfl)) ⟨_, Heap.get?_push_size _ rfl, rfl, rfl⟩ q)⟩
/-- the signs of a text -/
def signs (z : Str) : List D := z.cps.toList.map fun c => D.str ⟨#[c]⟩
def seqD : D → Option (List D)
  | .lst xs => some xs
  | .tup xs => some xs
  | .str z => some (signs z)
  | _ => none
def dIter (te : DTE) : DTI := fun ds M P => te ds M fun d M1 => match seqD d with | some xs => P xs M1 | none => False
theorem walkL {K : Fg} {A : Mem} {H : Hp} {a : Addr} {vs : List V} {ds : List D} (hs : H a = some (.lst vs)) (hn : A a = none) (hl : RpL K A H vs ds) : DWalk K (Itl K a) ds A H := fun A1 H1 kp mo => by
  have q : SqL K H1 a vs := .of (kp.lst a vs hs hn).1
  have r := RpL.kp kp ds hl
  have w := walk_list (K := K) (a := a) (xs := vs)
  refine ⟨fun i hi => w.goes i H1 (by rw [hl.length]; exact hi) q, by rw [← hl.length]; exact w.stops H1 q, fun i x H2 d hd y => ?_⟩
  obtain ⟨v, e1, rv⟩ := r.get hd
  obtain ⟨e2, e3⟩ := y
  subst e2
  rw [e3 vs q] at e1
  cases e1
  exact ⟨.refl, mo, rv, fun _ _ h => h⟩
theorem walkT {K : Fg} {A : Mem} {H : Hp} {a : Addr} {vs : List V} {ds : List D} (hs : SqT K H a vs) (hl : RpL K A H vs ds) : DWalk K (Itt K a) ds A H := fun A1 H1 kp mo => by
  have q : SqT K H1 a vs := kp.sqT hs
  have r := RpL.kp kp ds hl
  have w := walk_tup (K := K) (a := a) (xs := vs)
  refine ⟨fun i hi => w.goes i H1 (by rw [hl.length]; exact hi) q, by rw [← hl.length]; exact w.stops H1 q, fun i x H2 d hd y => ?_⟩
  obtain ⟨v, e1, rv⟩ := r.get hd
  obtain ⟨e2, e3⟩ := y
  subst e2
  rw [e3 vs q] at e1
  cases e1
  exact ⟨.refl, mo, rv, fun _ _ h => h⟩
theorem walkS {K : Fg} {A : Mem} {H : Hp} {z : Str} : DWalk K (Its z) (signs z) A H := fun A1 H1 kp mo => by
  have len : (signs z).length = z.cps.size := by unfold signs; simp
  refine ⟨fun i hi => by rw [len] at hi; exact hi, by rw [len]; exact Nat.le_refl _, fun i x H2 d hd y => ?_⟩
  obtain ⟨e2, c, e3, e4⟩ := y
  subst e2 e4
  unfold signs at hd
  rw [List.getElem?_map, Array.getElem?_toList, e3] at hd
  cases hd
  exact ⟨.refl, mo, .str _, fun _ _ h => h⟩
section
variable {X : Cx} {c : DC} {tg e : Expr} {te : DTE} {pos p : Pos}
theorem d_iter (he : DE X c e te) : DI X c tg e (dIter te) := (pi_seq he).imp fun σ H R ⟨ds, M, F, P, at', ht, fin⟩ =>
  ⟨ds, M, F, _, at', ht, fun d M1 v H1 q dj ev mo rp => by
    cases rp with
    | lst hs hn hl => exact .inl ⟨_, _, rfl, .of hs, fin _ M1 H1 _ q dj ev mo (walkL hs hn hl)⟩
    | tup hs hl => exact .inr (.inl ⟨_, _, rfl, hs, fin _ M1 H1 _ q dj ev mo (walkT hs hl)⟩)
    | str z => exact .inr (.inr ⟨_, rfl, fin _ M1 H1 _ q dj ev mo walkS⟩)
    | non => exact q.elim
    | bl b => exact q.elim
    | int i => exact q.elim
    | ty n => exact q.elim
    | ref a => exact q.elim⟩
/-- lo, lo + 1, .. -/
def upto (lo : Int) (n : Nat) : List D := (List.range n).map fun i => D.int (lo + (i : Nat))
theorem walkR {K : Fg} {A : Mem} {H : Hp} {lo : Int} {n : Nat} : DWalk K (Itr lo n) (upto lo n) A H := fun A1 H1 kp mo => by
  have len : (upto lo n).length = n := by unfold upto; simp
  refine ⟨fun i hi => by rw [len] at hi; exact hi, by rw [len]; exact Nat.le_refl _, fun i x H2 d hd y => ?_⟩
  obtain ⟨e2, e3⟩ := y
  subst e2 e3
  unfold upto at hd
  rw [List.getElem?_map] at hd
  cases q : (List.range n)[i]? with
  | none => rw [q] at hd; cases hd
  | some j =>
    rw [q] at hd
    obtain ⟨h1, h2⟩ := List.getElem?_eq_some_iff.mp q
    rw [List.getElem_range] at h2
    subst h2
    cases hd
    exact ⟨.refl, mo, .int _, fun _ _ h => h⟩
def dRng1 (ta : DTA) : DTI := fun ds M P => ta ds M fun xs M1 => match xs with | [.int j] => (-(2 ^ 62) ≤ j ∧ j < 2 ^ 62) ∧ P (upto 0 j.toNat) M1 | _ => False
def dRng2 (ta : DTA) : DTI := fun ds M P => ta ds M fun xs M1 => match xs with | [.int i, .int j] => (-(2 ^ 62) ≤ i ∧ i < 2 ^ 62 ∧ -(2 ^ 62) ≤ j ∧ j < 2 ^ 62) ∧ P (upto i (j - i).toNat) M1 | _ => False
theorem d_rng1 {ta : DTA} (hg : Gl X "range") (hm : X.mg "range" = none) (ha : DA X c [e] ta) (hs : starEach [e] X.env = [(false, eval e X.env)] := by rfl) : DI X c tg (.Call (.Name "range" p) [e] [] pos) (dRng1 ta) :=
  (pi_range1 hg hm ha hs).imp fun σ H R ⟨ds, M, F, P, at', ht, fin⟩ => ⟨ds, M, F, _, at', ht, fun xs M1 vs H1 q dj ev mo rp => by
    split at q
    · match vs, rp with
      | [_], .cons (.int j) .nil => exact ⟨_, rfl, q.1.1, q.1.2, fin _ M1 H1 _ q.2 dj ev mo walkR⟩
    · exact q.elim⟩
theorem d_rng2 {e2 : Expr} {ta : DTA} (hg : Gl X "range") (hm : X.mg "range" = none) (ha : DA X c [e, e2] ta) (hs : starEach [e, e2] X.env = [(false, eval e X.env), (false, eval e2 X.env)] := by rfl) (hs2 : starEach [e2] X.env = [(false, eval e2 X.env)] := by rfl) : DI X c tg (.Call (.Name "range" p) [e, e2] [] pos) (dRng2 ta) :=
  (pi_range2 hg hm ha hs hs2).imp fun σ H R ⟨ds, M, F, P, at', ht, fin⟩ => ⟨ds, M, F, _, at', ht, fun xs M1 vs H1 q dj ev mo rp => by
    split at q
    · match vs, rp with
      | [_, _], .cons (.int i) (.cons (.int j) .nil) => exact ⟨_, _, rfl, q.1, fin _ M1 H1 _ q.2 dj ev mo walkR⟩
    · exact q.elim⟩
/-! zip -/
def zipD (xs ys : List D) : List D := List.zipWith (fun x y => D.tup [x, y]) xs ys
def dZip (ta : DTA) : DTI := fun ds M P => ta ds M fun zs M1 => match zs with
  | [.tup xs, .tup ys] => P (zipD xs ys) M1
  | [.lst xs, .lst ys] => P (zipD xs ys) M1
  | _ => False
theorem zip_yield {K : Fg} {A : Mem} {H : Hp} {vs ws : List V} {xs ys : List D} {i : Nat} {d : D} {T : Addr} {x y : V} (hx : RpL K A H vs xs) (hy : RpL K A H ws ys) (mo : MemOk K A H) (n : H T = none) (h1 : vs[i]? = some x) (h2 : ws[i]? = some y) (hd : (zipD xs ys)[i]? = some d) :
    Ev A H A (upd H T (.tup [x, y])) ∧ MemOk K A (upd H T (.tup [x, y])) ∧ Rp K A (upd H T (.tup [x, y])) (.ref T) d ∧ ∀ b o, H b = some o → upd H T (.tup [x, y]) b = some o := by
  unfold zipD at hd
  rw [List.getElem?_zipWith] at hd
  obtain ⟨dx, e1, r1⟩ := hx.getV h1
  obtain ⟨dy, e2, r2⟩ := hy.getV h2
  rw [e1, e2] at hd
  cases hd
  exact ⟨Ev.new n, mo.new n, .tup (.of upd_same) (RpL.kp (Ev.new n).kp [dx, dy] (.cons r1 (.cons r2 .nil))), (fun b o h => by rw [upd_ne (ne_of_none h n)]; exact h)⟩
theorem zipD_len {xs ys : List D} {vs ws : List V} {K : Fg} {A : Mem} {H : Hp} (hx : RpL K A H vs xs) (hy : RpL K A H ws ys) : (zipD xs ys).length = min vs.length ws.length := by
  unfold zipD
  rw [List.length_zipWith, hx.length, hy.length]
theorem d_zip {e2 : Expr} {ta : DTA} {elts : List Expr} {kk : Nat} {tpos : Pos} (hg : Gl X "zip") (hm : X.mg "zip" = none) (ha : DA X c [e, e2] ta) (hs : starEach [e, e2] X.env = (false, eval e X.env) :: starEach [e2] X.env := by rfl) (hpl : (backTo pos (starEach [e2] X.env)).any (·.1) = false := by rfl) :
    DI X c (.Tuple elts kk tpos) (.Call (.Name "zip" p) [e, e2] [] pos) (dZip ta) := (RZ.pi_zipA hg hm ha hs hpl).imp fun σ H R ⟨ds, M, F, P, at', ht, fin⟩ => ⟨ds, M, F, _, at', ht, fun zs M1 vs H1 q dj ev mo rp => by
    split at q
    · match vs, rp with
      | [_, _], .cons (.tup hs hl) (.cons (.tup hs2 hl2) .nil) =>
        refine ⟨_, _, _, _, rfl, .inr ⟨hs, hs2, fin _ M1 H1 _ q dj ev mo fun A1 H2 kp mo2 => ?_⟩⟩
        have q1 := kp.sqT hs
        have q2 := kp.sqT hs2
        refine ⟨fun i hi => ?_, ⟨_, _, q1, q2, ?_⟩, fun i x H3 d hd y => ?_⟩
        · rw [zipD_len hl hl2] at hi
          exact ⟨_, _, _, _, q1, q2, List.getElem?_eq_getElem (by omega), List.getElem?_eq_getElem (by omega)⟩
        · rw [zipD_len hl hl2]; omega
        · obtain ⟨T, x', y', rfl, nT, rfl, f1, f2⟩ := y
          exact zip_yield (RpL.kp kp _ hl) (RpL.kp kp _ hl2) mo2 nT (f1 _ q1) (f2 _ q2) hd
    · match vs, rp with
      | [_, _], .cons (.lst hs hn hl) (.cons (.lst hs2 hn2 hl2) .nil) =>
        refine ⟨_, _, _, _, rfl, .inl ⟨.of hs, .of hs2, fin _ M1 H1 _ q dj ev mo fun A1 H2 kp mo2 => ?_⟩⟩
        have q1 : SqL X.K H2 _ _ := .of (kp.lst _ _ hs hn).1
        have q2 : SqL X.K H2 _ _ := .of (kp.lst _ _ hs2 hn2).1
        refine ⟨fun i hi => ?_, ⟨_, _, q1, q2, ?_⟩, fun i x H3 d hd y => ?_⟩
        · rw [zipD_len hl hl2] at hi
          exact ⟨_, _, _, _, q1, q2, List.getElem?_eq_getElem (by omega), List.getElem?_eq_getElem (by omega)⟩
        · rw [zipD_len hl hl2]; omega
        · obtain ⟨T, x', y', rfl, nT, rfl, f1, f2⟩ := y
          exact zip_yield (RpL.kp kp _ hl) (RpL.kp kp _ hl2) mo2 nT (f1 _ q1) (f2 _ q2) hd
    · exact q.elim⟩
end
/-! ### texts -/
def strsOf : List D → Option (List Str)
  | [] => some []
  | .str z :: r => (match strsOf r with | some l => some (z :: l) | none => none)
  | _ => none
theorem strsOf_map : ∀ l : List Str, strsOf (l.map D.str) = some l
  | [] => rfl
  | z :: r => by rw [List.map_cons, strsOf, strsOf_map r]
theorem strsOf_rp {K : Fg} {A : Mem} {H : Hp} : ∀ {xs : List D} {l : List Str} {vs : List V}, strsOf xs = some l → RpL K A H vs xs → vs = l.map V.str
  | [], _, _, h, .nil => by cases h; rfl
  | .str z :: r, l, _, h, .cons h1 h2 => by
    rw [strsOf] at h
    cases e : strsOf r with
    | none => rw [e] at h; cases h
    | some l' =>
      rw [e] at h
      cases h
      cases h1
      rw [strsOf_rp e h2, List.map_cons]
  | .non :: _, _, _, h, _ => by simp [strsOf] at h
  | .bl _ :: _, _, _, h, _ => by simp [strsOf] at h
  | .int _ :: _, _, _, h, _ => by simp [strsOf] at h
  | .tup _ :: _, _, _, h, _ => by simp [strsOf] at h
  | .lst _ :: _, _, _, h, _ => by simp [strsOf] at h
  | .ref _ :: _, _, _, h, _ => by simp [strsOf] at h
  | .ty _ :: _, _, _, h, _ => by simp [strsOf] at h
def joinD (a : Str) (xs : List D) (P : Str → Prop) : Prop := match strsOf xs with | some l => (l.map (·.length)).sum + l.length * a.length ≤ 16777216 ∧ P (Txt.join a l) | none => False
def dJoin (ta tb : DTE) : DTE := fun ds M P => ta ds M fun x M1 => match x with
  | .str a => tb ds M1 fun y M2 => (match y with
    | .lst xs => joinD a xs fun z => P (.str z) M2
    | .tup xs => joinD a xs fun z => P (.str z) M2
    | .ref q => (match M2 q with | some (.lst xs) => joinD a xs fun z => P (.str z) M2 | _ => False)
    | _ => False)
  | _ => False
section
variable {X : Cx} {c : DC} {a b e : Expr} {ta tb te : DTE} {pos apos : Pos}
theorem d_join (ha : DE X c a ta) (hb : DE X c b tb) (hs : starEach [b] X.env = [(false, eval b X.env)] := by rfl) (hbase : attributeBase a "join" X.env (eval a X.env) = eval a X.env := by rfl) (hline : (apos.endLine == pos.line) = true := by rfl) :
    DE X c (.Call (.Attribute a "join" apos) [b] [] pos) (dJoin ta tb) := (pe_join ha hb hs hbase hline).imp fun σ H Q ⟨ds, M, F, P, at', ht, fin⟩ => ⟨ds, M, F, _, at', ht, fun x M1 v H1 q dj ev mo rp => by
    cases x with
    | str z =>
      cases rp
      refine ⟨⟨_, rfl⟩, ds, M1, F, _, at'.go dj ev mo, q, fun y M2 w H2 q2 dj2 ev2 mo2 rp2 => ?_⟩
      have go : ∀ {xs : List D} {vs : List V} {p : Addr}, RpL X.K (mj M2 F) H2 vs xs → (SqL X.K H2 p vs ∨ SqT X.K H2 p vs) → (joinD z xs fun s => P (.str s) M2) → ∃ a p', ∃ ys : List Str, V.str z = .str a ∧ [V.ref p] = [V.ref p'] ∧ (SqL X.K H2 p' (ys.map V.str) ∨ SqT X.K H2 p' (ys.map V.str)) ∧ (ys.map (·.length)).sum + ys.length * a.length ≤ 16777216 ∧ Q (.str (Txt.join a ys)) H2 := fun {xs vs p} hl hs hj => by
        unfold joinD at hj
        split at hj
        · rename_i l hl2
          have e := strsOf_rp hl2 hl
          subst e
          exact ⟨z, p, l, rfl, rfl, hs, hj.1, (fin.ev (ev.trans ev2)).val dj2 mo2 hj.2 (.str _)⟩
        · exact hj.elim
      cases rp2 with
      | lst hs hn hl => exact go hl (.inl (.of hs)) q2
      | tup hs hl => exact go hl (.inr hs) q2
      | ref p =>
        dsimp only at q2
        split at q2
        · rename_i hM
          obtain ⟨vs, e1, r⟩ := mo2 _ _ (mj_l hM)
          exact go r (.inl (.of e1)) q2
        · exact q2.elim
      | non => exact q2.elim
      | bl _ => exact q2.elim
      | int _ => exact q2.elim
      | str _ => exact q2.elim
      | ty _ => exact q2.elim
    | _ => exact q.elim⟩
end
/-! ### in -/
def strIn (x y : Str) : Bool := !(Builtin.Str.occurrences y x 0 y.length 1).isEmpty
def flatD : D → Bool
  | .non => true
  | .bl _ => true
  | .int _ => true
  | .str _ => true
  | _ => false
def vOf : D → V
  | .bl b => .bl b
  | .int i => .int i
  | .str z => .str z
  | _ => .non
theorem flat_rp {K : Fg} {A : Mem} {H : Hp} {v : V} {d : D} (f : flatD d = true) (r : Rp K A H v d) : v = vOf d ∧ flatV v = true := by
  cases r <;> first | exact ⟨rfl, rfl⟩ | (simp [flatD] at f)
theorem flat_rpL {K : Fg} {A : Mem} {H : Hp} : ∀ {vs : List V} {ds : List D}, ds.all flatD = true → RpL K A H vs ds → vs = ds.map vOf ∧ vs.all flatV = true
  | _, _, _, .nil => ⟨rfl, rfl⟩
  | _, _, f, .cons r rs => by
    obtain ⟨f1, f2⟩ := Bool.and_eq_true_iff.mp (show (flatD _ && List.all _ flatD) = true from f)
    obtain ⟨e1, g1⟩ := flat_rp f1 r
    obtain ⟨e2, g2⟩ := flat_rpL f2 rs
    refine ⟨by rw [e1, e2]; rfl, ?_⟩
    show (flatV _ && List.all _ flatV) = true
    rw [g1, g2]; rfl
theorem eqV_dq : ∀ {x y : D}, flatD x = true → flatD y = true → eqV (vOf y) (vOf x) = dq y x := by
  intro x y fx fy
  cases x <;> cases y <;> simp_all [flatD, vOf, eqV, dq, py, PyData.eqv]
theorem inV_dq {x : D} (fx : flatD x = true) : ∀ {ys : List D}, ys.all flatD = true → inV (vOf x) (ys.map vOf) = ys.any fun u => dq u x
  | [], _ => rfl
  | y :: r, f => by
    obtain ⟨f1, f2⟩ := Bool.and_eq_true_iff.mp (show (flatD _ && List.all _ flatD) = true from f)
    have := inV_dq fx f2
    unfold inV at this ⊢
    rw [List.map_cons, List.any_cons, List.any_cons, eqV_dq fx f1, this]
def gIn (neg : Bool) : DO2 := fun x y M P => match y with
  | .str z => (match x with | .str u => P (.bl (if neg then !strIn u z else strIn u z)) M | _ => False)
  | .lst ys => (dkn 64 x = true ∧ dkn 64 (.lst ys) = true) ∧ P (.bl (if neg then !(ys.any fun u => dq u x) else ys.any fun u => dq u x)) M
  | .tup ys => (flatD x = true ∧ ys.all flatD = true) ∧ P (.bl (if neg then !(ys.any fun u => dq u x) else ys.any fun u => dq u x)) M
  | _ => False
def rInS (neg : Bool) : R2 := fun x y H Q => ∃ i j, x = .str i ∧ y = .str j ∧ Q (.bl (if neg then !(!(Builtin.Str.occurrences j i 0 j.length 1).isEmpty) else !(Builtin.Str.occurrences j i 0 j.length 1).isEmpty)) H
theorem any_py (x : D) : ∀ ys : List D, ((pyL ys).any fun z => PyData.eqv z (py x)) = ys.any fun u => dq u x
  | [] => rfl
  | y :: r => by rw [pyL, List.any_cons, List.any_cons, any_py x r]
theorem og_in {K : Fg} : Op2 K (fun x y H Q => rInS false x y H Q ∨ rInD K x y H Q ∨ rIn K false x y H Q) (gIn false) := fun M F x y v w H P Q q dj mo rx ry fin => by
  unfold gIn at q
  split at q
  · split at q
    · cases rx; cases ry; exact .inl ⟨_, _, rfl, rfl, fin.val dj mo q (.bl _)⟩
    · exact q.elim
  · rename_i ys
    have h2 := dkn_dp 64 (.lst ys) q.1.2 ry
    refine .inr (.inl ⟨_, pyL ys, dkn_dp 64 x q.1.1 rx, ?_, dkn_shaped q.1.1, ?_, ?_⟩)
    · rw [py] at h2; exact h2
    · have z := dkn_shaped q.1.2; rw [py] at z; exact z
    · rw [any_py]; exact fin.val dj mo q.2 (.bl _)
  · rename_i ys
    obtain ⟨e1, g1⟩ := flat_rp q.1.1 rx
    cases ry with
    | tup hs hl =>
      obtain ⟨e2, g2⟩ := flat_rpL q.1.2 hl
      refine .inr (.inr ⟨_, _, rfl, .inr hs, g1, g2, ?_⟩)
      rw [e1, e2, inV_dq q.1.1 q.1.2]
      exact fin.val dj mo q.2 (.bl _)
  · exact q.elim
theorem og_notin {K : Fg} : Op2 K (fun x y H Q => rInS true x y H Q ∨ rNotInD K x y H Q ∨ rIn K true x y H Q) (gIn true) := fun M F x y v w H P Q q dj mo rx ry fin => by
  unfold gIn at q
  split at q
  · split at q
    · cases rx; cases ry; exact .inl ⟨_, _, rfl, rfl, fin.val dj mo q (.bl _)⟩
    · exact q.elim
  · rename_i ys
    have h2 := dkn_dp 64 (.lst ys) q.1.2 ry
    refine .inr (.inl ⟨_, pyL ys, dkn_dp 64 x q.1.1 rx, ?_, dkn_shaped q.1.1, ?_, ?_⟩)
    · rw [py] at h2; exact h2
    · have z := dkn_shaped q.1.2; rw [py] at z; exact z
    · rw [any_py]; exact fin.val dj mo q.2 (.bl _)
  · rename_i ys
    obtain ⟨e1, g1⟩ := flat_rp q.1.1 rx
    cases ry with
    | tup hs hl =>
      obtain ⟨e2, g2⟩ := flat_rpL q.1.2 hl
      refine .inr (.inr ⟨_, _, rfl, .inr hs, g1, g2, ?_⟩)
      rw [e1, e2, inV_dq q.1.1 q.1.2]
      exact fin.val dj mo q.2 (.bl _)
  · exact q.elim
theorem op_inA {X : Cx} (hu : X.A.units + 65 < cLine) : OpR X (compareOp .In) (fun x y H Q => rInS false x y H Q ∨ rInD X.K x y H Q ∨ rIn X.K false x y H Q) := OpR.or (r := rInS false) op_in_str ((op_inD hu).or op_in_seq)
theorem op_notinA {X : Cx} (hu : X.A.units + 65 < cLine) : OpR X (compareOp .NotIn) (fun x y H Q => rInS true x y H Q ∨ rNotInD X.K x y H Q ∨ rIn X.K true x y H Q) := OpR.or (r := rInS true) op_notin_str ((op_notInD hu).or op_notIn_seq)
/-! ### any, all -/
def blsOf : List D → Option (List Bool)
  | [] => some []
  | .bl z :: r => (match blsOf r with | some l => some (z :: l) | none => none)
  | _ => none
theorem blsOf_map : ∀ l : List Bool, blsOf (l.map D.bl) = some l
  | [] => rfl
  | z :: r => by rw [List.map_cons, blsOf, blsOf_map r]
theorem blsOf_rp {K : Fg} {A : Mem} {H : Hp} : ∀ {xs : List D} {l : List Bool} {vs : List V}, blsOf xs = some l → RpL K A H vs xs → vs = l.map V.bl
  | [], _, _, h, .nil => by cases h; rfl
  | .bl z :: r, l, _, h, .cons h1 h2 => by
    rw [blsOf] at h
    cases e : blsOf r with
    | none => rw [e] at h; cases h
    | some l' =>
      rw [e] at h
      cases h
      cases h1
      rw [blsOf_rp e h2, List.map_cons]
  | .non :: _, _, _, h, _ => by simp [blsOf] at h
  | .str _ :: _, _, _, h, _ => by simp [blsOf] at h
  | .int _ :: _, _, _, h, _ => by simp [blsOf] at h
  | .tup _ :: _, _, _, h, _ => by simp [blsOf] at h
  | .lst _ :: _, _, _, h, _ => by simp [blsOf] at h
  | .ref _ :: _, _, _, h, _ => by simp [blsOf] at h
  | .ty _ :: _, _, _, h, _ => by simp [blsOf] at h
def gAll : DOL := fun xs M P => match xs with | [.lst ys] => (match blsOf ys with | some l => P (.bl (l.all id)) M | none => False) | _ => False
def gAny : DOL := fun xs M P => match xs with | [.lst ys] => (match blsOf ys with | some l => P (.bl (l.any id)) M | none => False) | _ => False
theorem ol_all {K : Fg} : OpL K (rAll K) gAll := fun M F xs vs H P Q q dj mo rs fin => by
  unfold gAll at q
  split at q
  · split at q
    · rename_i e
      match vs, rs with
      | [_], .cons (.lst hs hn hl) .nil =>
        have z := blsOf_rp e hl
        subst z
        exact ⟨_, _, rfl, .of hs, fin.val dj mo q (.bl _)⟩
    · exact q.elim
  · exact q.elim
theorem ol_any {K : Fg} : OpL K (rAny K) gAny := fun M F xs vs H P Q q dj mo rs fin => by
  unfold gAny at q
  split at q
  · split at q
    · rename_i e
      match vs, rs with
      | [_], .cons (.lst hs hn hl) .nil =>
        have z := blsOf_rp e hl
        subst z
        exact ⟨_, _, rfl, .of hs, fin.val dj mo q (.bl _)⟩
    · exact q.elim
  · exact q.elim
/-! ### int(), tuple(), list() -/
def gInt1 : DOL := fun xs M P => match xs with | [.int i] => P (.int i) M | [.bl k] => P (.int (if k then 1 else 0)) M | _ => False
theorem ol_int1 {K : Fg} : OpL K (fun xs H Q => (∃ i, xs = [.int i] ∧ Q (.int i) H) ∨ ∃ k, xs = [.bl k] ∧ Q (.int (if k then 1 else 0)) H) gInt1 := fun M F xs vs H P Q q dj mo rs fin => by
  unfold gInt1 at q
  split at q
  · match vs, rs with
    | [_], .cons (.int i) .nil => exact .inl ⟨i, rfl, fin.val dj mo q (.int _)⟩
  · match vs, rs with
    | [_], .cons (.bl i) .nil => exact .inr ⟨i, rfl, fin.val dj mo q (.int _)⟩
  · exact q.elim
def gTuple : DOL := fun xs M P => match xs with
  | [.lst ys] => P (.tup ys) M
  | [.tup ys] => P (.tup ys) M
  | [.ref a] => (match M a with | some (.lst ys) => P (.tup ys) M | _ => False)
  | _ => False
theorem ol_tuple {K : Fg} : OpL K (fun xs H Q => ∃ p ys, xs = [.ref p] ∧ ((SqL K H p ys ∧ ∀ l, H l = none → Q (.ref l) (upd H l (.tup ys))) ∨ (SqT K H p ys ∧ Q (.ref p) H))) gTuple := fun M F xs vs H P Q q dj mo rs fin => by
  unfold gTuple at q
  split at q
  · match vs, rs with
    | [_], .cons (.lst hs hn hl) .nil => exact ⟨_, _, rfl, .inl ⟨.of hs, fin_tup fin dj mo hl q⟩⟩
  · match vs, rs with
    | [_], .cons (.tup hs hl) .nil => exact ⟨_, _, rfl, .inr ⟨hs, fin.val dj mo q (.tup hs hl)⟩⟩
  · split at q
    · rename_i hM
      match vs, rs with
      | [_], .cons (.ref a) .nil =>
        obtain ⟨ws, e1, r⟩ := mo _ _ (mj_l hM)
        exact ⟨_, _, rfl, .inl ⟨.of e1, fin_tup fin dj mo r q⟩⟩
    · exact q.elim
  · exact q.elim
end DL

set_option Elab.async false
set_option linter.all false
set_option maxRecDepth 100000
set_option maxHeartbeats 4000000
namespace DL
open PySem PySem.Spec PyProof.Rows L2
/-- the built-in names that the text uses stand for themselves -/
structure Blt (mg : Str → Option Value) : Prop where
  b_int : mg "int" = none
  b_bool : mg "bool" = none
  b_str : mg "str" = none
  b_tuple : mg "tuple" = none
  b_list : mg "list" = none
  b_set : mg "set" = none
  b_len : mg "len" = none
  b_isinstance : mg "isinstance" = none
  b_any : mg "any" = none
  b_all : mg "all" = none
  b_sorted : mg "sorted" = none
  b_max : mg "max" = none
  b_min : mg "min" = none
  b_range : mg "range" = none
  b_zip : mg "zip" = none
  b_enumerate : mg "enumerate" = none
/-- a constant of a module -/
structure GCon (K : Fg) (mg : Str → Option Value) (x : Str) (d : D) : Prop where
  ex : ∃ v u, mg x = some u ∧ RelV v u ∧ ∀ A H, Rp K A H v d
theorem d_glob {X : Cx} {c : DC} {x : Str} {pos : Pos} {d : D} (hg : Gl X x) (g : GCon X.K X.mg x d) (hd : (x == ("__debug__" : Str)) = false := by decide) : DE X c (.Name x pos) (dC d) := by
  obtain ⟨v, u, h1, h2, h3⟩ := g.ex
  exact d_const (pe_glob hg h1 h2 hd) h3
theorem d_tyname {X : Cx} {c : DC} {x : Str} {pos : Pos} (n : String) (hg : Gl X x) (hm : X.mg x = none) (hv : bootBuiltins x = some (.type n)) (hn : x ≠ "__name__") (hd : (x == ("__debug__" : Str)) = false := by decide) : DE X c (.Name x pos) (dC (.ty n)) :=
  d_const (pe_bltn hg hm hv (show RelV (.ty n) (.type n) from rfl) hn hd) fun _ _ => .ty n
theorem hu65 {A : Around} {k : Nat} (hr : Room k A) : A.units + 65 < cLine := by have := hr.un; omega
section
variable {X : Cx} {c : DC} {a b e : Expr} {pos : Pos} {ta tb te : DTE}
theorem d_tchain {op op' : CmpOp} {r r' : R2} {g g' : DO2} {tc : DTE} (ho : OpR X (compareOp op) r) (ho' : OpR X (compareOp op') r') (hg : Op2 X.K r g) (hg' : Op2 X.K r' g') (ha : DE X c a ta) (hb : DE X c b tb) (he : DE X c e tc)
    (k : PE X a (Lf X.K c ta) → PE X b (Lf X.K c tb) → PE X e (Lf X.K c tc) → PT X (.Compare a [op, op'] [b, e] pos) (tTest (tChain r r' (Lf X.K c ta) (Lf X.K c tb) (Lf X.K c tc)))) : DT X c (.Compare a [op, op'] [b, e] pos) (dB (dChain g g' ta tb tc)) :=
  (k ha hb he).imp fun σ H Q h => by
    have h2 : Lf X.K c (dChain g g' ta tb tc) σ H (fun x H' => ∃ k, x = .bl k ∧ Q k H') := lt_b h
    obtain ⟨ds, M, F, P, at', ht, fin⟩ := h2
    exact ⟨ds, M, F, _, at', ht, fun x M1 v H1 p dj ev mo rp => ⟨ds, M1, F, _, at'.go dj ev mo, p, fun y M2 w H2 p2 dj2 ev2 mo2 rp2 =>
      hg M2 F x y v w H2 _ _ p2 dj2 mo2 (Rp.ev ev2 x rp) rp2 fun z M3 u H3 p3 dj3 ev3 mo3 rp3 => by
        cases z with
        | bl k =>
          cases rp3
          refine ⟨k, rfl, ?_⟩
          have e3 := ev.trans (ev2.trans ev3)
          have at3 := at'.go dj3 e3 mo3
          cases k with
          | false => exact fin (.bl false) M3 (.bl false) H3 (p3.2 rfl) dj3 e3 mo3 (.bl false)
          | true => exact ⟨ds, M3, F, _, at3, p3.1 rfl, fun z2 M4 u2 H4 p4 dj4 ev4 mo4 rp4 => hg' M4 F y z2 w u2 H4 P _ p4 dj4 mo4 (Rp.ev ev4 y (Rp.ev ev3 y rp2)) rp4 (fin.ev (e3.trans ev4))⟩
        | _ => exact p3.elim⟩⟩
end
end DL

set_option Elab.async false
set_option linter.all false
set_option maxRecDepth 100000
set_option maxHeartbeats 4000000
namespace DL
open PySem PySem.Spec PyProof.Rows L2
/-! ### sets of texts: made of an iterable, sorted, counted -/
def txtOf (e : Int × Value) : Str := match e.2 with | .str x _ => x | _ => Str.empty
def GoodS (w : World) (e : Int × Value) : Prop := ∃ x tk, e.2 = Value.str x tk ∧ e.1 = hashStr w x
/-- the set at a has the members l -/
structure SX (w : World) (h : Heap) (a : Addr) (l : List Str) (es : Array (Int × Value)) (ep : Nat) (t : SetTable) (o : Obj) : Prop where
  at0 : h.get? a = some o
  ex : o.ExactSet
  dt : o.data = .set es ep t
  good : ∀ e ∈ es.toList, GoodS w e
  mem : (es.toList.map txtOf).Perm l
  nd : l.Nodup
  few : es.size < scanBound
  fits : t.fits es.size = true
  ris : Ris t.place.toList
  led : w.params.followText "set-order" = true ∨ t.led = true
def SetS (w : World) (h : Heap) (a : Addr) (l : List Str) : Prop := ∃ es ep t o, SX w h a l es ep t o
section
variable {P : Program} {w : World} {h h' : Heap} {a : Addr} {l : List Str}
theorem SetS.keep (R : SetS w h a l) (k : ∀ o, h.get? a = some o → h'.get? a = some o) : SetS w h' a l :=
  let ⟨es, ep, t, o, r⟩ := R
  ⟨es, ep, t, o, { r with at0 := k o r.at0 }⟩
theorem goodS_elems {l : List (Int × Value)} (g : ∀ e ∈ l, GoodS w e) : ElemsOf (strKind P w) l := fun e he => by
  obtain ⟨x, tk, h1, h2⟩ := g e he
  refine ⟨⟨x, ?_, h2⟩, ?_⟩
  · rw [h1]; exact strKind_is P w x tk
  · rw [h1]; rfl
theorem goodS_is {e : Int × Value} (g : GoodS w e) (k : Str) : (strKind P w).is k e.2 = true ↔ txtOf e = k := by
  obtain ⟨x, tk, h1, _⟩ := g
  unfold txtOf
  rw [h1]
  show (Value.isStrOf k (.str x tk) = true) ↔ x = k
  simp [Value.isStrOf]
theorem goodS_mem {l : List (Int × Value)} (g : ∀ e ∈ l, GoodS w e) (k : Str) : k ∈ l.map txtOf ↔ ∃ e ∈ l, (strKind P w).is k e.2 = true := by
  rw [List.mem_map]
  exact ⟨fun ⟨e, he, q⟩ => ⟨e, he, (goodS_is (g e he) k).2 q⟩, fun ⟨e, he, q⟩ => ⟨e, he, (goodS_is (g e he) k).1 q⟩⟩
end
section
variable {P : Program} {w : World} {A : Around} {E : Value → Shared → Prop} {s : Shared} {a : Addr} {l : List Str}
theorem addS_tail {g : Bool → Sem Unit} (hg : ∀ (b : Bool) (s1 : Shared) (Q' : Unit → Shared → Prop), Q' () s1 → wpAny (model P w) A (g b) Q' E s1)
    {o : Obj} {es : Array (Int × Value)} {ep : Nat} {t : SetTable} (ho : s.heap.get? a = some o) (hex : o.ExactSet) (hd : o.data = .set es ep t)
    {ez : Array (Int × Value)} {tz : SetTable} {lz : List Str} (gz : ∀ e ∈ ez.toList, GoodS w e) (mz : (ez.toList.map txtOf).Perm lz) (nz : lz.Nodup)
    (bz : ez.size < scanBound) (fz : tz.fits ez.size = true) (rz : Ris tz.place.toList) (dz : w.params.followText "set-order" = true ∨ tz.led = true) {dm : Bool} {R : Option Bool → Shared → Prop}
    (hR : ∀ hp, Heap.SameBut a s.heap hp → SetS w hp a lz → R (some true) { s with heap := hp }) :
    wpAny (model P w) A (do
        storeSet a ez tz
        if (!dm && tz.tooFull) = true then do
            g (relayAll tz ez (SetTable.grown ez.size)).2.2
            storeSet a (relayAll tz ez (SetTable.grown ez.size)).1 (relayAll tz ez (SetTable.grown ez.size)).2.1
            pure (some true)
          else pure (some true)) R E s := by
  refine wpAny_bind (wpAny_storeSet_of ho hd ?_ (fits_of_scanBound bz))
  have ho1 := store_at (es' := ez) (t' := tz) ho hd
  have sb1 := Heap.SameBut.update s.heap a (Obj.putSet ez tz)
  split
  · have c1 := relayAll_perm tz ez (SetTable.grown ez.size)
    have c2 := relayAll_fits tz ez (SetTable.grown ez.size)
    have c3 := relayAll_ris tz ez (SetTable.grown ez.size)
    have c4 := relayAll_led tz ez (SetTable.grown ez.size)
    generalize relayAll tz ez (SetTable.grown ez.size) = Z at c1 c2 c3 c4 ⊢
    obtain ⟨ey, ty, gv⟩ := Z
    dsimp only at c1 c2 c3 c4 ⊢
    have hsz : ey.size = ez.size := by rw [← Array.length_toList, c1.length_eq, Array.length_toList]
    have by2 : ey.size < scanBound := hsz ▸ bz
    refine wpAny_bind (hg _ _ _ ?_)
    refine wpAny_bind (wpAny_storeSet_of ho1 rfl ?_ (fits_of_scanBound by2))
    have ho2 := store_at (es' := ey) (t' := ty) ho1 rfl
    exact wpAny_pure (hR _ (sb1.trans (Heap.SameBut.update _ a _)) ⟨ey, _, ty, _, SX.mk ho2 hex rfl (fun e he => gz e (c1.mem_iff.mp he)) ((c1.map txtOf).trans mz) nz by2 c2 c3 (dz.imp id fun z => by rw [c4]; exact z)⟩)
  · exact wpAny_pure (hR _ sb1 ⟨ez, _, tz, _, SX.mk ho1 hex rfl gz mz nz bz fz rz dz⟩)
def addT (l : List Str) (x : Str) : List Str := if x ∈ l then l else l ++ [x]
theorem addS_hashed {k : Str} {tk : Tok} {Q : Bool → Shared → Prop} (R : SetS w s.heap a l) (room : l.length + 1 < scanBound)
    (hQ : ∀ hp b, Heap.SameBut a s.heap hp → SetS w hp a (addT l k) → Q b { s with heap := hp }) :
    wpAny (model P w) A (setAddHashed a (.str k tk) ((strKind P w).hash k)) Q E s := by
  obtain ⟨es, ep, t, o, r⟩ := R
  have hn : es.size = l.length := by rw [← Array.length_toList, ← List.length_map (f := txtOf), r.mem.length_eq]
  have hkey : (strKind P w).is k (.str k tk) = true := strKind_is P w k tk
  have hsc : (Value.str k tk).scannable = true := rfl
  have hel : ElemsOf (strKind P w) es.toList := goodS_elems r.good
  unfold setAddHashed setAddHashedIn
  refine wpAny_holding (wpAny_bind (wpAny_setState_of r.at0 r.dt r.fits ?_))
  dsimp only
  rw [byScan_of hsc r.few hel]
  simp only [↓reduceIte]
  unfold setAddByScan
  refine wpAny_bind ?_
  refine wpAny_bind (wpAny_rule ?_)
  refine wpAny_bind (wpAny_setScan_of hkey r.at0 r.dt r.fits hel ?_)
  cases hfi : List.findIdx? (fun e => (strKind P w).is k e.2) es.toList with
  | some j =>
    dsimp only
    obtain ⟨hj, pj, _⟩ := List.findIdx?_eq_some_iff_getElem.mp hfi
    have hk : k ∈ l := r.mem.mem_iff.mp ((goodS_mem (P := P) r.good k).2 ⟨es.toList[j], List.getElem_mem hj, pj⟩)
    refine wpAny_pure (wpAny_pure ?_)
    have q := hQ s.heap false (Heap.SameBut.refl a s.heap) (by rw [addT, if_pos hk]; exact ⟨es, ep, t, o, r⟩)
    exact q
  | none =>
    dsimp only
    have hk : k ∉ l := fun z => by
      obtain ⟨e, he, q⟩ := (goodS_mem (P := P) r.good k).1 (r.mem.mem_iff.mpr z)
      have c := List.findIdx?_eq_none_iff.mp hfi e he
      rw [q] at c
      cases c
    have hgw : ∀ (b : Bool) {s1 : Shared} {Q' : Unit → Shared → Prop}, Q' () s1 → wpAny (model P w) A (match b with | true => rule "set.scan.the-table-gave-way" | false => pure ()) Q' E s1 :=
      fun b s1 Q' q => by cases b <;> first | exact wpAny_pure q | exact wpAny_rule q
    have c1 := layNew_perm t es ((strKind P w).hash k) (.str k tk)
    have c2 := layNew_fits t es ((strKind P w).hash k) (.str k tk)
    have c3 := layNew_ris t es ((strKind P w).hash k) (.str k tk) r.ris
    have c4 := layNew_led t es ((strKind P w).hash k) (.str k tk)
    generalize layNew t es ((strKind P w).hash k) (.str k tk) = Z at c1 c2 c3 c4 ⊢
    obtain ⟨ez, tz, dm, gv⟩ := Z
    dsimp only at c1 c2 c3 c4 ⊢
    rw [Array.toList_push] at c1
    have gz : ∀ e ∈ ez.toList, GoodS w e := fun e he => by
      rcases List.mem_append.mp (c1.mem_iff.mp he) with z | z
      · exact r.good e z
      · rw [List.mem_singleton.mp z]; exact ⟨k, tk, rfl, rfl⟩
    have mz : (ez.toList.map txtOf).Perm (addT l k) := by
      rw [addT, if_neg hk]
      have q := c1.map txtOf
      rw [List.map_append] at q
      exact q.trans (r.mem.append_right _)
    have nz : (addT l k).Nodup := by
      rw [addT, if_neg hk]
      exact (List.perm_append_singleton k l).nodup_iff.mpr (List.nodup_cons.mpr ⟨hk, r.nd⟩)
    have hsz : ez.size = l.length + 1 := by
      rw [← Array.length_toList, ← List.length_map (f := txtOf), mz.length_eq, addT, if_neg hk, List.length_append]; rfl
    have bz : ez.size < scanBound := hsz ▸ room
    have dz : w.params.followText "set-order" = true ∨ tz.led = true := r.led.imp id fun z => by rw [c4]; exact z
    refine wpAny_bind (hgw _ ?_)
    split
    · refine wpAny_bind ?_
      rw [hashByValue_scannable 8 hsc]
      refine wpAny_pure ?_
      refine addS_tail ?_ r.at0 r.ex r.dt gz mz nz bz ?_ ?_ ?_ ?_
      · intro b s1 Q' q; cases b <;> first | exact wpAny_pure q | exact wpAny_rule q
      · first | (split <;> first | exact c2 | exact SetTable.fits_plain_off c2) | exact c2
      · first | (split <;> exact c3) | exact c3
      · first | (split <;> exact dz) | exact dz
      · intro hp sb z; dsimp only; exact wpAny_pure (hQ hp _ sb z)
    · refine wpAny_bind (wpAny_pure ?_)
      simp only [↓reduceIte]
      refine addS_tail ?_ r.at0 r.ex r.dt gz mz nz bz c2 c3 dz ?_
      · intro b s1 Q' q; cases b <;> first | exact wpAny_pure q | exact wpAny_rule q
      · intro hp sb z; dsimp only; exact wpAny_pure (hQ hp _ sb z)
end
def setT (xs : List Str) : List Str := xs.foldl addT []
theorem foldl_addT_snoc (xs : List Str) (x : Str) (l : List Str) : (xs ++ [x]).foldl addT l = addT (xs.foldl addT l) x := by rw [List.foldl_append]; rfl
theorem length_addT (l : List Str) (x : Str) : (addT l x).length ≤ l.length + 1 := by
  unfold addT; split
  · omega
  · rw [List.length_append]; exact Nat.le_refl _
theorem length_foldT : ∀ (xs l : List Str), (xs.foldl addT l).length ≤ l.length + xs.length
  | [], l => by simp
  | x :: xs, l => by
    have q := length_foldT xs (addT l x)
    have q2 := length_addT l x
    simp only [List.foldl_cons, List.length_cons]
    omega
theorem mem_foldT : ∀ (xs l : List Str) (y : Str), y ∈ xs.foldl addT l ↔ y ∈ l ∨ y ∈ xs
  | [], l, y => by simp
  | x :: xs, l, y => by
    rw [List.foldl_cons, mem_foldT xs, List.mem_cons]
    unfold addT
    split
    · rename_i h
      exact ⟨fun z => z.elim .inl (fun z => .inr (.inr z)), fun z => z.elim .inl (fun z => z.elim (fun z => .inl (z ▸ h)) .inr)⟩
    · rw [List.mem_append, List.mem_singleton]
      exact ⟨fun z => z.elim (fun z => z.elim .inl fun z => .inr (.inl z)) (fun z => .inr (.inr z)), fun z => z.elim (fun z => .inl (.inl z)) fun z => z.elim (fun z => .inl (.inr z)) .inr⟩
theorem nodup_foldT : ∀ (xs l : List Str), l.Nodup → (xs.foldl addT l).Nodup
  | [], l, h => h
  | x :: xs, l, h => by
    rw [List.foldl_cons]
    refine nodup_foldT xs _ ?_
    unfold addT; split
    · exact h
    · rename_i z
      exact (List.perm_append_singleton x l).nodup_iff.mpr (List.nodup_cons.mpr ⟨z, h⟩)
theorem mem_setT {xs : List Str} {y : Str} : y ∈ setT xs ↔ y ∈ xs := by
  unfold setT; rw [mem_foldT]; simp
theorem nodup_setT (xs : List Str) : (setT xs).Nodup := nodup_foldT xs [] List.nodup_nil
theorem length_setT (xs : List Str) : (setT xs).length ≤ xs.length := by
  have q := length_foldT xs []
  rw [List.length_nil, Nat.zero_add] at q
  exact q
end DL

set_option Elab.async false
set_option linter.all false
set_option maxRecDepth 100000
set_option maxHeartbeats 4000000
namespace DL
open PySem PySem.Spec PyProof.Rows L2
section
variable {P : Program} {w : World} {A : Around} {R : Result → Shared → Prop} {I : Addr} {fp wr : List Addr} {G : Array GenState → Array GenState → Prop} {n : Nat} {Pv : Nat → Value → Prop} {St : Nat → Shared → Prop}
theorem take_more {xs : List Str} {i : Nat} (h : i < xs.length) : setT (xs.take (i + 1)) = addT (setT (xs.take i)) (xs.getD i Str.empty) := by
  have e : xs.take (i + 1) = xs.take i ++ [xs.getD i Str.empty] := by
    rw [List.take_succ, List.getElem?_eq_getElem h, List.getD_eq_getElem?_getD, List.getElem?_eq_getElem h]; rfl
  unfold setT
  rw [e, foldl_addT_snoc]
theorem loopS (W : WalksS P w A.in1 I fp wr G n Pv St) (S : Addr) (hSf : S ∉ fp) (xs : List Str) (hsz : xs.length = n) (hb : n + 1 < scanBound)
    (hval : ∀ i v, Pv i v → ∃ t, v = .str (xs.getD i Str.empty) t) :
    ∀ (k i : Nat) (s : Shared), n - i = k → i ≤ n → St i s → SetS w s.heap S (setT (xs.take i)) →
      (∀ s', Moved (S :: wr) G s s' → SetS w s'.heap S (setT xs) → R (.ok (.ret .none)) s') →
      codeAny (model P w) A (.builtin "set.update.loop" ⟨[.ref S, .ref I], []⟩) R s := by
  have hSw : S ∉ wr := fun h => hSf (W.sub _ h)
  have hsub : ∀ b ∈ wr, b ∈ S :: wr := fun b hb => List.mem_cons_of_mem _ hb
  intro k
  induction k with
  | zero =>
    intro i s hk hi hst hS hR
    obtain rfl : i = n := by omega
    refine codeAny_builtin PyProof.Rows.F.entry_set_update_loop ?_
    rw [Around.under_plainId PyProof.Rows.F.plain_set_update_loop _]
    show wpAny _ A.in1 (pyNext (.ref I) >>= _) _ _ s
    refine wpAny_bind (W.done s _ _ hst fun s' hm => ?_)
    show wpAny _ A.in1 (ret Value.none) _ _ s'
    refine wpAny_pure (hR s' (hm.mono hsub) ?_)
    have q := hS.keep fun o ho => hm.heap S _ hSw ho
    rw [List.take_of_length_le (Nat.le_of_eq hsz)] at q
    exact q
  | succ k ih =>
    intro i s hk hi hst hS hR
    have hlt : i < n := by omega
    refine codeAny_builtin PyProof.Rows.F.entry_set_update_loop ?_
    rw [Around.under_plainId PyProof.Rows.F.plain_set_update_loop _]
    show wpAny _ A.in1 (pyNext (.ref I) >>= _) _ _ s
    refine wpAny_bind (W.item i s _ _ hlt hst fun v s' hP hst' hm => ?_)
    obtain ⟨t, rfl⟩ := hval i v hP
    have hS' : SetS w s'.heap S (setT (xs.take i)) := hS.keep fun o ho => hm.heap S _ hSw ho
    show wpAny _ A.in1 (holding [Value.str (xs.getD i Str.empty) t] (setAdd S (.str (xs.getD i Str.empty) t)) >>= _) _ _ s'
    refine wpAny_bind (wpAny_holding ?_)
    unfold setAdd
    refine wpAny_holding ?_
    refine wpAny_bind ((PySem.strKind P w).pyHash (k := xs.getD i Str.empty) (strKind_is _ _ _ _) ?_)
    have hl : (setT (xs.take i)).length + 1 < scanBound := by
      have q := length_setT (xs.take i)
      rw [List.length_take] at q
      omega
    refine addS_hashed (s := { s' with toks := s'.toks + 1 }) hS' hl fun hp b hsb hS2 => ?_
    rw [← take_more (by omega)] at hS2
    refine wpAny_pure ⟨plainId_quiet PyProof.Rows.F.plain_set_update_loop _, ih (i + 1) _ (by omega) hlt (W.frame _ s' _ _ hst' (Nat.le_succ _) fun b hb o e => ?_) hS2 fun s'' hm'' hS'' => ?_⟩
    · rw [hsb.2 b (fun h : b = S => hSf (by rw [← h]; exact hb))]; exact e
    · refine hR s'' (Moved.trans W.gtrans ((hm.mono hsub).then_heap (Nat.le_succ _) fun b o hb e => ?_) hm'') hS''
      rw [hsb.2 b (fun h : b = S => hb (by rw [h]; exact List.mem_cons_self))]; exact e
end
/-- an iterator over texts, made ahead of nothing -/
structure ItS (P : Program) (w : World) (s s2 : Shared) (I S : Addr) (xs : List Str) : Prop where
  keep : ∀ b o, s.heap.get? b = some o → s2.heap.get? b = some o
  gens : s2.gens = s.gens
  drawn : s2.drawn = s.drawn
  os : s2.os = s.os
  new : s.heap.objs.size ≤ I
  go : ∃ fp St Pv, S ∉ fp ∧ (∀ A' : Around, A'.handled = none → Walks P w A' I fp [I] xs.length Pv St) ∧ (∀ i v, Pv i v → ∃ t, v = .str (xs.getD i Str.empty) t) ∧ St 0 s2.heap
def mtSet (w : World) : Obj := { cls := .type "set", dict := none, data := .set #[] 0 (.fresh 0 0 (!w.params.followText "set-order")) }
theorem setS_fresh {h : Heap} (w : World) : SetS w (h.push (mtSet w)) h.objs.size [] := by
  refine ⟨#[], 0, .fresh 0 0 (!w.params.followText "set-order"), mtSet w, ?_⟩
  refine ⟨Heap.get?_push_size _ rfl, ⟨rfl, rfl, rfl⟩, rfl, (fun e he => by simp at he), .nil, .nil, (by decide), (by rfl), List.Pairwise.nil, ?_⟩
  show _ ∨ (!w.params.followText "set-order") = true
  cases w.params.followText "set-order"
  · exact .inr rfl
  · exact .inl rfl
section
variable {P : Program} {w : World} {A : Around} {E : Value → Shared → Prop} {s : Shared}
theorem code_led1 (u : Value) {Q1 : Value → Shared → Prop} (h : Q1 (.ref s.heap.objs.size) { s with heap := s.heap.push (mtSet w) }) :
    codeAny (model P w) A (.call (.builtin "set.__new__") ⟨[.type "set", u], []⟩) (wants Q1 E) s := by
  refine codeAny_of_tree ?_
  show wpAny _ A.in1 (do checkBuiltinCall "set.__new__" ⟨[.type "set", u], []⟩; again (.builtin "set.__new__" ⟨[.type "set", u], []⟩)) _ _ s
  refine wpAny_bind (wpAny_of_eq (PySem.F.newCall_set_1 u) (wpAny_pure ⟨plainId_quiet PySem.F.plain_set_new _, codeAny_builtin PySem.F.entry_set_new ?_⟩))
  rw [Around.under_plainId PySem.F.plain_set_new _]
  unfold Builtin.«set.__new__» Builtin.Frozenset.newClass
  have hsub := sub_set_self
  obtain ⟨hp, g, d, tk, os⟩ := s
  dsimp only
  wp_walk
  refine wpAny_askSetting (wpAny_pure ?_)
  dsimp only
  simp only [newObj]
  refine wpAny_bind (wpAny_alloc (wpAny_pure ?_))
  exact wpAny_pure h
theorem upd_from {u : Value} {T : String} {S : Addr} {xs : List Str} {A : Around} {s : Shared} {Q : Unit → Shared → Prop} (hh : A.handled = none) (hT : s.TypeIs u T) (h1 : isSubtype (.type T) (.type "set") = pure false) (h2 : isSubtype (.type T) (.type "frozenset") = pure false) (h3 : (Value.type T == Value.type "dict") = false)
    (hit : ∀ (A' : Around) (Q' : Value → Shared → Prop), A'.handled = none → (∀ s2 I, ItS P w s s2 I S xs → Q' (.ref I) s2) → wpAny (model P w) A' (pyIter u) Q' E s)
    (hs : SetS w s.heap S []) (hb : xs.length + 1 < scanBound)
    (hQ : ∀ hp tk, SetS w hp S (setT xs) → (∀ b o, b ≠ S → s.heap.get? b = some o → hp.get? b = some o) → Q () { s with heap := hp, toks := tk }) :
    wpAny (model P w) A (Builtin.Frozenset.updateFrom "set.__init__" S u) Q E s := by
  unfold Builtin.Frozenset.updateFrom
  refine wpAny_bind (m := Builtin.Frozenset.isAnySet u) ?_
  unfold Builtin.Frozenset.isAnySet
  have hd : ∀ {Q' : Bool → Shared → Prop} {n : String} (hn : isSubtype (.type T) (.type n) = pure false), Q' false s → wpAny (model P w) A (isInstance u (.type n)) Q' E s := fun hn q => wpAny_isInstance hT hn q
  unfold orM
  refine wpAny_bind (hd h1 ?_)
  refine hd h2 ?_
  refine wpAny_bind (wpAny_typeOf hT ?_)
  rw [h3]
  show wpAny (model P w) A (pyIter u >>= _) _ _ _
  refine wpAny_bind (hit A _ hh fun s2 I it => ?_)
  obtain ⟨fp, St, Pv, hSf, hW, hval, hst⟩ := it.go
  refine wpAny_bind (wpAny_runValue ?_)
  have hlt : S < s.heap.objs.size := by
    obtain ⟨_, _, _, _, r⟩ := hs
    exact Heap.lt_size r.at0
  have hs2 : SetS w s2.heap S (setT (xs.take 0)) := hs.keep fun o e => it.keep S o e
  refine loopS ((hW A.in1 hh).toS) S hSf xs rfl hb hval xs.length 0 s2 (by omega) (Nat.zero_le _) hst hs2 fun s' hm hS' => ?_
  obtain ⟨hp, g', d', tk', os'⟩ := s'
  have eg : g' = s.gens := Eq.trans hm.gens it.gens
  have ed : d' = s.drawn := Eq.trans hm.drawn it.drawn
  have eo : os' = s.os := Eq.trans hm.os it.os
  subst eg; subst ed; subst eo
  refine wpAny_pure (hQ hp tk' hS' fun b o hb e => ?_)
  have hbI : b ≠ I := fun z => Nat.lt_irrefl _ (Nat.lt_of_lt_of_le (Heap.lt_size e) (z ▸ it.new))
  refine hm.heap b o (fun z => ?_) (it.keep b o e)
  rcases List.mem_cons.mp z with z | z
  · exact hb z
  · exact hbI (List.mem_singleton.mp z)
theorem call_setS {u : Value} {T : String} {xs : List Str} {Q : Value → Shared → Prop} (hh : A.handled = none) (hT : s.TypeIs u T) (h1 : isSubtype (.type T) (.type "set") = pure false) (h2 : isSubtype (.type T) (.type "frozenset") = pure false) (h3 : (Value.type T == Value.type "dict") = false)
    (hit : ∀ (A' : Around) (E' : Value → Shared → Prop) (s1 : Shared) (Q' : Value → Shared → Prop), A'.handled = none → (∀ b o, s.heap.get? b = some o → s1.heap.get? b = some o) → s.heap.objs.size < s1.heap.objs.size → (∀ s2 I, ItS P w s1 s2 I s.heap.objs.size xs → Q' (.ref I) s2) → wpAny (model P w) A' (pyIter u) Q' E' s1)
    (hb : xs.length + 1 < scanBound)
    (hQ : ∀ hp tk, SetS w hp s.heap.objs.size (setT xs) → (∀ b o, s.heap.get? b = some o → hp.get? b = some o) → Q (.ref s.heap.objs.size) { s with heap := hp, toks := tk }) :
    wpAny (model P w) A (call (.type "set") [u]) Q E s := by
  obtain ⟨c, tl, hmro⟩ := PySem.F.called_set.mro
  have hmade := PySem.F.called_set.made
  have hsub := PySem.F.called_set.sub
  refine wpAny_call (codeAny_of_tree ?_)
  show wpAny _ _ (callAny (.type "set") _) _ _ _
  refine wpAny_pure ⟨Code.quiet_builtin _ (by decide +kernel), codeAny_builtin PySem.F.entry_type_call ?_⟩
  rw [Around.under_plain (weight_type_call_type "set" [u] []) rfl]
  have g1 := PySem.F.called_set.notType
  have g2 := PySem.F.called_set.canCreate
  have hct := PySem.F.typeCall_set_1 u
  repeat (any_goals (first | assumption | wp_step))
  refine codeAny_mono (code_led1 u (E := E) (Q1 := fun obj s1 => obj = .ref s.heap.objs.size ∧ s1 = { s with heap := s.heap.push (mtSet w) }) ⟨rfl, rfl⟩) fun r s1 hr => ?_
  cases r with
  | error e => exact hr
  | ok fl =>
    cases fl with
    | ret obj =>
      obtain ⟨rfl, rfl⟩ := hr
      have hS : (s.heap.push (mtSet w)).get? s.heap.objs.size = some (mtSet w) := Heap.get?_push_size _ rfl
      have hTs : Shared.TypeIs { s with heap := s.heap.push (mtSet w) } (.ref s.heap.objs.size) "set" := ⟨_, hS, rfl⟩
      have hTu : Shared.TypeIs { s with heap := s.heap.push (mtSet w) } u T := by
        cases u
        all_goals first
          | exact hT
          | exact (let ⟨o, e, c⟩ := hT; ⟨o, Heap.get?_push_of_some _ e, c⟩)
      have hli := PySem.F.called_set.init.lookup
      have hbi := PySem.F.called_set.init.bind (.ref s.heap.objs.size)
      repeat (any_goals (first | assumption | wp_step))
      refine codeAny_mono (codeAny_call_builtin (R := wants (fun r s2 => r = .none ∧ Q (.ref s.heap.objs.size) s2) E) PySem.F.called_set.init.plain PySem.F.entry_set_init (check_set_init_1 hTs ?_)) fun r2 s2 hr2 => ?_
      · unfold Builtin.«set.__init__» noKeywords
        generalize hU : Builtin.Frozenset.updateFrom = U
        wp_walk
        subst hU
        refine upd_from (s := { s with heap := s.heap.push (mtSet w) }) hh hTu h1 h2 h3 (fun A' Q' hA' q => hit A' _ _ Q' hA' (fun b o e => Heap.get?_push_of_some _ e) (by show _ < (s.heap.push (mtSet w)).objs.size; rw [Heap.size_push]; exact Nat.lt_succ_self _) q) (setS_fresh w) hb fun hp tk r k => ?_
        wp_walk
        exact ⟨rfl, hQ hp tk r fun b o e => k b o (fun z => Nat.lt_irrefl _ (z ▸ Heap.lt_size e)) (Heap.get?_push_of_some _ e)⟩
      · cases r2 with
        | error e => exact hr2
        | ok fl2 =>
          cases fl2 with
          | ret r =>
            obtain ⟨rfl, hq⟩ := hr2
            repeat (any_goals (first | assumption | wp_step))
          | _ => exact hr2.elim
    | _ => exact hr.elim
end
end DL

set_option Elab.async false
set_option linter.all false
set_option maxRecDepth 100000
set_option maxHeartbeats 4000000
namespace DL
open PySem PySem.Spec PyProof.Rows L2
/-! ### texts in order -/
def leT (x y : Str) : Prop := ltCps y.cps.toList x.cps.toList = false
theorem leT_iff {x y : Str} : leT x y ↔ x.cps.toList ≤ y.cps.toList := by
  unfold leT
  rw [ltCps_eq, decide_eq_false_iff_not, List.not_lt]
theorem leT_anti {x y : Str} (a : leT x y) (b : leT y x) : x = y := by
  have e := List.le_antisymm (leT_iff.mp a) (leT_iff.mp b)
  obtain ⟨⟨u⟩⟩ := x
  obtain ⟨⟨v⟩⟩ := y
  have e' : u = v := e
  rw [e']
theorem leT_total (x y : Str) : leT x y ∨ leT y x := by
  rw [leT_iff, leT_iff]; exact List.le_total _ _
theorem leT_trans {x y z : Str} (a : leT x y) (b : leT y z) : leT x z := leT_iff.mpr (List.le_trans (leT_iff.mp a) (leT_iff.mp b))
def insT (x : Str) : List Str → List Str
  | [] => [x]
  | y :: r => if ltCps y.cps.toList x.cps.toList then y :: insT x r else x :: y :: r
def srtT : List Str → List Str
  | [] => []
  | x :: r => insT x (srtT r)
theorem insT_perm (x : Str) : ∀ l : List Str, (insT x l).Perm (x :: l)
  | [] => .refl _
  | y :: r => by
    unfold insT
    split
    · exact ((insT_perm x r).cons y).trans (.swap x y r)
    · exact .refl _
theorem srtT_perm : ∀ l : List Str, (srtT l).Perm l
  | [] => .refl _
  | x :: r => (insT_perm x _).trans ((srtT_perm r).cons x)
theorem insT_sorted (x : Str) : ∀ l : List Str, l.Pairwise leT → (insT x l).Pairwise leT
  | [], _ => List.pairwise_singleton _ _
  | y :: r, h => by
    unfold insT
    obtain ⟨h1, h2⟩ := List.pairwise_cons.mp h
    split
    · rename_i c
      have c' : leT y x := by
        rcases leT_total y x with z | z
        · exact z
        · unfold leT at z; rw [c] at z; cases z
      refine List.pairwise_cons.mpr ⟨fun z hz => ?_, insT_sorted x r h2⟩
      rcases List.mem_cons.mp ((insT_perm x r).mem_iff.mp hz) with e | e
      · rw [e]; exact c'
      · exact h1 z e
    · rename_i c
      have c' : leT x y := by unfold leT; exact Bool.eq_false_iff.mpr c
      refine List.pairwise_cons.mpr ⟨fun z hz => ?_, h⟩
      rcases List.mem_cons.mp hz with e | e
      · rw [e]; exact c'
      · exact leT_trans c' (h1 z e)
theorem srtT_sorted : ∀ l : List Str, (srtT l).Pairwise leT
  | [] => .nil
  | x :: r => insT_sorted x _ (srtT_sorted r)
theorem risingS_pair : ∀ (l : List Str) (p : Str), risingS p l = true → (p :: l).Pairwise leT
  | [], p, _ => List.pairwise_singleton _ _
  | x :: r, p, h => by
    have h' : (!ltCps x.cps.toList p.cps.toList) = true ∧ risingS x r = true := by simpa [risingS] using h
    have q := risingS_pair r x h'.2
    have c : leT p x := by unfold leT; exact Bool.not_eq_true' _ ▸ h'.1
    refine List.pairwise_cons.mpr ⟨fun z hz => ?_, q⟩
    rcases List.mem_cons.mp hz with e | e
    · rw [e]; exact c
    · exact leT_trans c ((List.pairwise_cons.mp q).1 z e)
theorem sortedS_pair : ∀ {l : List Str}, sortedS l = true → l.Pairwise leT
  | [], _ => .nil
  | x :: r, h => risingS_pair r x h
theorem srtT_eq {l ys : List Str} (p : ys.Perm l) (h : sortedS ys = true) : ys = srtT l :=
  List.Perm.eq_of_pairwise (le := leT) (fun _ _ _ _ a b => leT_anti a b) (sortedS_pair h) (srtT_sorted l) (p.trans (srtT_perm l).symm)
/-! ### set(xs), sorted(set), len(set) -/
def SetO (w : World) (a : Addr) (l : List Str) : HO := .ext fun h => SetS w h a l
def rSetS (K : Fg) (w : World) : List V → Hp → VK → Prop := fun vs H Q => ∃ xs : List Str, xs.length + 1 < scanBound ∧ ((∃ a, vs = [.ref a] ∧ SqL K H a (xs.map V.str)) ∨ (∃ z : Str, vs = [.str z] ∧ xs = z.cps.toList.map fun c => ⟨#[c]⟩)) ∧
  ∀ p, H p = none → Q (.ref p) (upd H p (SetO w p (setT xs)))
section
variable {X : Cx}
theorem setO_ok {P : Program} {w : World} {H : Hp} {h : Heap} {a : Addr} {l : List Str} (R : SetS w h a l) : ObjOk P w H h a (SetO w a l) :=
  ⟨R, let ⟨_, _, _, o, r⟩ := R; ⟨o, r.at0⟩, fun _ _ p k => p.keep k⟩
theorem cr_setS (hc : X.calm = true) : CallR X (.type "set") (rSetS X.K X.w) := by
  intro pins s σ H vs us Q I r h
  obtain ⟨xs, hb, h, q⟩ := h
  have fin : ∀ hp tk, SetS X.w hp s.heap.objs.size (setT xs) → (∀ b o, s.heap.get? b = some o → hp.get? b = some o) → EP X pins σ Q (.ref s.heap.objs.size) { s with heap := hp, toks := tk } := fun hp tk R k =>
    ⟨.ref _, upd H s.heap.objs.size (SetO X.w s.heap.objs.size (setT xs)), I.laid k (Nat.le_refl _) (setO_ok R), rfl, q _ (I.hok.fresh (Nat.le_refl _))⟩
  rcases h with ⟨a, rfl, hs⟩ | ⟨z, rfl, ez⟩
  · obtain ⟨its, rv, hl, _⟩ := I.list hs
    rw [Vals.ref1 r]
    have hl0 : s.heap.IsList a its.toArray := hl.isList
    have hT : s.TypeIs (.ref a) "list" := hl0.typeIs
    have hn : its.length = xs.length := by rw [← rv.length, List.length_map]
    refine call_setS (T := "list") (I.ok.hd hc) hT PySem.F.sub_list_set PySem.F.sub_list_frozenset (by decide) (fun A' E' s1 Q' hA' k hlt q' => ?_) hb fin
    have hl1 : s1.heap.IsList a its.toArray := let ⟨o, e, r⟩ := hl0; ⟨o, k _ _ e, r⟩
    have haS : a < s.heap.objs.size := by
      obtain ⟨o, e, _⟩ := hl0
      exact Heap.lt_size e
    have hne : a ≠ s1.heap.objs.size := Nat.ne_of_lt (Nat.lt_trans haS hlt)
    refine wpAny_pyIter_list hl1 (q' _ _ ⟨fun b o e => Heap.get?_push_of_some _ e, rfl, rfl, rfl, Nat.le_refl _, ?_⟩)
    have hsz : its.toArray.size = xs.length := by rw [List.size_toArray, hn]
    refine ⟨[s1.heap.objs.size, a], _, _, ?_, fun A2 hA2 => hsz ▸ Walks.list hA2 s1.heap.objs.size a hne its.toArray, fun i v e => SS.strs_at rv.strs i v (by simpa using e), ⟨_, Heap.get?_push_size _ rfl, rfl, rfl⟩, hl1.push _⟩
    simp only [List.mem_cons, List.not_mem_nil, or_false, not_or]
    exact ⟨Nat.ne_of_lt hlt, Nat.ne_of_gt haS⟩
  · subst ez
    match us, r with
    | [_], .cons ⟨t, e⟩ .nil =>
      subst e
      refine call_setS (T := "str") (I.ok.hd hc) (by show typeOf _ = _; rfl) (by rw [isSubtype_type]; kernel_rfl) (by rw [isSubtype_type]; kernel_rfl) (by decide) (fun A' E' s1 Q' hA' k hlt q' => ?_) hb fin
      refine wpAny_pyIter_str fun o St hW hst => q' _ _ ⟨fun b o e => Heap.get?_push_of_some _ e, rfl, rfl, rfl, Nat.le_refl _, ?_⟩
      have hsz : z.cps.size = (z.cps.toList.map fun c => (⟨#[c]⟩ : Str)).length := by rw [List.length_map, Array.length_toList]
      refine ⟨[s1.heap.objs.size], St, _, ?_, fun A2 hA2 => hsz ▸ hW A2 hA2, ?_, hst⟩
      · simp only [List.mem_cons, List.not_mem_nil, or_false]
        exact Nat.ne_of_lt hlt
      · rintro i v ⟨c, u, e1, e2⟩
        refine ⟨u, ?_⟩
        rw [e2, List.getD_eq_getElem?_getD, List.getElem?_map, Array.getElem?_toList, e1]
        rfl
theorem sorted_setS {P : Program} {w : World} {A : Around} {E : Value → Shared → Prop} {s : Shared} {a : Addr} {l : List Str} {Q : Value → Shared → Prop} (R : SetS w s.heap a l) (hh : A.handled = none)
    (hQ : ∀ s' p (out : Array Value) (c : Nat), (∀ b o, s.heap.get? b = some o → s'.heap.get? b = some o) → s'.gens = s.gens → s'.os = s.os → s.heap.objs.size ≤ p →
      s'.heap.get? p = some (seqObj "list" out c) → StrsAre out.toList (srtT l) → Q (.ref p) s') :
    wpAny (model P w) A (call (.builtin "sorted") [.ref a]) Q E s := by
  obtain ⟨es, ep, t, o, r⟩ := R
  refine Calls.call_function_entry kind_sorted plain_sorted entry_sorted (args_sorted1 _) ?_
  unfold Builtin.«sorted»
  refine wpAny_bind (m := checkCount "sorted" 1 1 _) (wpAny_pure ?_)
  refine wpAny_bind (collect_set (A := A.in1) hh ⟨o, r.at0, r.ex.1, r.dt⟩ r.fits r.few r.ris r.led fun s1 vs k1 hz g1 o1 pm => ?_)
  have hvl : vs.length ≤ sizeLine := by
    rw [pm.length_eq, List.length_map, Array.length_toList]
    exact fits_of_scanBound r.few
  have hI : StrsAre vs (vs.map fun v => txtOf (0, v)) := by
    have q : ∀ v ∈ vs, ∃ x tk, v = Value.str x tk := fun v hv => by
      obtain ⟨e, he, q⟩ := List.mem_map.mp (pm.mem_iff.mp hv)
      obtain ⟨x, tk, h1, _⟩ := r.good e he
      exact ⟨x, tk, by rw [← q]; exact h1⟩
    clear pm hvl
    induction vs with
    | nil => exact .nil
    | cons v vs ih =>
      obtain ⟨x, tk, e⟩ := q v List.mem_cons_self
      subst e
      exact .cons x tk (ih fun v hv => q v (List.mem_cons_of_mem _ hv))
  have pk : (vs.map fun v => txtOf (0, v)).Perm l := by
    have q := pm.map fun v => txtOf (0, v)
    rw [List.map_map] at q
    exact q.trans r.mem
  refine wpAny_bind (wpAny_newList ?_ hvl)
  have hoL : (s1.heap.push (seqObj "list" vs.toArray 0)).get? s1.heap.objs.size = some (seqObj "list" vs.toArray 0) := Heap.get?_push_size _ rfl
  refine wpAny_bind (wpAny_holding (wpAny_call_entry slot_list_sort ⟨_, hoL, rfl⟩ entry_list_sort (list_sort_treeKAny strKind_oneLt hoL hI.keysOf (fun v1 v2 rest e => keyKind_strs (by rw [← e]; exact hI)) hvl fun st' hp hs => ⟨_, rfl, ?_⟩) (args_list_sort _)))
  obtain ⟨ss, h1, h2, h3⟩ := sorted_out_str hI hp hs
  obtain ⟨c, hcc⟩ := sortedHeap_at (vs := vs) (out := (arrOf st').map (·.2)) hoL
  have es : ss = srtT l := srtT_eq (h2.trans pk) h3
  refine wpAny_pure ⟨_, rfl, hQ _ s1.heap.objs.size _ c (fun b u e => ?_) g1 o1 hz hcc (es ▸ h1)⟩
  have q := k1 b u e
  have hlt := Heap.lt_size q
  show (sortedHeap (s1.heap.push (seqObj "list" vs.toArray 0)) s1.heap.objs.size vs _).get? b = some u
  rw [sortedHeap_old (Nat.ne_of_lt hlt) (by rw [size_push']; exact Nat.lt_succ_of_lt hlt)]
  exact Heap.get?_push_of_some _ q
def rSrtS (w : World) : List V → Hp → VK → Prop := fun vs H Q => ∃ a l, vs = [.ref a] ∧ H a = some (SetO w a l) ∧ l.length ≤ sizeLine ∧ ∀ p, H p = none → Q (.ref p) (upd H p (.lst ((srtT l).map V.str)))
theorem cr_srtS (hc : X.calm = true) : CallR X (.builtin "sorted") (rSrtS X.w) := by
  intro pins s σ H vs us Q I r h
  obtain ⟨a, l, rfl, ha, hz, q⟩ := h
  rw [Vals.ref1 r]
  have R : SetS X.w s.heap a l := (I.hok a _ ha).1
  refine sorted_setS R (I.ok.hd hc) fun s' p out c k g o hp e hs => ?_
  have hl : ((srtT l).map V.str).length ≤ sizeLine := by rw [List.length_map, (srtT_perm l).length_eq]; exact hz
  have hn : H p = none := I.hok.fresh hp
  have J : Inv X pins σ (upd H p (.lst ((srtT l).map V.str))) { s with heap := s'.heap, gens := s'.gens, drawn := s'.drawn, toks := s'.toks } :=
    I.call (ch := []) (Un.laid k hp hn) (I.hok.laid k hp ⟨hl, out.toList, c, vals_of_strs hs, e⟩) (by rw [g]; exact I.bare) (fun _ z => nomatch z)
  have es : s' = { s with heap := s'.heap, gens := s'.gens, drawn := s'.drawn, toks := s'.toks } := by
    obtain ⟨_, _, _, _, _⟩ := s'
    obtain ⟨_, _, _, _, _⟩ := s
    have o' := o
    dsimp only at o' ⊢
    rw [o']
  rw [es]
  exact ⟨.ref p, _, J, rfl, q p hn⟩
def rLenS (w : World) : List V → Hp → VK → Prop := fun vs H Q => ∃ a l, vs = [.ref a] ∧ H a = some (SetO w a l) ∧ Q (.int l.length) H
theorem cr_lenS : CallR X (.builtin "len") (rLenS X.w) := by
  intro pins s σ H vs us Q I r h
  obtain ⟨a, l, rfl, ha, q⟩ := h
  rw [Vals.ref1 r]
  obtain ⟨es, ep, t, o, R⟩ : SetS X.w s.heap a l := (I.hok a _ ha).1
  have hn : es.size = l.length := by rw [← Array.length_toList, ← List.length_map (f := txtOf), R.mem.length_eq]
  have hb := R.few
  unfold scanBound at hb
  refine PySem.call_len_set R.at0 R.ex R.dt R.fits (by omega) ⟨.int _, H, I.tok _, ⟨_, rfl⟩, ?_⟩
  rw [hn]
  exact q
end
/-! ### sorted(set(e)), len(set(e)) -/
/-- the texts that the data draw -/
def txts : D → Option (List Str)
  | .str z => some (z.cps.toList.map fun c => ⟨#[c]⟩)
  | .lst ds => strsOf ds
  | _ => none
def dSrtSet (te : DTE) : DTE := fun ds M P => te ds M fun d M1 => match txts d with | some xs => xs.length + 1 < scanBound ∧ P (.lst ((srtT (setT xs)).map D.str)) M1 | none => False
def dLenSet (te : DTE) : DTE := fun ds M P => te ds M fun d M1 => match txts d with | some xs => xs.length + 1 < scanBound ∧ P (.int (setT xs).length) M1 | none => False
theorem rpL_strs {K : Fg} {M : Mem} {H : Hp} : ∀ xs : List Str, RpL K M H (xs.map V.str) (xs.map D.str)
  | [] => .nil
  | x :: xs => .cons (.str x) (rpL_strs xs)
section
variable {X : Cx} {c : DC} {x y : Str} {p pos p2 pos2 : Pos} {e : Expr} {te : DTE}
theorem set_pre {M F : Mem} {d : D} {v : V} {H : Hp} {xs : List Str} {Q : VK} (rp : Rp X.K (mj M F) H v d) (ex : txts d = some xs) (hb : xs.length + 1 < scanBound) (q : ∀ p, H p = none → Q (.ref p) (upd H p (SetO X.w p (setT xs)))) : rSetS X.K X.w [v] H Q := by
  refine ⟨xs, hb, ?_, q⟩
  cases rp with
  | str z =>
    simp only [txts, Option.some.injEq] at ex
    exact .inr ⟨z, rfl, ex.symm⟩
  | lst hs hn hl =>
    simp only [txts] at ex
    have e2 := strsOf_rp ex hl
    exact .inl ⟨_, rfl, .of (e2 ▸ hs)⟩
  | _ => simp [txts] at ex
theorem d_srtSet (hc : X.calm = true) (he : DE X c e te) (hg : Gl X x) (hm : X.mg x = none) (hv : bootBuiltins x = some (.builtin "sorted")) (hg2 : Gl X y) (hm2 : X.mg y = none) (hv2 : bootBuiltins y = some (.type "set"))
    (hn : x ≠ "__name__" := by decide) (hdb : (x == ("__debug__" : Str)) = false := by decide) (hn2 : y ≠ "__name__" := by decide) (hdb2 : (y == ("__debug__" : Str)) = false := by decide)
    (na : starEach [Expr.Call (.Name y p2) [e] [] pos2] X.env = (false, eval (.Call (.Name y p2) [e] [] pos2) X.env) :: starEach [] X.env := by rfl) (na2 : starEach [e] X.env = (false, eval e X.env) :: starEach [] X.env := by rfl) :
    DE X c (.Call (.Name x p) [.Call (.Name y p2) [e] [] pos2] [] pos) (dSrtSet te) :=
  (pe_callB (cr_srtS hc) hg hm hv (pa_cons (pe_callTy (cr_setS hc) hg2 hm2 hv2 (pa_cons he pa_nil na2) hn2 hdb2 na2 (by rfl)) pa_nil na) hn hdb na (by rfl)).imp fun σ H Q ⟨ds, M, F, P, at', ht, fin⟩ => by
    refine ⟨ds, M, F, _, at', ht, fun d M1 v H1 q dj ev mo rp => ?_⟩
    split at q
    · rename_i xs ex
      show rSetS X.K X.w [v] H1 fun z H2 => rSrtS X.w [z] H2 Q
      refine set_pre rp ex q.1 fun p1 n1 => ?_
      have hz : (setT xs).length ≤ sizeLine := Nat.le_trans (length_setT xs) (fits_of_scanBound (by omega))
      refine ⟨p1, setT xs, rfl, upd_same, hz, fun p2 n2 => ?_⟩
      exact fin_lst (fin.ev (ev.trans (Ev.new n1))) dj (mo.new n1) (rpL_strs _) q.2 p2 n2
    · exact q.elim
theorem d_lenSet (hc : X.calm = true) (he : DE X c e te) (hg : Gl X x) (hm : X.mg x = none) (hv : bootBuiltins x = some (.builtin "len")) (hg2 : Gl X y) (hm2 : X.mg y = none) (hv2 : bootBuiltins y = some (.type "set"))
    (hn : x ≠ "__name__" := by decide) (hdb : (x == ("__debug__" : Str)) = false := by decide) (hn2 : y ≠ "__name__" := by decide) (hdb2 : (y == ("__debug__" : Str)) = false := by decide)
    (na : starEach [Expr.Call (.Name y p2) [e] [] pos2] X.env = (false, eval (.Call (.Name y p2) [e] [] pos2) X.env) :: starEach [] X.env := by rfl) (na2 : starEach [e] X.env = (false, eval e X.env) :: starEach [] X.env := by rfl) :
    DE X c (.Call (.Name x p) [.Call (.Name y p2) [e] [] pos2] [] pos) (dLenSet te) :=
  (pe_callB cr_lenS hg hm hv (pa_cons (pe_callTy (cr_setS hc) hg2 hm2 hv2 (pa_cons he pa_nil na2) hn2 hdb2 na2 (by rfl)) pa_nil na) hn hdb na (by rfl)).imp fun σ H Q ⟨ds, M, F, P, at', ht, fin⟩ => by
    refine ⟨ds, M, F, _, at', ht, fun d M1 v H1 q dj ev mo rp => ?_⟩
    split at q
    · rename_i xs ex
      show rSetS X.K X.w [v] H1 fun z H2 => rLenS X.w [z] H2 Q
      refine set_pre rp ex q.1 fun p1 n1 => ?_
      refine ⟨p1, setT xs, rfl, upd_same, ?_⟩
      exact (fin.ev (ev.trans (Ev.new n1))).val dj (mo.new n1) q.2 (.int _)
    · exact q.elim
end
end DL

set_option Elab.async false
set_option linter.all false
set_option maxRecDepth 100000
set_option maxHeartbeats 4000000
namespace DL
open PySem PySem.Spec PyProof.Rows L2
open PySem.AutoSeq1 (wpAny_loadPart')
/-! ### enumerate(t), t a tuple -/
def tIterO (a : Addr) : Obj := { cls := .type "tuple_iterator", data := .fields #[.ref a, .int 0 0] }
def enumO (p : Addr) : Obj := { cls := .type "enumerate", data := .fields #[.none, .bool false, .ref p, rawInt 0, .none, .none] }
theorem meets_enumT (l : Addr) (items : Array Value) (n : Nat) (dct : Option Addr) (sl : Array (Option Value)) :
    Meets (Builtin.«enumerate.__new__» ⟨[.type "enumerate", .ref l], []⟩) (fun _ R s => s.heap.get? l = some { cls := .type "tuple", dict := dct, data := .seq items n, slots := sl } ∧
      R (.ok (.ret (.ref (s.heap.push (tIterO l)).objs.size))) { s with heap := (s.heap.push (tIterO l)).push (enumO s.heap.objs.size) }) :=
  .of_wp fun prog w A R s h => by
    obtain ⟨hp, g, d, tk, os⟩ := s
    obtain ⟨hl, h⟩ := h
    have hsub := sub_enumerate
    have hL : Heap.IsTuple (Shared.heap ⟨hp, g, d, tk, os⟩) l items := ⟨_, hl, rfl, n, rfl⟩
    wp_walk using wpAny_loadPart' hl
    refine wpAny_stack_any fun st => wpAny_pure ?_
    split
    · rename_i c _ _ _ _ _
      cases (c == Value.type "enumerate")
      all_goals
        wp_walk using wpAny_loadPart' hl, wpAny_pyIter_tuple hL
        exact ⟨_, rfl, h⟩
    · wp_walk using wpAny_loadPart' hl, wpAny_pyIter_tuple hL
      exact ⟨_, rfl, h⟩
section
variable {P : Program} {w : World} {A : Around} {E : Value → Shared → Prop} {s : Shared}
theorem call_enumT {l : Addr} {items : Array Value} {Q : Value → Shared → Prop} (hL : s.heap.IsTuple l items)
    (h : ∀ hp, IsEnum hp (s.heap.objs.size + 1) s.heap.objs.size 0 .none → hp.IsTupleIter s.heap.objs.size l 0 → (∀ b o, s.heap.get? b = some o → hp.get? b = some o) → Q (.ref (s.heap.objs.size + 1)) { s with heap := hp }) :
    wpAny (model P w) A (call (.type "enumerate") [.ref l]) Q E s := by
  obtain ⟨⟨c, dct, dt, sl⟩, hl, hc, n, hd⟩ := hL
  replace hc : c = .type "tuple" := hc
  replace hd : dt = .seq items n := hd
  subst hc hd
  refine callType_new F.called_enumerate (by decide) (F.typeCall_enumerate_1 _) (F.newCall_enumerate_1 _) (fun obj => F.args_object_init_2 obj _) F.entry_enumerate_new (meets_enumT l items n dct sl) ⟨hl, ?_⟩
  have hz : (s.heap.push (tIterO l)).objs.size = s.heap.objs.size + 1 := Heap.size_push ..
  show _ ∧ _
  rw [hz]
  have he : IsEnum ((s.heap.push (tIterO l)).push (enumO s.heap.objs.size)) (s.heap.objs.size + 1) s.heap.objs.size 0 .none := by
    have q := Heap.get?_push_size (s.heap.push (tIterO l)) (o := enumO s.heap.objs.size) rfl
    rw [hz] at q
    exact q
  exact ⟨⟨_, he, rfl⟩, h _ he ⟨_, Heap.get?_push_of_some _ (Heap.get?_push_size _ rfl), rfl, rfl⟩ fun b o x => Heap.get?_push_of_some _ (Heap.get?_push_of_some _ x)⟩
end
/-- the tuple at a, each item in a new pair -/
def IteT (K : Fg) (a : Addr) : It :=
  ⟨fun i H => ∃ (xs : List V) (x : V), SqT K H a xs ∧ xs[i]? = some x, fun i H v H' => ∃ T x, v = .ref T ∧ H T = none ∧ H' = upd H T (.tup [.int (i : Nat), x]) ∧ ∀ xs, SqT K H a xs → xs[i]? = some x, fun i H => ∃ xs : List V, SqT K H a xs ∧ xs.length = i⟩
theorem turn_enumT {P : Program} {w : World} {K : Fg} {elts : List Expr} {kk : Nat} {tpos : Pos} (a e it : Addr) :
    Turn P w K (.Tuple elts kk tpos) (IteT K a) [e, it] e (fun i h => (∃ old, IsEnum h e it ((i : Nat) : Int) old) ∧ h.IsTupleIter it a i ∧ e ≠ it ∧ a ≠ it ∧ a ≠ e) where
  mem := by simp
  obj := fun i h st b hb => by
    obtain ⟨⟨old, he⟩, ⟨o, ho, hc, hd⟩, _⟩ := st
    rcases (show b = e ∨ b = it by simpa using hb) with z | z
    · rw [z]; exact ⟨_, he, fun v q => nomatch q⟩
    · rw [z]; exact ⟨o, ho, fun v q => by rw [hd] at q; cases q⟩
  keep := fun i h h' st k => let ⟨⟨old, he⟩, ⟨o, ho, r⟩, hne⟩ := st; ⟨⟨old, k e (by simp) _ he⟩, ⟨o, k it (by simp) o ho, r⟩, hne⟩
  item := by
    intro X hP hw hK hc i pins s σ H E I hf st hg
    subst hP hw hK
    obtain ⟨⟨old, he⟩, hit, hne, ha1, ha2⟩ := st
    obtain ⟨xs, x, hq, hx⟩ := hg
    obtain ⟨its, rv, p, hz⟩ := I.tuple hq
    obtain ⟨u, hu, ru⟩ := rv.get hx
    have hel : e < s.heap.objs.size := Heap.lt_size he
    have hil : it < s.heap.objs.size := by obtain ⟨_, q, _⟩ := hit; exact Heap.lt_size q
    have hlt : i < its.toArray.size := by
      rw [List.size_toArray]
      exact (List.getElem?_eq_some_iff.mp hu).1
    refine wpAny_pyNext_enum_itemD (Draws.tuple (A := X.A.in1) (I.ok.hd hc) it a ha1 its.toArray) he ⟨hit, p⟩ hlt hne (by simp [hne, Ne.symm ha2]) fun y h' tk hy ho hit' hT hsz hk => ?_
    have ey : y = u := by
      have q : its.toArray[i]? = some y := hy
      rw [List.getElem?_toArray, hu] at q
      exact (Option.some.inj q).symm
    subst ey
    refine ⟨_, rfl, wpAny_letOwnedTupleGo_enum (s := { s with heap := h', toks := tk + 1 }) ho fun h'' he' sb => ?_⟩
    have hT2 : h''.get? s.heap.objs.size = some { cls := .type "tuple", data := .seq #[.int i tk, y] } := (sb.2 _ (Nat.ne_of_gt hel)).trans hT
    have new : ObjOk X.prog X.w (upd H s.heap.objs.size (.tup [.int (i : Nat), x])) h'' s.heap.objs.size (.tup [.int (i : Nat), x]) :=
      ⟨by show 2 ≤ sizeLine; decide, [.int i tk, y], .cons ⟨_, rfl⟩ (.cons ru .nil), ⟨_, hT2, rfl, _, rfl⟩⟩
    have I1 : Inv X pins σ (upd H s.heap.objs.size (.tup [.int (i : Nat), x])) { s with heap := h'', toks := tk + 1 } :=
      I.turnedNew (ch := [e, it]) (fun b ob hb q => (sb.2 b (fun z => hb (by simp [z]))).trans (hk b ob (fun z => hb (by simp [z])) (fun z => hb (by simp [z])) q)) hf (Nat.le_refl _) new
    have hsame : ∀ o, h'.get? it = some o → h''.get? it = some o := fun o q => (sb.2 it (Ne.symm hne)).trans q
    refine ⟨.ref s.heap.objs.size, _, I1, rfl, ⟨_, x, rfl, I.hok.fresh (Nat.le_refl _), rfl, fun ys hy => by rw [I.tuple_inj hy hq]; exact hx⟩, ⟨⟨y, ?_⟩, (let ⟨o, q, r⟩ := hit'.1; ⟨o, hsame o q, r⟩), hne, ha1, ha2⟩, fun b hb => ?_⟩
    · have e1 : ((i + 1 : Nat) : Int) = (i : Int) + 1 := by omega
      rw [e1]; exact he'
    · have hb' : b < s.heap.objs.size := by
        rcases (show b = e ∨ b = it by simpa using hb) with z | z
        · rw [z]; exact hel
        · rw [z]; exact hil
      rw [upd_ne (Nat.ne_of_lt hb')]
      exact (hf b hb).1
  done := by
    intro X hP hw hK hc i pins s σ H E I hf st hg
    subst hP hw hK
    obtain ⟨⟨old, he⟩, hit, hne, ha1, ha2⟩ := st
    obtain ⟨xs, hq, hx⟩ := hg
    obtain ⟨its, rv, p, hz⟩ := I.tuple hq
    obtain ⟨f0, f1, f2, f3, f4, f5⟩ := hf it (by simp)
    have hl : its.toArray.size = i := by rw [List.size_toArray, ← rv.length]; exact hx
    exact wpAny_pyNext_enum_endD (Draws.tuple (A := X.A.in1) (I.ok.hd hc) it a ha1 its.toArray) he ⟨hl ▸ hit, p⟩ fun h' eb => ⟨rfl, I.turned (t' := s.toks) (fun b o hb q => eb b o hb q) f0 f1 f3 f4 f5⟩
  self := fun A i s Q E st h => let ⟨⟨_, he⟩, _⟩ := st; wpAny_pyIter_enum he h
def iEnumA (K : Fg) (ta : TA) : TI := fun σ H R => ta σ H fun vs H1 => ∃ a xs, vs = [.ref a] ∧ ((SqL K H1 a xs ∧ R (Ite K a) H1) ∨ (SqT K H1 a xs ∧ R (IteT K a) H1))
theorem pi_enumA {X : Cx} {e : Expr} {ta : TA} {p pos tpos : Pos} {elts : List Expr} {kk : Nat} (hg : Gl X "enumerate") (hm : X.mg "enumerate" = none) (ha : PA X [e] ta) (hs : starEach [e] X.env = [(false, eval e X.env)] := by rfl) :
    PI X (.Tuple elts kk tpos) (.Call (.Name "enumerate" p) [e] [] pos) (iEnumA X.K ta) := by
  refine ⟨fun pins s σ H R I h => ?_⟩
  refine Call_ (ld_blt I hg hm boot_enumerate (PyProof.Rows.callWith_type1 (thn (ha.run pos pins s σ H _ I h) fun us s1 ⟨vs, H1, I1, r1, q1⟩ => ?_) hs rfl))
  obtain ⟨a, xs, ex, hq⟩ := q1
  subst ex
  have fpo : ∀ b ∈ [s1.heap.objs.size + 1, s1.heap.objs.size], s1.heap.objs.size ≤ b := fun b hb => by
    rcases (show b = s1.heap.objs.size + 1 ∨ b = s1.heap.objs.size by simpa using hb) with z | z
    · rw [z]; exact Nat.le_add_right _ _
    · rw [z]; exact Nat.le_refl _
  cases r1 with
  | cons r rr =>
    cases rr
    cases r
    rcases hq with ⟨hq, q⟩ | ⟨hq, q⟩
    · obtain ⟨its, rv, p', hz⟩ := I1.list hq
      refine call_enumerate_list p'.isList fun h' he hit hsz hk => wpAny_pyIter_enum he ?_
      have I2 : Inv X pins σ H1 { s1 with heap := h' } := I1.kept (t' := s1.toks) hk
      exact ⟨s1.heap.objs.size + 1, [s1.heap.objs.size + 1, s1.heap.objs.size], _, _, H1, rfl, I2, turn_enum a (s1.heap.objs.size + 1) s1.heap.objs.size, ⟨⟨.none, he⟩, hit, Nat.succ_ne_self _⟩, fun b hb => I1.fpOk (fpo b hb) (I1.hok.fresh (fpo b hb)), q⟩
    · obtain ⟨its, rv, p', hz⟩ := I1.tuple hq
      have hlt : a < s1.heap.objs.size := by
        obtain ⟨_, q, _⟩ := p'
        exact Heap.lt_size q
      refine call_enumT p' fun h' he hit hk => wpAny_pyIter_enum he ?_
      have I2 : Inv X pins σ H1 { s1 with heap := h' } := I1.kept (t' := s1.toks) hk
      exact ⟨s1.heap.objs.size + 1, [s1.heap.objs.size + 1, s1.heap.objs.size], _, _, H1, rfl, I2, turn_enumT a (s1.heap.objs.size + 1) s1.heap.objs.size, ⟨⟨.none, he⟩, hit, Nat.succ_ne_self _, Nat.ne_of_lt hlt, Nat.ne_of_lt (Nat.lt_succ_of_lt hlt)⟩, fun b hb => I1.fpOk (fpo b hb) (I1.hok.fresh (fpo b hb)), q⟩
/-! ### as data -/
def enumD (xs : List D) : List D := List.zipWith (fun (i : Nat) x => D.tup [.int i, x]) (List.range xs.length) xs
def dEnum (ta : DTA) : DTI := fun ds M P => ta ds M fun zs M1 => match zs with
  | [.tup xs] => P (enumD xs) M1
  | [.lst xs] => P (enumD xs) M1
  | _ => False
theorem enumD_len {xs : List D} : (enumD xs).length = xs.length := by unfold enumD; simp
theorem enumD_at {xs : List D} {i : Nat} {d : D} (h : (enumD xs)[i]? = some d) : ∃ x, xs[i]? = some x ∧ d = .tup [.int i, x] := by
  unfold enumD at h
  rw [List.getElem?_zipWith] at h
  cases e1 : (List.range xs.length)[i]? with
  | none => rw [e1] at h; cases h
  | some j =>
    obtain ⟨h1, h2⟩ := List.getElem?_eq_some_iff.mp e1
    rw [List.getElem_range] at h2
    subst h2
    cases e2 : xs[i]? with
    | none => rw [e1, e2] at h; cases h
    | some x =>
      rw [e1, e2] at h
      cases h
      exact ⟨x, rfl, rfl⟩
theorem enum_yield {K : Fg} {A : Mem} {H : Hp} {vs : List V} {xs : List D} {i : Nat} {d : D} {T : Addr} {x : V} (hx : RpL K A H vs xs) (mo : MemOk K A H) (n : H T = none) (h1 : vs[i]? = some x) (hd : (enumD xs)[i]? = some d) :
    Ev A H A (upd H T (.tup [.int (i : Nat), x])) ∧ MemOk K A (upd H T (.tup [.int (i : Nat), x])) ∧ Rp K A (upd H T (.tup [.int (i : Nat), x])) (.ref T) d ∧ ∀ b o, H b = some o → upd H T (.tup [.int (i : Nat), x]) b = some o := by
  obtain ⟨y, e1, rfl⟩ := enumD_at hd
  obtain ⟨dx, e2, r2⟩ := hx.getV h1
  rw [e1] at e2
  cases e2
  exact ⟨Ev.new n, mo.new n, .tup (.of upd_same) (RpL.kp (Ev.new n).kp [.int i, y] (.cons (.int _) (.cons r2 .nil))), (fun b o h => by rw [upd_ne (ne_of_none h n)]; exact h)⟩
section
variable {X : Cx} {c : DC} {e : Expr} {pos p : Pos}
theorem d_enum {ta : DTA} {elts : List Expr} {kk : Nat} {tpos : Pos} (hg : Gl X "enumerate") (hm : X.mg "enumerate" = none) (ha : DA X c [e] ta) (hs : starEach [e] X.env = [(false, eval e X.env)] := by rfl) :
    DI X c (.Tuple elts kk tpos) (.Call (.Name "enumerate" p) [e] [] pos) (dEnum ta) := (pi_enumA hg hm ha hs).imp fun σ H R ⟨ds, M, F, P, at', ht, fin⟩ => ⟨ds, M, F, _, at', ht, fun zs M1 vs H1 q dj ev mo rp => by
    split at q
    · match vs, rp with
      | [_], .cons (.tup hs hl) .nil =>
        refine ⟨_, _, rfl, .inr ⟨hs, fin _ M1 H1 _ q dj ev mo fun A1 H2 kp mo2 => ?_⟩⟩
        have q1 := kp.sqT hs
        refine ⟨fun i hi => ?_, ⟨_, q1, by rw [enumD_len, hl.length]⟩, fun i x H3 d hd y => ?_⟩
        · rw [enumD_len] at hi
          exact ⟨_, _, q1, List.getElem?_eq_getElem (by rw [hl.length]; exact hi)⟩
        · obtain ⟨T, x', rfl, nT, rfl, f1⟩ := y
          exact enum_yield (RpL.kp kp _ hl) mo2 nT (f1 _ q1) hd
    · match vs, rp with
      | [_], .cons (.lst hs hn hl) .nil =>
        refine ⟨_, _, rfl, .inl ⟨.of hs, fin _ M1 H1 _ q dj ev mo fun A1 H2 kp mo2 => ?_⟩⟩
        have q1 : SqL X.K H2 _ _ := .of (kp.lst _ _ hs hn).1
        refine ⟨fun i hi => ?_, ⟨_, q1, by rw [enumD_len, hl.length]; exact Nat.le_refl _⟩, fun i x H3 d hd y => ?_⟩
        · rw [enumD_len] at hi
          exact ⟨_, _, q1, List.getElem?_eq_getElem (by rw [hl.length]; exact hi)⟩
        · obtain ⟨T, x', rfl, nT, rfl, f1⟩ := y
          exact enum_yield (RpL.kp kp _ hl) mo2 nT (f1 _ q1) hd
    · exact q.elim⟩
end
end DL

set_option Elab.async false
set_option linter.all false
set_option maxRecDepth 100000
set_option maxHeartbeats 4000000
namespace DL
open PySem PySem.Spec PyProof.Rows L2
/-! ### slices -/
abbrev DTO := DSt → Mem → (Option Int → Mem → Prop) → Prop
def dNoPart : DTO := fun _ M P => P none M
def dPart (te : DTE) : DTO := fun ds M P => te ds M fun d M1 => match d with | .int i => P (some i) M1 | _ => False
def cutD (xs : List D) (lo hi : Option Int) : List D := (xs.drop (HT.sIx xs.length 0 lo)).take (HT.sIx xs.length xs.length hi - HT.sIx xs.length 0 lo)
def dSlice (te : DTE) (tl th : DTO) : DTE := fun ds M P => te ds M fun x M1 => tl ds M1 fun lo M2 => th ds M2 fun hi M3 => match x with
  | .lst xs => P (.lst (cutD xs lo hi)) M3
  | .tup xs => P (.tup (cutD xs lo hi)) M3
  | .str z => z.length ≤ sizeLine ∧ P (.str (cutS z lo hi)) M3
  | _ => False
def FinO (K : Fg) (M F : Mem) (H : Hp) (P : Option Int → Mem → Prop) (Q : Option Int → Hp → Prop) : Prop :=
  ∀ (d : Option Int) (M' : Mem) (H' : Hp), P d M' → Dj M' F → Ev M H M' H' → MemOk K (mj M' F) H' → Q d H'
def Lo (K : Fg) (c : DC) (t : DTO) : TO := fun σ H Q => ∃ ds M F P, At K c ds M F σ H ∧ t ds M P ∧ FinO K M F H P Q
def DO (X : Cx) (c : DC) (e : Option Expr) (t : DTO) : Prop := PO X e (Lo X.K c t)
theorem RpL.takeL {K : Fg} {A : Mem} {H : Hp} : ∀ (n : Nat) {vs : List V} {ds : List D}, RpL K A H vs ds → RpL K A H (vs.take n) (ds.take n)
  | 0, _, _, _ => .nil
  | n + 1, _, _, .nil => .nil
  | n + 1, _, _, .cons a b => .cons a (RpL.takeL n b)
theorem RpL.dropL {K : Fg} {A : Mem} {H : Hp} : ∀ (n : Nat) {vs : List V} {ds : List D}, RpL K A H vs ds → RpL K A H (vs.drop n) (ds.drop n)
  | 0, _, _, h => h
  | n + 1, _, _, .nil => .nil
  | n + 1, _, _, .cons a b => RpL.dropL n b
theorem RpL.cut {K : Fg} {A : Mem} {H : Hp} {vs : List V} {ds : List D} (h : RpL K A H vs ds) (lo hi : Option Int) : RpL K A H (cutV vs lo hi) (cutD ds lo hi) := by
  unfold cutV cutD
  rw [h.length]
  exact (h.dropL _).takeL _
section
variable {X : Cx} {c : DC} {e : Expr} {te : DTE} {lo hi : Option Expr} {tl th : DTO} {pos p2 : Pos}
theorem d_nopart : DO X c none dNoPart := by
  refine ⟨fun pins s σ H Q I ⟨ds, M, F, P, at', ht, fin⟩ => ?_⟩
  exact po_none.run pins s σ H Q I (fin none M H ht at'.dj .refl at'.mo)
theorem d_part (he : DE X c e te) : DO X c (some e) (dPart te) := by
  refine ⟨fun pins s σ H Q I ⟨ds, M, F, P, at', ht, fin⟩ => ?_⟩
  refine (po_some he).run pins s σ H Q I ⟨ds, M, F, _, at', ht, fun d M1 v H1 q dj ev mo rp => ?_⟩
  split at q
  · cases rp
    exact ⟨_, rfl, fin _ M1 H1 q dj ev mo⟩
  · exact q.elim
theorem d_slice (he : DE X c e te) (hl : DO X c lo tl) (hh : DO X c hi th) : DE X c (.Subscript e (.Slice lo hi none p2) pos) (dSlice te tl th) := by
  refine (pe_slice (SlR.or sl_tupA (SlR.or sl_list sl_str)) he hl hh).imp fun σ H Q ⟨ds, M, F, P, at', ht, fin⟩ => ?_
  refine ⟨ds, M, F, _, at', ht, fun x M1 v H1 q dj ev mo rp => ?_⟩
  refine ⟨ds, M1, F, _, at'.go dj ev mo, q, fun o1 M2 H2 q2 dj2 ev2 mo2 => ?_⟩
  refine ⟨ds, M2, F, _, at'.go dj2 (ev.trans ev2) mo2, q2, fun o2 M3 H3 q3 dj3 ev3 mo3 => ?_⟩
  have rp3 := Rp.ev (ev2.trans ev3) x rp
  have f3 := fin.ev ((ev.trans ev2).trans ev3)
  split at q3
  · cases rp3 with
    | lst hs hn hl => exact .inr (.inl ⟨_, _, rfl, .of hs, fin_lst f3 dj3 mo3 (hl.cut _ _) q3⟩)
  · cases rp3 with
    | tup hs hl =>
      refine .inl ⟨_, _, rfl, hs, fun w => ?_, fun _ => fin_tup f3 dj3 mo3 (hl.cut _ _) q3⟩
      refine f3.val dj3 mo3 q3 ?_
      have e1 : cutD _ o1 o2 = _ := show cutD _ o1 o2 = _ from by
        unfold cutD
        rw [← hl.length, w.1, w.2, List.drop_zero, Nat.sub_zero, List.take_of_length_le (Nat.le_of_eq hl.length.symm)]
      rw [e1]
      exact .tup hs hl
  · cases rp3
    exact .inr (.inr ⟨_, rfl, q3.1, f3.val dj3 mo3 q3.2 (.str _)⟩)
  · exact q3.elim
end
/-! ### list(e) -/
def gList : DOL := fun xs M P => match xs with
  | [.lst ys] => P (.lst ys) M
  | [.tup ys] => P (.lst ys) M
  | [.str z] => z.cps.size ≤ sizeLine ∧ P (.lst (signs z)) M
  | _ => False
def gListH : DOL := fun xs M P => match xs with
  | [.lst ys] => ∀ p, M p = none → P (.ref p) (mput M p (some (.lst ys)))
  | [.tup ys] => ∀ p, M p = none → P (.ref p) (mput M p (some (.lst ys)))
  | _ => False
def rListA (K : Fg) : List V → Hp → VK → Prop := fun xs H Q => (∃ p ys, xs = [.ref p] ∧ (SqL K H p ys ∨ SqT K H p ys) ∧ ∀ l, H l = none → Q (.ref l) (upd H l (.lst ys))) ∨
  ∃ z : Str, xs = [.str z] ∧ z.cps.size ≤ sizeLine ∧ ∀ l, H l = none → Q (.ref l) (upd H l (.lst (z.cps.toList.map fun c => V.str ⟨#[c]⟩)))
theorem ol_list {K : Fg} : OpL K (rListA K) gList := fun M F xs vs H P Q q dj mo rs fin => by
  unfold gList at q
  split at q
  · match vs, rs with
    | [_], .cons (.lst hs hn hl) .nil => exact .inl ⟨_, _, rfl, .inl (.of hs), fin_lst fin dj mo hl q⟩
  · match vs, rs with
    | [_], .cons (.tup hs hl) .nil => exact .inl ⟨_, _, rfl, .inr hs, fin_lst fin dj mo hl q⟩
  · match vs, rs with
    | [_], .cons (.str z) .nil =>
      refine .inr ⟨z, rfl, q.1, fin_lst fin dj mo ?_ q.2⟩
      have g : ∀ l : List Nat, RpL K (mj M F) H (l.map fun c => V.str ⟨#[c]⟩) (l.map fun c => D.str ⟨#[c]⟩) := fun l => by
        induction l with
        | nil => exact .nil
        | cons a l ih => exact .cons (.str _) ih
      exact g _
  · exact q.elim
theorem ol_listH {K : Fg} : OpL K (rListA K) gListH := fun M F xs vs H P Q q dj mo rs fin => by
  unfold gListH at q
  split at q
  · match vs, rs with
    | [_], .cons (.lst hs hn hl) .nil => exact .inl ⟨_, _, rfl, .inl (.of hs), fin_lstH fin dj mo hl q⟩
  · match vs, rs with
    | [_], .cons (.tup hs hl) .nil => exact .inl ⟨_, _, rfl, .inr hs, fin_lstH fin dj mo hl q⟩
  · exact q.elim
/-! ### hot lists: append, a store by index -/
def dAppend (to te : DTE) : DTE := fun ds M P => to ds M fun x M1 => match x with
  | .ref a => (∃ xs, M1 a = some (.lst xs)) ∧ te ds M1 fun y M2 => match M2 a with
    | some (.lst xs) => xs.length < sizeLine ∧ P .non (mput M2 a (some (.lst (xs ++ [y]))))
    | _ => False
  | _ => False
theorem hot_lst {K : Fg} {M F : Mem} {H : Hp} {a : Addr} {xs : List D} (mo : MemOk K (mj M F) H) (h : M a = some (.lst xs)) : ∃ vs, H a = some (.lst vs) ∧ RpL K (mj M F) H vs xs := mo a _ (mj_l h)
theorem fin_write {K : Fg} {M F : Mem} {H : Hp} {P : D → Mem → Prop} {Q : VK} {a : Addr} {xs ys : List D} {vs : List V} (fin : Fin K M F H P Q) (dj : Dj M F) (mo : MemOk K (mj M F) H) (h : M a = some (.lst xs)) (r : RpL K (mj M F) H vs ys) (p : P .non (mput M a (some (.lst ys)))) :
    Q .non (upd H a (.lst vs)) := by
  have hd := mo.domH (mj_l h)
  have ev : Ev M H (mput M a (some (.lst ys))) (upd H a (.lst vs)) := Ev.write h hd
  refine fin .non _ .non _ p (dj_put dj (dj_here dj h)) ev ?_ .non
  rw [mj_put]
  obtain ⟨_, e0, _⟩ := hot_lst mo h
  exact mo.write (mj_l h) (fun ps z => by rw [e0] at z; cases z) ⟨vs, upd_same, RpL.kp (Ev.write (mj_l h) hd).kp ys r⟩
def setD (xs : List D) (k : Int) (y : D) (P : List D → Prop) : Prop := match ixN xs.length k with | some j => P (xs.set j y) | none => False
def dgSub (to ti : DTE) : DTG := fun y ds M P => to ds M fun x M1 => ti ds M1 fun i M2 => match x, i with
  | .ref a, .int k => (match M2 a with | some (.lst xs) => setD xs k y fun zs => P ds (mput M2 a (some (.lst zs))) | _ => False)
  | _, _ => False
section
variable {X : Cx} {c : DC} {o e : Expr} {to te : DTE} {pos apos cpos : Pos} {vs : List Nat}
theorem d_append (ho : DE X c o to) (he : DE X c e te)
    (hbase : attributeBase o "append" X.env (eval o X.env) = eval o X.env := by rfl)
    (hfew : ((backTo cpos (starEach [e] X.env)).all (fun x => !x.1) && (backToKw cpos (keywordEach [] X.env)).all (fun x => x.1.isSome)
      && decide (([e] : List Expr).length + ([] : List Keyword).length + (if ([] : List Keyword).isEmpty then 0 else 1) < 30)) = true := by rfl)
    (hline : (apos.endLine == cpos.line) = true := by rfl) (hs : starEach [e] X.env = (false, eval e X.env) :: starEach [] X.env := by rfl) :
    DE X c (.Call (.Attribute o "append" apos) [e] [] cpos) (dAppend to te) := by
  refine (pe_bm F.plainAttrs_list F.slot_list_append F.type_list_append mt_append ho (pa_cons he pa_nil hs) hbase hfew hline hs (by rfl)).imp fun σ H Q ⟨ds, M, F, P, at', ht, fin⟩ => ?_
  refine ⟨ds, M, F, _, at', ht, fun x M1 v H1 q dj ev mo rp => ?_⟩
  cases x with
  | ref a =>
    cases rp
    obtain ⟨⟨xs, hM⟩, q⟩ := q
    obtain ⟨ws, e1, r⟩ := hot_lst mo hM
    refine ⟨.inl ⟨rfl, ws, .inl (.of e1)⟩, ds, M1, F, _, at'.go dj ev mo, q, fun y M2 w H2 q2 dj2 ev2 mo2 rp2 => ?_⟩
    split at q2
    · rename_i ys hM2
      obtain ⟨us, e2, r2⟩ := hot_lst mo2 hM2
      refine ⟨a, us, w, rfl, rfl, e2, by rw [r2.length]; exact q2.1, ?_⟩
      exact fin_write (fin.ev (ev.trans ev2)) dj2 mo2 hM2 (r2.append (.cons rp2 .nil)) q2.2
    · exact q2.elim
  | _ => exact q.elim
theorem RpL.setL {K : Fg} {A : Mem} {H : Hp} : ∀ {vs : List V} {ds : List D} (j : Nat) {v : V} {d : D}, RpL K A H vs ds → Rp K A H v d → RpL K A H (vs.set j v) (ds.set j d)
  | _, _, _, _, _, .nil, _ => .nil
  | _, _, 0, _, _, .cons _ b, r => .cons r b
  | _, _, j + 1, _, _, .cons a b, r => .cons a (RpL.setL j b r)
theorem d_gsub {i : Expr} {ti : DTE} (ho : DE X c o to) (hi : DE X c i ti)
    (ha : ∀ v, assign (.Subscript o i pos) X.env v = (do
      let ov ← holding [v] (eval o X.env)
      let iv ← holding [v, ov] (eval i X.env)
      standAt pos
      holding [v, ov, iv] (setItem ov iv v)
      release [v, ov, iv] []) := by intro _; rfl) : DG X c vs (.Subscript o i pos) (dgSub to ti) :=
  (pg_sub ho hi set_list ha).imp fun v σ H Q ⟨d, ds, M, F, P, at', rp, ht, fin⟩ => by
    refine ⟨ds, M, F, _, at', ht, fun x M1 u H1 q dj ev mo rx => ?_⟩
    refine ⟨ds, M1, F, _, at'.go dj ev mo, q, fun y M2 w H2 q2 dj2 ev2 mo2 ry => ?_⟩
    have rx2 := Rp.ev ev2 x rx
    have rd2 := Rp.ev (ev.trans ev2) d rp
    split at q2
    · rename_i a k
      cases rx2
      cases ry
      split at q2
      · rename_i xs hM
        obtain ⟨us, e2, r2⟩ := hot_lst mo2 hM
        unfold setD at q2
        split at q2
        · rename_i j hj
          refine ⟨a, us, k, j, rfl, rfl, e2, by rw [r2.length]; exact hj, ?_⟩
          have hd := mo2.domH (mj_l hM)
          have ev3 : Ev M2 H2 (mput M2 a (some (.lst (xs.set j d)))) (upd H2 a (.lst (us.set j v))) := Ev.write hM hd
          refine fin ds _ σ _ q2 (dj_put dj2 (dj_here dj2 hM)) ((ev.trans ev2).trans ev3) ?_ ?_ .refl
          · rw [mj_put]
            exact mo2.write (mj_l hM) (fun ps z => by rw [e2] at z; cases z) ⟨_, upd_same, RpL.kp (Ev.write (mj_l hM) hd).kp _ (r2.setL j rd2)⟩
          · exact at'.sl.kp ((ev.trans ev2).trans ev3).kpF
        · exact q2.elim
      · exact q2.elim
    · exact q2.elim
end
end DL

set_option Elab.async false
set_option linter.all false
set_option maxRecDepth 100000
set_option maxHeartbeats 4000000
namespace DL
open PySem PySem.Spec PyProof.Rows L2 HotX
/-! ### the end of a list's iterator, of a zip, where an exception is handled -/
section
variable {P : Program} {w : World} {A : Around} {E : Value → Shared → Prop} {s : Shared}
theorem hot_keep {A : Around} {x : Addr} {h h' : Heap} (hot : HotAt A x h) (k : ∀ o, h.get? x = some o → h'.get? x = some o) : HotAt A x h' :=
  let ⟨a, o, vs, e, r⟩ := hot
  ⟨a, o, vs, k o e, r⟩
theorem list_end_hot {x1 it l : Addr} {i : Nat} {items : Array Value} {Q : Value → Shared → Prop} (hot : HotAt A x1 s.heap) (hne : x1 ≠ it)
    (hit : s.heap.IsListIter it l i) (hl : s.heap.IsList l items) (hx : items[i]? = none)
    (hE : ∀ hp e, Heap.ExtBut it s.heap hp → (∃ o, hp.get? e = some o ∧ o.cls = .type "StopIteration") → E (.ref e) { s with heap := hp }) :
    wpAny (model P w) A (Builtin.SmallTypes.nextOf (.ref it)) Q E s := by
  obtain ⟨o, ho, hc, hd⟩ := id hit
  obtain ⟨ol, hol, _, nl, hdl⟩ := hl
  unfold Builtin.SmallTypes.nextOf
  refine wpAny_bind (wpAny_callSpecial?_slot (name := Str.ofString "__next__") hit.typeIs slot_listiter_next
    (wpAny_call_entry slot_listiter_next hit.typeIs entry_listiter_next ?_ (args_listiter_next _)))
  show wpAny _ _ (field (.ref it) 0 >>= _) _ _ s
  refine wpAny_bind (wpAny_field ho hd (x := .ref l) rfl ?_)
  show wpAny _ _ (if (Value.ref l == Value.none) = true then _ else _) _ _ s
  rw [if_neg (show ¬ ((Value.ref l == Value.none) = true) from Bool.false_ne_true)]
  show wpAny _ _ (field (.ref it) 1 >>= _) _ _ s
  refine wpAny_bind (wpAny_field ho hd (x := .int i 0) rfl ?_)
  show wpAny _ _ (seqItems? (.ref l) >>= _) _ _ s
  refine wpAny_bind (wpAny_seqItems hol hdl ?_)
  simp only [Int.toNat_natCast, hx]
  refine wpAny_bind (wpAny_rule (wpAny_bind (wpAny_setField ho hd (by simp) ?_)))
  show wpAny _ _ (newExc (.type "StopIteration") [] >>= _) _ _ _
  refine wpAny_bind ?_
  simp only [newExc, newTuple]
  refine wpAny_bind (wpAny_newObj_type ?_ (by size_fits))
  refine wpAny_bind (m := firstArgMember _ _) (wpAny_of_eq (a := Value.none) (by first | rfl | (simp only [firstArgMember]; rfl)) ?_)
  refine wpAny_newObj_type ?_ (by size_fits)
  obtain ⟨hh, o1, vs1, h1, d1, c1⟩ := hot
  have k1 : (s.heap.update it (Obj.mapFields fun vs => vs.setIfInBounds 0 Value.none)).get? x1 = some o1 := (Heap.get?_update_other _ _ (Ne.symm hne)).trans h1
  refine raiseNew_hot ⟨hh, o1, vs1, Heap.get?_push_of_some _ (Heap.get?_push_of_some _ k1), d1, c1⟩ (Nat.ne_of_lt (Heap.lt_size (Heap.get?_push_of_some _ k1))) (Heap.get?_push_size _ rfl) rfl (by first | (simp; done) | (simp; omega) | (simp only [Array.size_append]; simp; omega)) ?_
  refine hE _ _ (fun b o hb e => ?_) ⟨_, Heap.get?_update_self _ (Heap.get?_push_size _ rfl) rfl, rfl⟩
  have k2 : (s.heap.update it (Obj.mapFields fun vs => vs.setIfInBounds 0 Value.none)).get? b = some o := (Heap.get?_update_other _ _ (Ne.symm hb)).trans e
  rw [Heap.get?_update_other _ _ (Nat.ne_of_gt (Heap.lt_size (Heap.get?_push_of_some _ k2)))]
  exact Heap.get?_push_of_some _ (Heap.get?_push_of_some _ k2)
theorem zip_end_hot0 {x1 z TI TO i1 i2 l1 l2 : Addr} {k1 : Nat} {xs : Array Value} {Q : PySem.Fin → Shared → Prop} (hot : HotAt A x1 s.heap) (n1 : x1 ≠ z) (n2 : x1 ≠ i1) (D : ZipApart z TI TO i1 i2 l1 l2)
    (hz : IsZip s.heap z TI TO .none) (hTI : IsPair s.heap TI (.ref i1) (.ref i2))
    (h1 : s.heap.IsListIter i1 l1 k1) (hl1 : s.heap.IsList l1 xs) (hx : xs[k1]? = none)
    (hE : ∀ hp e, (∀ c o, c ≠ z → c ≠ TO → c ≠ i1 → c ≠ i2 → s.heap.get? c = some o → hp.get? c = some o) → (∃ o, hp.get? e = some o ∧ o.cls = .type "StopIteration") → E (.ref e) { s with heap := hp }) :
    wpAny (model P w) A (Builtin.«zip.__next__» ⟨[.ref z], []⟩) Q E s := by
  show wpAny _ _ (field (.ref z) 2 >>= _) _ _ _
  refine wpAny_bind (wpAny_field hz rfl (x := .bool false) rfl ?_)
  show wpAny _ _ (field (.ref z) 3 >>= _) _ _ _
  refine wpAny_bind (wpAny_field hz rfl (x := .ref TI) rfl ?_)
  refine wpAny_bind (wpAny_seqItems hTI rfl ?_)
  show wpAny _ _ (Builtin.SmallTypes.ownedTupleIsFree (.ref z) >>= _) _ _ _
  refine wpAny_bind ?_
  unfold Builtin.SmallTypes.ownedTupleIsFree
  refine wpAny_bind (wpAny_field hz rfl (x := .none) rfl (wpAny_pure ?_))
  simp only [if_true]
  refine wpAny_bind (wpAny_rule ?_)
  refine wpAny_bind (wpAny_field hz rfl (x := .ref TO) rfl ?_)
  refine wpAny_bind (wpAny_setField_rec hz (by simp) fun g1 hz1 hs1 => ?_)
  replace hz1 : IsZip g1 z TI TO .ellipsis := hz1
  refine wpAny_bind ?_
  simp only [List.zipIdx_cons, List.zipIdx_nil, List.forIn_cons, List.forIn_nil]
  refine wpAny_bind (wpAny_bind (wpAny_onRaise ?_))
  show wpAny _ _ (Builtin.SmallTypes.nextOf (.ref i1) >>= _) _ _ _
  refine wpAny_bind (list_end_hot (x1 := x1) (hot_keep hot fun o e => hs1.extBut _ _ n1 e) n2 (h1.extBut hs1.extBut D.i1z) (hl1.extBut hs1.extBut D.l1z) hx fun g2 e hs2 he => ?_)
  obtain ⟨oe, hoe, hce⟩ := he
  have hz2 : IsZip g2 z TI TO .ellipsis := hs2 _ _ D.i1z.symm hz1
  have hez : e ≠ z := fun x => by subst x; rw [hz2] at hoe; cases hoe; simp at hce
  exact wpAny_setField_rec hz2 (by simp) fun g3 _ hs3 => hE g3 e (fun c o c1 _ c3 _ x => hs3.extBut _ _ c1 (hs2 _ _ c3 (hs1.extBut _ _ c1 x))) ⟨oe, hs3.extBut _ _ hez hoe, hce⟩
theorem zip_end_hot {x1 z TI TO i1 i2 l1 l2 : Addr} {k1 : Nat} {xs : Array Value} {Q : Option Value → Shared → Prop} (hot : HotAt A x1 s.heap) (n1 : x1 ≠ z) (n2 : x1 ≠ i1) (D : ZipApart z TI TO i1 i2 l1 l2)
    (hz : IsZip s.heap z TI TO .none) (hTI : IsPair s.heap TI (.ref i1) (.ref i2)) (h1 : s.heap.IsListIter i1 l1 k1) (hl1 : s.heap.IsList l1 xs) (hx : xs[k1]? = none)
    (hQ : ∀ hp, (∀ c o, c ≠ z → c ≠ TO → c ≠ i1 → c ≠ i2 → s.heap.get? c = some o → hp.get? c = some o) → Q none { s with heap := hp }) : wpAny (model P w) A (pyNext (.ref z)) Q E s := by
  have hT : s.TypeIs (.ref z) "zip" := ⟨_, hz, rfl⟩
  unfold pyNext
  refine wpAny_bind (wpAny_attempt (wpAny_callSpecial?_slot (name := Str.ofString "__next__") hT F.slot_zip_next
    (wpAny_call_entry F.slot_zip_next hT F.entry_zip_next (zip_end_hot0 (A := A.in1) hot n1 n2 D hz hTI h1 hl1 hx fun hp e hk he => ?_) (F.args_zip_next_1 _))))
  obtain ⟨o, ho, hc⟩ := he
  refine wpAny_bind (wpAny_isInstance (T := "StopIteration") (b := true) ⟨o, ho, hc⟩ isSubtype_stop ?_)
  exact wpAny_pure (hQ _ hk)
/-! ### (a, b, ..) = a tuple, there -/
theorem tuple_end_hot {x1 it t : Addr} {i : Nat} {items : Array Value} {Q : Option Value → Shared → Prop} (hot : HotAt A x1 s.heap) (hne : x1 ≠ it)
    (hit : IsTupIter s.heap it t i) (ht : IsTup s.heap t items) (hx : items[i]? = none)
    (hQ : ∀ hp, Heap.ExtBut it s.heap hp → Q none { s with heap := hp }) : wpAny (model P w) A (pyNext (.ref it)) Q E s := by
  obtain ⟨o, ho, hc, hd⟩ := id hit
  obtain ⟨ol, hol, _, nl, hdl⟩ := ht
  unfold pyNext
  refine wpAny_bind (wpAny_attempt (wpAny_callSpecial?_slot (name := Str.ofString "__next__") hit.typeIs slot_tupleiter_next
    (wpAny_call_entry slot_tupleiter_next hit.typeIs entry_tupleiter_next ?_ (args_tupleiter_next _))))
  show wpAny _ _ (field (.ref it) 0 >>= _) _ _ s
  refine wpAny_bind (wpAny_field ho hd (x := .ref t) rfl ?_)
  show wpAny _ _ (if (Value.ref t == Value.none) = true then _ else _) _ _ s
  rw [if_neg (show ¬ ((Value.ref t == Value.none) = true) from Bool.false_ne_true)]
  show wpAny _ _ (field (.ref it) 1 >>= _) _ _ s
  refine wpAny_bind (wpAny_field ho hd (x := .int i 0) rfl ?_)
  show wpAny _ _ (seqItems? (.ref t) >>= _) _ _ s
  refine wpAny_bind (wpAny_seqItems hol hdl ?_)
  simp only [Int.toNat_natCast, hx]
  refine wpAny_bind (wpAny_rule (wpAny_bind (wpAny_setField ho hd (by simp) ?_)))
  show wpAny _ _ (newExc (.type "StopIteration") [] >>= _) _ _ _
  refine wpAny_bind ?_
  simp only [newExc, newTuple]
  refine wpAny_bind (wpAny_newObj_type ?_ (by size_fits))
  refine wpAny_bind (m := firstArgMember _ _) (wpAny_of_eq (a := Value.none) (by first | rfl | (simp only [firstArgMember]; rfl)) ?_)
  refine wpAny_newObj_type ?_ (by size_fits)
  obtain ⟨hh, o1, vs1, h1, d1, c1⟩ := hot
  have k1 : (s.heap.update it (Obj.mapFields fun vs => vs.setIfInBounds 0 Value.none)).get? x1 = some o1 := (Heap.get?_update_other _ _ (Ne.symm hne)).trans h1
  refine raiseNew_hot ⟨hh, o1, vs1, Heap.get?_push_of_some _ (Heap.get?_push_of_some _ k1), d1, c1⟩ (Nat.ne_of_lt (Heap.lt_size (Heap.get?_push_of_some _ k1))) (Heap.get?_push_size _ rfl) rfl (by first | (simp; done) | (simp; omega) | (simp only [Array.size_append]; simp; omega)) ?_
  refine wpAny_bind (wpAny_isInstance (T := "StopIteration") (b := true) ⟨_, Heap.get?_update_self _ (Heap.get?_push_size _ rfl) rfl, rfl⟩ isSubtype_stop ?_)
  refine wpAny_pure (hQ _ fun b o hb e => ?_)
  have k2 : (s.heap.update it (Obj.mapFields fun vs => vs.setIfInBounds 0 Value.none)).get? b = some o := (Heap.get?_update_other _ _ (Ne.symm hb)).trans e
  rw [Heap.get?_update_other _ _ (Nat.ne_of_gt (Heap.lt_size (Heap.get?_push_of_some _ k2)))]
  exact Heap.get?_push_of_some _ (Heap.get?_push_of_some _ k2)
theorem unpack_hot {x1 t : Addr} {items : Array Value} {Q : List Value → Shared → Prop} (hot : HotAt A x1 s.heap) (ht : IsTup s.heap t items)
    (hQ : ∀ hp, Heap.ExtBut s.heap.objs.size s.heap hp → Q items.toList { s with heap := hp }) : wpAny (model P w) A (unpackItems (.ref t) items.size none) Q E s := by
  have hlt : t ≠ s.heap.objs.size := by obtain ⟨o, ho, _⟩ := ht; exact Nat.ne_of_lt (Heap.lt_size ho)
  have hx : x1 ≠ s.heap.objs.size := by obtain ⟨_, o, _, ho, _⟩ := hot; exact Nat.ne_of_lt (Heap.lt_size ho)
  unfold unpackItems
  refine wpAny_bind ?_
  unfold notIterableAtAll
  refine wpAny_bind (wpAny_specialOf ht.typeIs slot_tuple_iter.lookup ?_)
  refine wpAny_pure ?_
  simp only [Bool.false_eq_true, if_false]
  refine wpAny_bind (wpAny_holding (iter_tuple ht ?_))
  refine wpAny_bind (wpAny_holding (draw_tuple hlt items.size 0 _ _ ⟨_, Heap.get?_push_size _ rfl, rfl, rfl⟩ (ht.push _) (by omega) fun g1 hit1 hs1 => ?_))
  have hall : List.take items.size (List.drop 0 items.toList) = items.toList := by
    rw [List.drop_zero]; exact List.take_of_length_le (by simp)
  rw [hall]
  rw [if_neg (by simp)]
  have ht1 : IsTup g1 t items := (ht.push _).extBut hs1.extBut hlt
  refine wpAny_bind (wpAny_holding (tuple_end_hot (x1 := x1) (hot_keep hot fun o e => hs1.extBut _ _ hx (Heap.get?_push_of_some _ e)) hx hit1 ht1 (by simp) fun g2 he2 => ?_))
  simp only [Option.isSome_none, Bool.false_eq_true, if_false]
  exact wpAny_pure (hQ g2 fun b o hb e => he2 b o hb (hs1.extBut b o hb (Heap.get?_push_of_some _ e)))
end
/-- in every state of X the exception x1 is handled -/
def HotI (X : Cx) (x1 : Addr) : Prop := ∀ pins σ H s, Inv X pins σ H s → HotAt X.A x1 s.heap
theorem pg_tupE {X : Cx} {x1 : Addr} {es : List Expr} {k : Nat} {t : TGs} {n : Nat} {pos : Pos} (hc : HotI X x1) (h : PGs X es t)
    (hn : (assignEach es X.env).length = n := by rfl) (hst : (assignEach es X.env).findIdx? (·.1) = none := by rfl) : PG X (.Tuple es k pos) (gTup X.K n t) := by
  refine ⟨fun pins s σ H v u Q I r hw => ?_⟩
  obtain ⟨a, xs, e1, hq, hl, hw⟩ := hw
  subst e1
  cases r
  obtain ⟨its, rv, ht, hz⟩ := I.tuple hq
  rw [assign_Tuple]
  refine wpAny_bind (wpAny_standAt ?_)
  unfold unpack
  have hsz : (assignEach es X.env).length = its.toArray.size := by rw [hn, List.size_toArray, ← rv.length, hl]
  rw [hsz, hst]
  refine wpAny_bind (wpAny_holding (unpack_hot (hc pins σ H s I) ht fun hp hx => ?_))
  have I1 : Inv X pins σ H { s with heap := hp } := I.kept (t' := s.toks) fun b o e => hx b o (Nat.ne_of_lt (Heap.lt_size e)) e
  exact h.run pins _ σ H xs _ Q I1 (by simpa using rv) hw
end DL

set_option Elab.async false
set_option linter.all false
set_option maxRecDepth 100000
set_option maxHeartbeats 4000000
namespace DL
open PySem PySem.Spec PyProof.Rows L2 HotX
/-! ### a list comprehension over a zip of two lists, where the exception x1 is handled -/
structure TurnE (x1 : Addr) (P : Program) (w : World) (K : Fg) (tg : Expr) (J : It) (fp : List Addr) (it : Addr) (tn : Nat → Heap → Prop) : Prop where
  obj : ∀ i h, tn i h → ∀ b ∈ fp, ∃ o, h.get? b = some o ∧ ∀ v, o.data ≠ .cell v
  keep : ∀ i h h', tn i h → (∀ b ∈ fp, ∀ o, h.get? b = some o → h'.get? b = some o) → tn i h'
  item : ∀ (X : Cx), X.prog = P → X.w = w → X.K = K → ∀ (i : Nat) (pins : List (Addr × Obj)) (s : Shared) (σ : L2.St) (H : Hp) (E : Value → Shared → Prop), Inv X pins σ H s → (∀ b ∈ fp, FpOk X pins H b) → tn i s.heap → J.go i H →
    wpAny (model P w) X.A (pyNext (.ref it)) (fun r s1 => ∃ u, r = some u ∧
      wpAny (model P w) X.A (letOwnedTupleGo tg (.ref it) u) (fun _ s2 => ∃ x H', Inv X pins σ H' s2 ∧ L2.RelV x u ∧ J.yld i H x H' ∧ tn (i + 1) s2.heap ∧ ∀ b ∈ fp, H' b = none) E s1) E s
  done : ∀ (X : Cx), X.prog = P → X.w = w → X.K = K → ∀ (i : Nat) (pins : List (Addr × Obj)) (s : Shared) (σ : L2.St) (H : Hp) (E : Value → Shared → Prop), HotAt X.A x1 s.heap → Inv X pins σ H s → (∀ b ∈ fp, FpOk X pins H b) → tn i s.heap → J.stop i H →
    wpAny (model P w) X.A (pyNext (.ref it)) (fun r s1 => r = none ∧ Inv X pins σ H s1) E s
  self : ∀ (A : Around) (i : Nat) (s : Shared) (Q : Value → Shared → Prop) (E : Value → Shared → Prop), tn i s.heap → Q (.ref it) s → wpAny (model P w) A (pyIter (.ref it)) Q E s
/-- as Itz; both lists end at once -/
def ItzE (K : Fg) (a b : Addr) : It := ⟨(Itz K a b).go, (Itz K a b).yld, fun i H => ∃ xs : List V, SqL K H a xs ∧ xs.length ≤ i⟩
theorem turn_zipE {x1 : Addr} {P : Program} {w : World} {K : Fg} {elts : List Expr} {kk : Nat} {tpos : Pos} {a b z TI TO i1 i2 : Addr} (D : ZipApart z TI TO i1 i2 a b) (n1 : x1 ≠ z) (n2 : x1 ≠ i1) :
    TurnE x1 P w K (.Tuple elts kk tpos) (ItzE K a b) [z, TI, TO, i1, i2] z (fun i h => IsZip h z TI TO .none ∧ IsPair h TI (.ref i1) (.ref i2) ∧ (∃ x y, IsPair h TO x y) ∧ h.IsListIter i1 a i ∧ h.IsListIter i2 b i) where
  obj := (turn_zip (P := P) (w := w) (K := K) (elts := elts) (kk := kk) (tpos := tpos) D).obj
  keep := (turn_zip (P := P) (w := w) (K := K) (elts := elts) (kk := kk) (tpos := tpos) D).keep
  item := by
    intro X hP hw hK i pins s σ H E I hf st hg
    subst hP hw hK
    obtain ⟨hz, hTI, ⟨x0, y0, hTO⟩, h1, h2⟩ := st
    obtain ⟨xs, ys, x, y, hqx, hqy, hx, hy⟩ := hg
    obtain ⟨its, rv, p, _⟩ := I.list hqx
    obtain ⟨its2, rv2, p2, _⟩ := I.list hqy
    obtain ⟨u, hu, ru⟩ := rv.get hx
    obtain ⟨u2, hu2, ru2⟩ := rv2.get hy
    have hzl : z < s.heap.objs.size := Heap.lt_size hz
    refine wpAny_pyNext_zip_item D hz hTI hTO h1 h2 p.isList p2.isList (x := u) (y := u2) (by simpa using hu) (by simpa using hu2) fun h' z' TO' h1' h2' hT hsz hk => ?_
    refine ⟨_, rfl, wpAny_letOwnedTupleGo_zip (s := { s with heap := h' }) z' fun h'' z'' sb => ?_⟩
    have hT2 : h''.get? s.heap.objs.size = some { cls := .type "tuple", data := .seq #[u, u2] } := (sb.2 _ (Nat.ne_of_gt hzl)).trans hT
    have new : ObjOk X.prog X.w (upd H s.heap.objs.size (.tup [x, y])) h'' s.heap.objs.size (.tup [x, y]) :=
      ⟨by show 2 ≤ sizeLine; decide, [u, u2], .cons ru (.cons ru2 .nil), ⟨_, hT2, rfl, _, rfl⟩⟩
    have I1 : Inv X pins σ (upd H s.heap.objs.size (.tup [x, y])) { s with heap := h'' } :=
      I.turnedNew (t' := s.toks) (ch := [z, TI, TO, i1, i2]) (fun c o hb q => (sb.2 c (fun q' => hb (by simp [q']))).trans (hk c o (fun q' => hb (by simp [q'])) (fun q' => hb (by simp [q'])) (fun q' => hb (by simp [q'])) (fun q' => hb (by simp [q'])) q)) hf (Nat.le_refl _) new
    refine ⟨.ref s.heap.objs.size, _, I1, rfl, ⟨_, x, y, rfl, I.hok.fresh (Nat.le_refl _), rfl, fun l hl => by rw [I.list_inj hl hqx]; exact hx, fun l hl => by rw [I.list_inj hl hqy]; exact hy⟩, ⟨z'', ?_, ⟨u, u2, ?_⟩, ?_, ?_⟩, fun c hcm => ?_⟩
    · exact (sb.2 _ D.TIz).trans (hk _ _ D.TIz D.TITO D.TIi1 D.TIi2 hTI)
    · exact (sb.2 _ D.TOz).trans TO'
    · exact h1'.at fun o q => (sb.2 _ D.i1z).trans q
    · exact h2'.at fun o q => (sb.2 _ D.i2z).trans q
    · have hlt : c < s.heap.objs.size := by
        rcases (show c = z ∨ c = TI ∨ c = TO ∨ c = i1 ∨ c = i2 by simpa using hcm) with q | q | q | q | q
        · rw [q]; exact hzl
        · rw [q]; exact Heap.lt_size hTI
        · rw [q]; exact Heap.lt_size hTO
        · rw [q]; obtain ⟨_, e1, _⟩ := h1; exact Heap.lt_size e1
        · rw [q]; obtain ⟨_, e2, _⟩ := h2; exact Heap.lt_size e2
      rw [upd_ne (Nat.ne_of_lt hlt)]
      exact (hf c hcm).1
  done := by
    intro X hP hw hK i pins s σ H E hot I hf st hg
    subst hP hw hK
    obtain ⟨hz, hTI, ⟨x0, y0, hTO⟩, h1, h2⟩ := st
    obtain ⟨xs, hqx, hend⟩ := hg
    obtain ⟨its, rv, p, _⟩ := I.list hqx
    have l1 := rv.length
    exact zip_end_hot hot n1 n2 D hz hTI h1 p.isList (by simp; omega) fun h' hk => ⟨rfl, I.turnedL (t' := s.toks) (ch := [z, TI, TO, i1, i2]) (fun c o hb q =>
      hk c o (fun q' => hb (by simp [q'])) (fun q' => hb (by simp [q'])) (fun q' => hb (by simp [q'])) (fun q' => hb (by simp [q'])) q) hf⟩
  self := fun A i s Q E st h => wpAny_pyIter_zip st.1 h
/-- what is known of the handled exception -/
structure HotP (X : Cx) (pins : List (Addr × Obj)) (H : Hp) (s : Shared) (x1 : Addr) : Prop where
  hot : HotAt X.A x1 s.heap
  free : H x1 = none
  nL : x1 ≠ X.env.locals
  nF : x1 ∉ X.fs
def PIEE (X : Cx) (pins : List (Addr × Obj)) (σ : L2.St) (x1 : Addr) (tg : Expr) (R : It → Hp → Prop) (itv : Value) (s2 : Shared) : Prop :=
  ∃ (it : Addr) (fp : List Addr) (tn : Nat → Heap → Prop) (J : It) (H' : Hp), itv = .ref it ∧ Inv X pins σ H' s2 ∧ TurnE x1 X.prog X.w X.K tg J fp it tn ∧ tn 0 s2.heap ∧ (∀ b ∈ fp, FpOk X pins H' b ∧ b ≠ x1) ∧ HotP X pins H' s2 x1 ∧ R J H'
structure PIX (X : Cx) (x1 : Addr) (tg iter : Expr) (wi : TI) : Prop where
  run : ∀ (pins : List (Addr × Obj)) (s : Shared) (σ : L2.St) (H : Hp) (R : It → Hp → Prop), Inv X pins σ H s → wi σ H R →
    wpAny (model X.prog X.w) X.A (eval iter X.env) (fun v s1 => wpAny (model X.prog X.w) X.A (pyIter v) (PIEE X pins σ x1 tg R) X.xe s1) X.xe s
end DL
namespace DL
open PySem PySem.Spec PyProof.Rows L2 HotX
section
variable {X : Cx}
theorem lcE_core {x1 : Addr} {pins : List (Addr × Obj)} {s : Shared} {σ : L2.St} {H : Hp} {Q : VK} {elt tg iter : Expr} {ifs : List Expr} {scope : Scope} {own : List (Str × Nat)} {pos pos' : Pos} {wi : TI} {g : TG} {tt : TT} {te : TE} {use : Option (Value → Sem Unit)} {Qf : Value → Shared → Prop}
    (hN : X.N.Nodup) (I : Inv X pins σ H s) (hi : PIX X x1 tg iter wi) (ok : BlkOk X.N X.env.scope scope own)
    (hg : ∀ (s : Shared) (H : Hp) (C : Addr) (cl : List (Str × Addr)) (fp : List Addr), HotI (X.blk s H scope (compEnvC scope cl C X.env) fp) x1 → PG (X.blk s H scope (compEnvC scope cl C X.env) fp) tg g) (ht : ∀ (s : Shared) (H : Hp) (C : Addr) (cl : List (Str × Addr)) (fp : List Addr), PTs (X.blk s H scope (compEnvC scope cl C X.env) fp) ifs tt)
    (he : ∀ (s : Shared) (H : Hp) (C : Addr) (cl : List (Str × Addr)) (fp : List Addr), PE (X.blk s H scope (compEnvC scope cl C X.env) fp) elt te) (hs : ∀ x, foldedSetIterable iter X.env x = pure x)
    (h : tLc wi g tt te (own.map (·.2)) σ H Q)
    (hRR : ∀ D C s' m H', Inv X pins σ H' s' → Q (.ref D) H' → s'.heap.Ns C m → FpOk X pins H' C → compPost (model X.prog X.w) X.A X.xe use Qf (.ref D) C (.ok .next) s') :
    wpAny (model X.prog X.w) X.A (comprehension (.ListComp elt [⟨tg, iter, ifs, 0⟩] scope pos) scope X.env pos' (newList []) false (eval iter X.env) use) Qf X.xe s := by
  have hfree : ∀ y ∈ scope.names, y.2 = .free → ∃ c, X.env.cells.lookup y.1 = some c := fun y hy e => by
    rcases ok.free y hy e with k | k
    · exact I.ok.has _ (.inl k)
    · exact I.ok.has _ (.inr k)
  refine wpAny_comprehension_free (use := use) rfl hs (closure_ok hfree) ok.kind (fun y hy e => by rw [ok.uniq y hy, e])
    (thn (hi.run pins s σ H _ I h) fun xv s1 hx => thn hx fun itv s2 h2 => ?_)
  obtain ⟨it, fp, tn, J, H2, e, I2, T, st2, f2, hp2, q⟩ := h2
  subst e
  refine wpAny_newObj_type (newEnv_comp ?_) (by show 0 ≤ sizeLine; decide)
  generalize hD : s2.heap.objs.size = D
  have hDn : H2 D = none := I2.hok.fresh (Nat.le_of_eq hD)
  obtain ⟨W, ⟨m0, w0⟩, turn⟩ := q D hDn
  generalize hs3 : ({ s2 with heap := s2.heap.push { cls := .type "list", data := .seq ([] : List Value).toArray } } : Shared) = s3
  have I3 : Inv X pins σ (upd H2 D (.lst [])) s3 := by
    rw [← hs3]
    refine I2.laid (t' := s2.toks) (fun b o e => Heap.get?_push_of_some _ e) (Nat.le_of_eq hD) ⟨Nat.zero_le _, [], 0, .nil, ?_⟩
    rw [← hD]
    exact Heap.get?_push_size _ rfl
  have h3 : s3.heap = s2.heap.push { cls := .type "list", data := .seq ([] : List Value).toArray } := by rw [← hs3]
  have sz : ∀ b ∈ fp, b < s2.heap.objs.size := fun b hb => by
    obtain ⟨o, e, _⟩ := T.obj _ _ st2 b hb
    exact Heap.lt_size e
  have f3 : ∀ b ∈ fp, FpOk X pins (upd H2 D (.lst [])) b ∧ b < s3.heap.objs.size := fun b hb => by
    have hlt := sz b hb
    refine ⟨⟨?_, ((f2 b hb).1).2⟩, by rw [h3, Heap.size_push]; exact Nat.lt_succ_of_lt hlt⟩
    rw [upd_ne (by rw [← hD]; exact Nat.ne_of_lt hlt)]
    exact (f2 b hb).1.1
  have st3 : tn 0 s3.heap := T.keep _ _ _ st2 fun b _ o e => by rw [h3]; exact Heap.get?_push_of_some _ e
  -- the handled exception
  have x1lt : x1 < s2.heap.objs.size := by
    obtain ⟨_, o, _, e, _⟩ := hp2.hot
    exact Heap.lt_size e
  have hot3 : HotAt X.A x1 s3.heap := hot_keep hp2.hot fun o e => by rw [h3]; exact Heap.get?_push_of_some _ e
  have x1n : (upd H2 D (.lst [])) x1 = none := by
    rw [upd_ne (by rw [← hD]; exact Nat.ne_of_lt x1lt)]
    exact hp2.free
  have I4 := block_start I3 ok hN f3
  have pg := hg s3 (upd H2 D (.lst [])) s3.heap.objs.size (cellsFrom (s3.heap.objs.size + 1) scope.names (cloFrom X.env.cells scope.names [])) fp
  have pt := ht s3 (upd H2 D (.lst [])) s3.heap.objs.size (cellsFrom (s3.heap.objs.size + 1) scope.names (cloFrom X.env.cells scope.names [])) fp
  have pe := he s3 (upd H2 D (.lst [])) s3.heap.objs.size (cellsFrom (s3.heap.objs.size + 1) scope.names (cloFrom X.env.cells scope.names [])) fp
  show codeAny _ _ (.compStart (.ListComp elt [⟨tg, iter, ifs, 0⟩] scope pos) 0 (.ref it) (.ref D) (compEnvC scope (cellsFrom (s3.heap.objs.size + 1) scope.names (cloFrom X.env.cells scope.names [])) s3.heap.objs.size X.env)) (compPost (model X.prog X.w) X.A X.xe use Qf (.ref D) s3.heap.objs.size) { s3 with heap := pushCells (s3.heap.push { cls := .type "dict", data := .dict #[] }) scope.names }
  have nfp : ∀ b ∈ fp, (upd H2 D (.lst [])) b = none := fun b hb => (f3 b hb).1.1
  generalize hce : compEnvC scope (cellsFrom (s3.heap.objs.size + 1) scope.names (cloFrom X.env.cells scope.names [])) s3.heap.objs.size X.env = ce at I4 pg pt pe ⊢
  have cL : ce.locals = s3.heap.objs.size := by subst hce; rfl
  generalize hH3 : upd H2 D (.lst []) = H3 at I3 I4 pg pt pe w0 nfp f3 x1n
  generalize hs4 : ({ s3 with heap := pushCells (s3.heap.push { cls := .type "dict", data := .dict #[] }) scope.names } : Shared) = s4 at I4 ⊢
  have st4 : tn 0 s4.heap := T.keep _ _ _ st3 fun b _ o e => by rw [← hs4]; exact pushCells_keeps _ _ _ _ (Heap.get?_push_of_some _ e)
  have stat : ∀ {σ' : L2.St} {H' : Hp} {s' : Shared}, Inv (X.blk s3 H3 scope ce fp) [] σ' H' s' → (∀ b ∈ fp, H' b = none) → ∀ b ∈ fp, FpOk (X.blk s3 H3 scope ce fp) [] H' b := fun {σ' H' s'} I' hn b hb =>
    ⟨hn b hb, (I'.ok.exf b hb).1, I'.ok.exfs b hb, .inl hb, fun x c e => (I'.ok.exf b hb).2 x c e, fun p hp => absurd (show p ∈ ([] : List (Addr × Obj)) ++ [] from hp) (by simp)⟩
  have x1fs : x1 ∉ frs X.stack := fun hm => (List.mem_cons.mp (I3.stkSub x1 hm)).elim hp2.nL hp2.nF
  have hotB : HotI (X.blk s3 H3 scope ce fp) x1 := fun pins' σ' H' s' I' => hot_keep hot3 fun o e =>
    I'.base.keep x1 o e x1n x1fs fun z => (f2 x1 z).2 rfl
  have loop : codeAny (model X.prog X.w) X.A (.compLoop (.ListComp elt [⟨tg, iter, ifs, 0⟩] scope pos) 0 (.ref it) (.ref D) ce) (compPost (model X.prog X.w) X.A X.xe use Qf (.ref D) s3.heap.objs.size) s4 := by
    refine compLoop_any (fun n s' => ∃ i H', Inv (X.blk s3 H3 scope ce fp) [] (L2.wipe σ (own.map (·.2))) H' s' ∧ tn i s'.heap ∧ (∀ b ∈ fp, H' b = none) ∧ W i n H') ?_ m0 ⟨0, H3, I4, st4, nfp, w0⟩
    rintro n s5 ⟨i, H5, I5, st5, n5, w5⟩
    rcases turn i n H5 w5 with ⟨stop, qq⟩ | ⟨go, Nx, hNx, step⟩
    · have td := T.done (X.blk s3 H3 scope ce fp) rfl rfl rfl i [] s5 _ H5 (fun _ _ => False) (hotB _ _ _ _ I5) I5 (stat I5 n5) st5 stop
      refine thnF td fun r s6 ⟨hr, I6⟩ => ?_
      subst hr
      have I7 : Inv X pins σ H5 s6 := I3.call' (ch := fp) I6.os I6.base I6.hok I6.bare fun b hb => ⟨(f3 b hb).1.2.2.2.1, (f3 b hb).1.2.1, (f3 b hb).1.2.2.2.2.1, (f3 b hb).1.2.2.2.2.2⟩
      have nC : H5 s3.heap.objs.size = none := by
        have z : H5 ce.locals = none := I6.free
        rw [cL] at z
        exact z
      obtain ⟨m, hn, _⟩ := I6.loc
      have hn : s6.heap.Ns ce.locals m := hn
      rw [cL] at hn
      exact hRR D s3.heap.objs.size s6 m H5 I7 qq hn (I3.fpOk (Nat.le_refl _) nC)
    · have ti := T.item (X.blk s3 H3 scope ce fp) rfl rfl rfl i [] s5 _ H5 (fun _ _ => False) I5 (stat I5 n5) st5 go
      refine thnF ti fun r s6 ⟨u, hr, h6⟩ => ?_
      subst hr
      refine thnF h6 fun _ s7 ⟨x, H7, I7, r7, y7, st7, n7⟩ => ?_
      have I7' := I7.pinned (stat I7 n7) (T.obj _ _ st7)
      refine thnF ((pg hotB).run _ s7 _ H7 x u _ I7' r7 (step x H7 y7)) fun _ s8 ⟨σ8, H8, I8, hw8, q8⟩ => ?_
      refine thnF (pt.run _ s8 σ8 H8 _ I8 q8) fun b s9 ⟨H9, I9, q9⟩ => ?_
      have fin : ∀ {s' : Shared} {H' : Hp}, Inv (X.blk s3 H3 scope ce fp) ([] ++ pinsAt fp s7.heap) σ8 H' s' → Nx H' → ∃ m, m < n ∧ ∃ i H', Inv (X.blk s3 H3 scope ce fp) [] (L2.wipe σ (own.map (·.2))) H' s' ∧ tn i s'.heap ∧ (∀ b ∈ fp, H' b = none) ∧ W i m H' := fun {s' H'} I' nx => by
        obtain ⟨m', hm, w'⟩ := hNx H' nx
        have pin' : ∀ b ∈ fp, ∀ o, s7.heap.get? b = some o → s'.heap.get? b = some o ∧ H' b = none := fun b hb o e =>
          let z := I'.pin (b, o) (List.mem_append_right _ (List.mem_append_right _ (mem_pinsAt hb e)))
          ⟨z.1, z.2.1⟩
        have hl : (L2.wipe σ (own.map (·.2))).length = σ8.length := by rw [← hw8, wipe_length]
        refine ⟨m', hm, i + 1, H', (I'.unpinned (pins := [])).weak hl (fun j v e => ?_), T.keep _ _ _ st7 fun b hb o e => (pin' b hb o e).1, fun b hb => ?_, w'⟩
        · rw [← hw8] at e
          exact (wipe_some e).1
        · obtain ⟨o, e, _⟩ := T.obj _ _ st7 b hb
          exact (pin' b hb o e).2
      cases b with
      | false =>
        simp only [Bool.false_eq_true, if_false] at q9 ⊢
        exact fin I9 q9
      | true =>
        simp only [if_true] at q9 ⊢
        refine thnF (pe.run _ s9 σ8 H9 _ I9 q9) fun z s10 ⟨yv, H10, I10, r10, acc, hD10, hz10, nx⟩ => ?_
        exact app_ok (X := X.blk s3 H3 scope ce fp) I10 hD10 hz10 r10 fun s11 I11 => fin I11 nx
  exact codeAny_compStart_list loop (T.self X.A 0 _ _ _ st4 loop)
theorem pe_lcE {x1 : Addr} {elt tg iter : Expr} {ifs : List Expr} {scope : Scope} {own : List (Str × Nat)} {pos : Pos} {wi : TI} {g : TG} {tt : TT} {te : TE} (hN : X.N.Nodup) (hi : PIX X x1 tg iter wi) (ok : BlkOk X.N X.env.scope scope own)
    (hg : ∀ (s : Shared) (H : Hp) (C : Addr) (cl : List (Str × Addr)) (fp : List Addr), HotI (X.blk s H scope (compEnvC scope cl C X.env) fp) x1 → PG (X.blk s H scope (compEnvC scope cl C X.env) fp) tg g) (ht : ∀ (s : Shared) (H : Hp) (C : Addr) (cl : List (Str × Addr)) (fp : List Addr), PTs (X.blk s H scope (compEnvC scope cl C X.env) fp) ifs tt)
    (he : ∀ (s : Shared) (H : Hp) (C : Addr) (cl : List (Str × Addr)) (fp : List Addr), PE (X.blk s H scope (compEnvC scope cl C X.env) fp) elt te) (hs : ∀ x, foldedSetIterable iter X.env x = pure x := by intro _; rfl) :
    PE X (.ListComp elt [⟨tg, iter, ifs, 0⟩] scope pos) (tLc wi g tt te (own.map (·.2))) := by
  refine ⟨fun pins s σ H Q I h => ?_⟩
  rw [eval_ListComp]
  refine lcE_core hN I hi ok hg ht he hs h fun D C s' m H' I' q hn f => ⟨m, hn, fun h'' sb => ?_⟩
  obtain ⟨f0, f1, f2, f3, f4, f5⟩ := f
  exact ⟨.ref D, H', I'.turned (t' := s'.toks) (fun b o hb e => (sb.2 b hb).trans e) f0 f1 f3 f4 f5, rfl, q⟩
/-- zip(e, e2), two lists, where p's exception is handled and pinned -/
def iZipE (K : Fg) (ta : TA) : TI := fun σ H R => ta σ H fun vs H1 => ∃ a b xs ys, vs = [.ref a, .ref b] ∧ SqL K H1 a xs ∧ SqL K H1 b ys ∧ R (ItzE K a b) H1
theorem pi_zipE {p1 : Addr × Obj} {e e2 : Expr} {ta : TA} {p pos tpos : Pos} {elts : List Expr} {kk : Nat} (hot : L2H.Hot1 X.A p1) (hp : p1 ∈ X.pn) (hg : Gl X "zip") (hm : X.mg "zip" = none) (ha : PA X [e, e2] ta)
    (hs : starEach [e, e2] X.env = (false, eval e X.env) :: starEach [e2] X.env := by rfl) (hpl : (backTo pos (starEach [e2] X.env)).any (·.1) = false := by rfl) :
    PIX X p1.1 (.Tuple elts kk tpos) (.Call (.Name "zip" p) [e, e2] [] pos) (iZipE X.K ta) := by
  refine ⟨fun pins s σ H R I h => ?_⟩
  refine Call_ (ld_blt I hg hm PyProof.Rows.boot_zip (PyProof.Rows.callWith_type1 (thn (ha.run pos pins s σ H _ I h) fun us s1 hh => ?_) hs hpl))
  obtain ⟨vs, H1, I1, r1, a, b, xs, ys, ex, hqx, hqy, q⟩ := hh
  subst ex
  match us, r1 with
  | [_, _], .cons r (.cons r' .nil) =>
    cases r
    cases r'
    obtain ⟨its, rv, p1', _⟩ := I1.list hqx
    obtain ⟨its2, rv2, p2, _⟩ := I1.list hqy
    have la : a < s1.heap.objs.size := p1'.lt
    have lb : b < s1.heap.objs.size := p2.lt
    obtain ⟨pg, pf, pL, pF, _⟩ := I1.pin p1 (List.mem_append_left _ hp)
    have xlt : p1.1 < s1.heap.objs.size := Heap.lt_size pg
    refine call_zip_2 p1'.isList p2.isList fun h' hz hTI hTO h1 h2 hsz hk => wpAny_pyIter_zip hz ?_
    have I2 : Inv X pins σ H1 { s1 with heap := h' } := I1.kept (t' := s1.toks) hk
    refine ⟨s1.heap.objs.size + 4, [s1.heap.objs.size + 4, s1.heap.objs.size + 2, s1.heap.objs.size + 3, s1.heap.objs.size, s1.heap.objs.size + 1], _, _, H1, rfl, I2,
      turn_zipE (x1 := p1.1) (PySem.W.ktu_apart s1.heap.objs.size a b la lb) (Nat.ne_of_lt (Nat.lt_of_lt_of_le xlt (Nat.le_add_right _ _))) (Nat.ne_of_lt xlt), ⟨hz, hTI, ⟨_, _, hTO⟩, h1, h2⟩, fun c hcm => ?_, ⟨?_, pf, pL, pF⟩, q⟩
    · have hle : s1.heap.objs.size ≤ c := by
        rcases (show c = s1.heap.objs.size + 4 ∨ c = s1.heap.objs.size + 2 ∨ c = s1.heap.objs.size + 3 ∨ c = s1.heap.objs.size ∨ c = s1.heap.objs.size + 1 by simpa using hcm) with z | z | z | z | z
        · rw [z]; exact Nat.le_add_right _ _
        · rw [z]; exact Nat.le_add_right _ _
        · rw [z]; exact Nat.le_add_right _ _
        · rw [z]; exact Nat.le_refl _
        · rw [z]; exact Nat.le_add_right _ _
      exact ⟨I1.fpOk hle (I1.hok.fresh hle), Nat.ne_of_gt (Nat.lt_of_lt_of_le xlt hle)⟩
    · obtain ⟨hh, vs', e1, e2'⟩ := hot
      exact ⟨hh, p1.2, vs', hk _ _ pg, e1, e2'⟩
end
end DL

set_option Elab.async false
set_option linter.all false
set_option maxRecDepth 100000
set_option maxHeartbeats 4000000
namespace DL
open PySem PySem.Spec PyProof.Rows L2 HotX L2H
/-! ### defs called in an except suite with the exception itself -/
structure FnE (P : Program) (w : World) (K : Fg) (mg : Str → Option Value) (base : Heap) (CX : CXT) (k : Nat) (f : Addr) (fd : FuncData) (ps : List Str) (sp : Addr × Obj → Sp) : Prop where
  len : ∀ p vs H Q E, sp p vs H Q E → vs.length = ps.length
  run : ∀ (A : Around) (outer : List Env) (s : Shared) (H : Hp) (args : Args) (us : List Value) (vs : List V) (Q : VK) (E : XK) (p : Addr × Obj), RoomH k A → Hot1 A p → PinOk outer H s p → Env0 P w K mg base A outer s H → BindsTo s fd args (ps.zip us) → Vals vs us → sp p vs H Q E →
    codeAny (model P w) A (.call (.ref f) args) (CR CX outer P w H s Q E) s
theorem fn_ofE {CX : CXT} {P : Program} {w : World} {K : Fg} {mg : Str → Option Value} {base : Heap} {k : Nat} {f : Addr} {name qual : Str} {params : Arguments} {body : List Stmt} {scope : Scope} {fd : FuncData}
    {N ps : List Str} {sp : Addr × Obj → Sp} (Fn : FunD K name qual params body scope [] [] f fd) (S : FnScope N ps scope) (len : ∀ p vs H Q E, sp p vs H Q E → vs.length = ps.length)
    (hbody : ∀ (cdv : Value) (A : Around) (outer : List Env) (s : Shared) (H : Hp) (vs : List V) (Q : VK) (E : XK) (p : Addr × Obj), Hot1 A p → RoomH k (A.deeper (envOfC qual scope s.heap.objs.size f cdv)) → sp p vs H Q E →
      ∃ t, PSs (cxH CX P w K mg base N qual scope f cdv A outer s H E p) body t ∧ t { nx := fun _ H' => Q .non H', rt := Q } (L2.start N vs) H) :
    FnE P w K mg base CX (k + 1) f fd ps sp := by
  obtain ⟨oc, od, dV, kV, doc, pm, an, cdv, ct, osl, rfl, lk, hcd, _, _⟩ := Fn.ex
  refine ⟨len, fun A outer s H args us vs Q E p hr hot hpin e0 hb r hsp => ?_⟩
  have hl := len _ _ _ _ _ hsp
  have KX : K.In s.heap := e0.mod.kin.keeps fun b o e => (e0.bs b o e).1
  have lim : s.heap.NoLimit := e0.mod.nolimit.keeps fun b o e => (e0.bs b o e).1
  have hkind : ∀ y ∈ ps.zip us, scope.names.lookup y.1 = some .local ∨ (scope.names.lookup y.1 = some .cell ∧ ((cellsFrom (s.heap.objs.size + 1) scope.names []).lookup y.1).isSome = true) := fun ⟨n, v⟩ hy => by
    rcases S.par n (List.of_mem_zip hy).1 with q | q
    · exact .inl q
    · exact .inr ⟨q, PySem.W.cellsFrom_some _ _ _ (.inl q)⟩
  refine codeAny_call_function hr.depth (KX _ _ lk) rfl S.co S.gen rfl (PySem.W.codeRec_of KX hcd) (hb _ _ _ _ ?_)
  refine wpAny_newFunctionEnv_cells S.kind hkind fun env he s1 x => ?_
  subst he
  refine ⟨lim.keeps x.toInCall.keep, codeAny_func ?_⟩
  obtain ⟨t, ht, hq⟩ := hbody cdv A outer s H vs Q E p hot (hr.deeper _) hsp
  have I : Inv (cxH CX P w K mg base N qual scope f cdv A outer s H E p) [] (L2.start N vs) H s1 := inv_startH S hpin e0 hl r x
  refine wpAny_mono (ht.run [] s1 (L2.start N vs) H _ I hq) (fun fl s' hs => ?_) fun e s' hs => hs
  have fin : ∀ {σ' : L2.St} {H' : Hp} {v : V} {u : Value}, Inv (cxH CX P w K mg base N qual scope f cdv A outer s H E p) [] σ' H' s' → L2.RelV v u → Q v H' → CE outer P w H s Q u s' :=
    fun {σ' H' v u} J rv q => ⟨v, H', J.os, J.bare, J.base, J.hok, rv, q⟩
  cases fl with
  | next =>
    obtain ⟨σ', H', J, q⟩ := hs
    exact fin (v := V.non) (u := Value.none) J rfl q
  | ret u =>
    obtain ⟨v, σ', H', J, rv, q⟩ := hs
    exact fin J rv q
  | brk =>
    obtain ⟨_, _, _, q⟩ := hs
    exact False.elim q
  | cont =>
    obtain ⟨_, _, _, q⟩ := hs
    exact False.elim q
section
variable {X : Cx} {CX : CXT} {k : Nat} {f : Addr} {fd : FuncData} {ps : List Str} {sp : Addr × Obj → Sp} {x : Str} {q pos : Pos} {e : Expr} {es : List Expr} {t : TA} {p : Addr × Obj}
/-- f(e, ..), no exception comes of it -/
theorem pe_callE (F : FnE X.prog X.w X.K X.mg X.base CX k f fd ps sp) (hCX : ∀ outer H s e s', CX outer H s (fun _ _ _ => False) e s' → False) (hr : RoomH k X.A) (hot : Hot1 X.A p) (hp : p ∈ X.pn) (hg : Gl X x) (hm : X.mg x = some (.ref f)) (hk : PySem.W.keepIn X.K (.ref f) = true) (hb : L2.Binds X.K fd ps [])
    (ha : PA X (e :: es) t) (hdb : (x == ("__debug__" : Str)) = false := by decide) (he : starEach (e :: es) X.env = (false, eval e X.env) :: starEach es X.env := by rfl) (hpl : (backTo pos (starEach es X.env)).any (·.1) = false := by rfl) :
    PE X (.Call (.Name x q) (e :: es) [] pos) (fun σ H Q => t σ H fun vs H1 => sp p vs H1 Q fun _ _ _ => False) := by
  refine ⟨fun pins s σ H Q I h => ?_⟩
  refine wpAny_Call_Name_kw (ld_glob I hg hm ?_ hdb)
  refine PySem.W.callWith_K (h₀ := X.base) I.ok.mod.kin hk (thn (ha.run pos pins s σ H _ I h) fun us s1 hh => ?_) he hpl
  obtain ⟨vs, H1, I1, r, q⟩ := hh
  refine ⟨I1.kIn, ?_⟩
  have hl : us.length = ps.length := by rw [← r.length]; exact F.len _ _ _ _ _ q
  have b := hb s1 us I1.kIn (by rw [List.append_nil]; exact hl)
  rw [List.append_nil] at b
  have P1 := I1.pin p (List.mem_append_left _ hp)
  have hpin : PinOk X.stack H1 s1 p := ⟨P1.1, P1.2.1, fun hm => (List.mem_cons.mp (I1.stkSub p.1 hm)).elim P1.2.2.1 P1.2.2.2.1, P1.2.2.2.2⟩
  refine wpAny_call (codeAny_mono (F.run X.A X.stack s1 H1 ⟨us, []⟩ us vs Q (fun _ _ _ => False) p hr hot hpin I1.env0 b r q) fun r s' hq => ?_)
  cases r with
  | error e => exact (hCX _ _ _ _ _ hq).elim
  | ok fl =>
    cases fl with
    | ret u => exact I1.after hq
    | next => exact False.elim hq
    | brk => exact False.elim hq
    | cont => exact False.elim hq
end
/-! ### isinstance(e, c), e the handled exception -/
theorem call_isP {X : Cx} {D : Addr} {p : Addr × Obj} (C : ExcC X.K D) (hz : Zc (.ref D) none p.2) (hf : ∃ vs, p.2.data = .fields vs) (hp : p ∈ X.pn) : CallR X (.builtin "isinstance") (rIsE X.K D p.1) := by
  intro pins s σ H xs us Q I r h
  obtain ⟨c, cv, b, rfl, hcv, e, q⟩ := h
  match us, r with
  | [_, _], .cons rx (.cons rt .nil) =>
    cases rx
    have ec := hcv _ rt
    subst ec
    obtain ⟨hget, _⟩ := I.pin p (List.mem_append.mpr (.inl hp))
    obtain ⟨vs, hv⟩ := hf
    have J : PySem.W.InstAt s.heap p.1 p.2 D none := by
      obtain ⟨a, oc, od, oda, osl⟩ := p
      obtain ⟨h1, h2⟩ := hz
      dsimp only at h1 h2 hv
      subst h1 h2 hv
      exact ⟨hget, rfl, rfl, trivial⟩
    exact PySem.W.kia_one (PySem.W.handS_kitx_exc C.hg C.hk C.hs C.hd C.ha C.hn C.ht C.hm) I.kIn J e (fun z => nomatch z) fun tk => ⟨.bl b, H, I.kept (t' := tk) fun _ _ z => z, rfl, q⟩
def gIsE (K : Fg) (D a : Addr) : DOL := fun xs M P => match xs with
  | [.ref b, .ref C] => b = a ∧ ∃ f, PySem.W.kitOne K (.ref D) (.ref C) = some f ∧ P (.bl f) M
  | [.ref b, .ty n] => b = a ∧ ∃ f, PySem.W.kitOne K (.ref D) (.type n) = some f ∧ P (.bl f) M
  | _ => False
theorem ol_isE {K : Fg} {D a : Addr} : OpL K (rIsE K D a) (gIsE K D a) := fun M F xs vs H P Q q dj mo rs fin => by
  unfold gIsE at q
  split at q
  · match vs, rs with
    | [_, _], .cons (.ref _) (.cons (.ref _) .nil) =>
      obtain ⟨rfl, f, e, q⟩ := q
      exact ⟨_, _, f, rfl, fun u r => r, e, fin.val dj mo q (.bl _)⟩
  · match vs, rs with
    | [_, _], .cons (.ref _) (.cons (.ty _) .nil) =>
      obtain ⟨rfl, f, e, q⟩ := q
      exact ⟨_, _, f, rfl, fun u r => r, e, fin.val dj mo q (.bl _)⟩
  · exact q.elim
/-! ### hot comprehension, as data -/
def DIX (X : Cx) (c : DC) (x1 : Addr) (tg e : Expr) (t : DTI) : Prop := PIX X x1 tg e (Li X.K c t)
section
variable {X : Cx} {c : DC} {pos p : Pos} {ti : DTI} {g : DTG} {tt : DTT} {te : DTE} {tg iter elt e e2 : Expr} {ifs : List Expr} {scope : Scope} {own : List (Str × Nat)} {x1 : Addr} {p1 : Addr × Obj}
theorem d_lcE (hN : X.N.Nodup) (hi : DIX X c x1 tg iter ti) (ok : BlkOk X.N X.env.scope scope own)
    (hg : ∀ (s : Shared) (H : Hp) (C : Addr) (cl : List (Str × Addr)) (fp : List Addr), HotI (X.blk s H scope (compEnvC scope cl C X.env) fp) x1 → DG (X.blk s H scope (compEnvC scope cl C X.env) fp) c.mute (own.map (·.2)) tg g) (ht : ∀ (s : Shared) (H : Hp) (C : Addr) (cl : List (Str × Addr)) (fp : List Addr), DTs (X.blk s H scope (compEnvC scope cl C X.env) fp) c.mute ifs tt)
    (he : ∀ (s : Shared) (H : Hp) (C : Addr) (cl : List (Str × Addr)) (fp : List Addr), DE (X.blk s H scope (compEnvC scope cl C X.env) fp) c.mute elt te) (hs : ∀ x, foldedSetIterable iter X.env x = pure x := by intro _; rfl) :
    DE X c (.ListComp elt [⟨tg, iter, ifs, 0⟩] scope pos) (dComp (own.map (·.2)) ti g tt te) := (pe_lcE (g := Lg X.K c.mute (own.map fun (x : Str × Nat) => x.2) g) (tt := Lt X.K c.mute tt) (te := Lf X.K c.mute te) hN hi ok hg ht he hs).imp fun _ _ _ => lc_cold
def dZipE (ta : DTA) : DTI := fun ds M P => ta ds M fun zs M1 => match zs with
  | [.lst xs, .lst ys] => xs.length = ys.length ∧ P (zipD xs ys) M1
  | _ => False
theorem _root_.DL.PIX.imp {t u : TI} (h : PIX X x1 tg e t) (i : ∀ σ H Q, u σ H Q → t σ H Q) : PIX X x1 tg e u := ⟨fun pins s σ H R I q => h.run pins s σ H R I (i _ _ _ q)⟩
theorem d_zipE {ta : DTA} {elts : List Expr} {kk : Nat} {tpos : Pos} (hot : Hot1 X.A p1) (hp : p1 ∈ X.pn) (hg : Gl X "zip") (hm : X.mg "zip" = none) (ha : DA X c [e, e2] ta) (hs : starEach [e, e2] X.env = (false, eval e X.env) :: starEach [e2] X.env := by rfl) (hpl : (backTo pos (starEach [e2] X.env)).any (·.1) = false := by rfl) :
    DIX X c p1.1 (.Tuple elts kk tpos) (.Call (.Name "zip" p) [e, e2] [] pos) (dZipE ta) := (pi_zipE hot hp hg hm ha hs hpl).imp fun σ H R ⟨ds, M, F, P, at', ht, fin⟩ => ⟨ds, M, F, _, at', ht, fun zs M1 vs H1 q dj ev mo rp => by
    split at q
    · match vs, rp with
      | [_, _], .cons (.lst hs hn hl) (.cons (.lst hs2 hn2 hl2) .nil) =>
        refine ⟨_, _, _, _, rfl, .of hs, .of hs2, fin _ M1 H1 _ q.2 dj ev mo fun A1 H2 kp mo2 => ?_⟩
        have q1 : SqL X.K H2 _ _ := .of (kp.lst _ _ hs hn).1
        have q2 : SqL X.K H2 _ _ := .of (kp.lst _ _ hs2 hn2).1
        have el := q.1
        have l1 := hl.length
        have l2 := hl2.length
        refine ⟨fun i hi => ?_, ⟨_, q1, ?_⟩, fun i x H3 d hd y => ?_⟩
        · rw [zipD_len hl hl2] at hi
          exact ⟨_, _, _, _, q1, q2, List.getElem?_eq_getElem (by omega), List.getElem?_eq_getElem (by omega)⟩
        · rw [zipD_len hl hl2]; omega
        · obtain ⟨T, x', y', rfl, nT, rfl, f1, f2⟩ := y
          exact zip_yield (RpL.kp kp _ hl) (RpL.kp kp _ hl2) mo2 nT (f1 _ q1) (f2 _ q2) hd
    · exact q.elim⟩
theorem d_gtE {es : List Expr} {k n : Nat} {vs : List Nat} {t : DTGs} (hc : HotI X x1) (h : DGs X c vs es t) (hn : (assignEach es X.env).length = n := by rfl) (hst : (assignEach es X.env).findIdx? (·.1) = none := by rfl) : DG X c vs (.Tuple es k pos) (dgT n t) :=
  (pg_tupE hc h hn hst).imp fun v σ H Q ⟨d, ds, M, F, P, at', rp, ht, fin⟩ => by
    cases d with
    | tup xs =>
      cases rp with
      | tup hs hl => exact ⟨_, _, rfl, hs, hl.length.trans ht.1, xs, ds, M, F, P, at', hl, ht.2, fin⟩
    | _ => exact ht.elim
/-- a.split(b) -/
def dSplit (ta tb : DTE) : DTE := fun ds M P => ta ds M fun x M1 => match x with
  | .str a => tb ds M1 fun y M2 => (match y with
    | .str b => ((b.length == 0) = false ∧ a.length + 2 ≤ sizeLine) ∧ P (.lst ((Txt.split a b).map D.str)) M2
    | _ => False)
  | _ => False
variable {a b : Expr} {ta tb : DTE} {apos : Pos}
theorem d_split (ha : DE X c a ta) (hb : DE X c b tb) (hs : starEach [b] X.env = [(false, eval b X.env)] := by rfl) (hbase : attributeBase a "split" X.env (eval a X.env) = eval a X.env := by rfl) (hline : (apos.endLine == pos.line) = true := by rfl) :
    DE X c (.Call (.Attribute a "split" apos) [b] [] pos) (dSplit ta tb) := (pe_split ha hb hs hbase hline).imp fun σ H Q ⟨ds, M, F, P, at', ht, fin⟩ => ⟨ds, M, F, _, at', ht, fun x M1 v H1 q dj ev mo rp => by
    cases x with
    | str z =>
      cases rp
      refine ⟨⟨_, rfl⟩, ds, M1, F, _, at'.go dj ev mo, q, fun y M2 w H2 q2 dj2 ev2 mo2 rp2 => ?_⟩
      cases y with
      | str u =>
        cases rp2
        exact ⟨z, u, rfl, rfl, q2.1.1, q2.1.2, fin_lst (fin.ev (ev.trans ev2)) dj2 mo2 (rpL_strs _) q2.2⟩
      | _ => exact q2.elim
    | _ => exact q.elim⟩
end
end DL

set_option Elab.async false
set_option linter.all false
set_option maxRecDepth 100000
set_option maxHeartbeats 4000000
namespace DL
open PySem PySem.Spec PyProof.Rows L2 LamX
/-! ### a lambda handed to a def: exceptions whose context is None -/
def lamN (X : Cx) (A : Around) (outer : List Env) (s : Shared) (H : Hp) (E : XK) (scope : Scope) (f c' : Addr) : Cx :=
  { lamCx X A outer s H E scope f c' with xe := fun e s' => wpAny (model X.prog X.w) (A.deeper (lamEnv X scope s.heap.objs.size f c')) (leaving (lamEnv X scope s.heap.objs.size f c') e) (fun _ s'' => L2N.CX X.prog X.w outer H s E e s'') (fun e' s'' => L2N.CX X.prog X.w outer H s E e' s'') s' }
section
variable {X : Cx} {pins : List (Addr × Obj)} {σ : L2.St} {H HZ : Hp} {s s1 : Shared}
theorem inv_lamN {A : Around} {outer : List Env} {E : XK} {scope : Scope} {f c' : Addr} {pins : List (Addr × Obj)} {σ : L2.St} {H HZ : Hp} {s s1 : Shared} (I : Inv (lamCx X A outer s1 HZ E scope f c') pins σ H s) : Inv (lamN X A outer s1 HZ E scope f c') pins σ H s :=
  ⟨⟨I.ok.mod, I.ok.kind, I.ok.glob, I.ok.blt, I.ok.above, I.ok.inj, I.ok.has, I.ok.cab, I.ok.hd, I.ok.frames, I.ok.stk, I.ok.exf, I.ok.bs, I.ok.bsz, I.ok.noex, I.ok.exfs, I.ok.funs, I.ok.frf⟩, I.os, I.bare, I.base, I.loc, I.cell, I.free, I.freeC, I.pin, I.hok, I.len⟩
theorem pe_actN {CXg : CXT} {Eg : XK} {Ng : List Str} {qg : Str} {sg : Scope} {g f c' : Addr} {cdg pm ctv : Value} {params : Arguments} {body : Expr} {scope : Scope} {k i : Nat} {a : Str} {pn : List (Addr × Obj)} {xe : Value → Shared → Prop} {W : WX} {E : XK} {tb : TE} {p1 p2 : Pos}
    (I : Inv X pins σ H s) (L : LamS X.env.scope scope) (hf : s.heap.get? f = some (PySem.W.kla_obj "<lambda>" (X.env.qual ++ "<lambda>") params body scope (cloFrom X.env.cells scope.names []) pm c' ctv)) (hfn : H f = none) (hfr : f ∉ frs X.stack)
    (hbind : bindArgs (PySem.W.kla_fn "<lambda>" (X.env.qual ++ "<lambda>") params body scope (cloFrom X.env.cells scope.names []) pm (.ref c') ctv) ⟨[], []⟩ = pure [])
    (tk : L2N.Takes ((cxOf CXg X.prog X.w X.K X.mg X.base Ng qg sg g cdg X.A X.stack s H Eg).tr pn xe) W) (hW : ∀ cls d σ' H', E cls d H' → W cls d σ' H') (hr : Room (k + 1) (X.A.deeper (envOfC qg sg s.heap.objs.size g cdg)))
    (hbody : ∀ (A : Around) (outer : List Env) (s : Shared) (H : Hp), Room k (A.deeper (lamEnv X scope s.heap.objs.size f c')) → PE (lamN X A outer s H E scope f c') body tb)
    (hN : Ng[i]? = some a) (hv : Vis sg a) (hd : (a == ("__debug__" : Str)) = false := by decide) (hcd : (a == ("__classdict__" : Str)) = false := by decide) :
    PE ((cxOf CXg X.prog X.w X.K X.mg X.base Ng qg sg g cdg X.A X.stack s H Eg).tr pn xe) (.Call (.Name a p1) [] [] p2)
      (fun σZ HZ Q => σZ[i]? = some (some (.ref f)) ∧ HZ c' = some (CodeO c' (X.env.qual ++ "<lambda>")) ∧ tb σ HZ Q) := by
  refine ⟨fun pinsZ sZ σZ HZ Q IZ h => ?_⟩
  obtain ⟨hs, hc, ht⟩ := h
  refine wpAny_Call_Name_kw (thn ((pe_var (pos := p1) (i := i) hN hv hd hcd).run pinsZ sZ σZ HZ (fun v H1 => v = .ref f ∧ H1 = HZ) IZ ⟨.ref f, hs, rfl, rfl⟩) fun u s1 hh => ?_)
  obtain ⟨v, H1, I1, r1, ev, eH⟩ := hh
  subst ev
  rw [eH] at I1
  obtain rfl : u = Value.ref f := r1
  have of1 : s1.heap.get? f = some (PySem.W.kla_obj "<lambda>" (X.env.qual ++ "<lambda>") params body scope (cloFrom X.env.cells scope.names []) pm c' ctv) := I1.base.keep f _ hf hfn hfr (fun z => nomatch (show f ∈ ([] : List Addr) from z))
  refine PySem.W.callWith_F0 ⟨_, _, _, _, of1⟩ ?_
  have un : Un (frs X.stack) [] H HZ s.heap s1.heap := I1.base
  obtain ⟨⟨oc, vs, t, hoc, hdc, hvc⟩, _, _⟩ := I1.hok c' _ hc
  have rc : codeAny (model X.prog X.w) (X.A.deeper (envOfC qg sg s.heap.objs.size g cdg)) (.call (.ref f) ⟨[], []⟩) (CR (L2N.CX X.prog X.w) (envOfC qg sg s.heap.objs.size g cdg :: X.stack) X.prog X.w HZ s1 Q E) s1 := by
    refine PySem.W.kla_callFunE hr.depth of1 rfl L.co L.gen rfl ⟨c', oc, vs, t, rfl, hoc, hdc, hvc⟩ ?_
    rw [hbind]
    refine wpAny_pure (wpAny_newFunctionEnv (fun y hy => (L.own y hy).2) (fun y hy => absurd hy (by simp)) (fun hz hns hsb => ⟨I1.nolimit.fresh _ hsb, ?_⟩) L.kind)
    show codeAny _ _ (.expr body (lamEnv X scope s1.heap.objs.size f c')) _ _
    have kp : ∀ b o, s1.heap.get? b = some o → hz.get? b = some o := fun b o e => hsb.extBut b o (Nat.ne_of_lt (Heap.lt_size e)) (Heap.get?_push_of_some _ e)
    have J : Inv (lamN X (X.A.deeper (envOfC qg sg s.heap.objs.size g cdg)) (envOfC qg sg s.heap.objs.size g cdg :: X.stack) s1 HZ E scope f c') [] σ HZ { s1 with heap := hz, toks := s1.toks + ([] : List (Str × Value)).length } :=
      inv_lamN (lam_start2 I L I1.env0 hr.hd un hns kp)
    refine PySem.W.kla_codeExpr (wpAny_mono ((hbody _ _ s1 HZ (hr.deeper _)).run [] _ _ HZ Q J ht) (fun v s' hq => ?_) fun e s' hq => hq)
    obtain ⟨w', H', J', rv, q⟩ := hq
    exact ⟨w', H', J'.os, J'.bare, J'.base, J'.hok, rv, q⟩
  have hx := L2N.passes_call tk hW
  refine wpAny_call (codeAny_mono rc fun r s' hq => ?_)
  cases r with
  | error e => exact hx pinsZ σZ HZ s1 e s' I1 hq
  | ok fl =>
    cases fl with
    | ret u => exact I1.after hq
    | next => exact False.elim hq
    | brk => exact False.elim hq
    | cont => exact False.elim hq
end
/-- no exception leaves -/
def CXN0 : CXT := fun _ _ _ _ _ _ => False
def EN0 : XK := fun _ _ _ => False
def GivesN (X : Cx) (Ng : List Str) (x : Str) (sg : Scope) (g : Addr) (cdg : Value) (bg : List Stmt) (a : Str) (q : Str) (k : Nat) (TT : (XK → Hp → VK → Prop) → Hp → VK → Prop) : Prop :=
  ∀ (f c' : Addr) (s : Shared) (H : Hp) (Q : VK) (tl : XK → Hp → VK → Prop), Room (k + 1) (X.A.deeper (envOfC x sg s.heap.objs.size g cdg)) →
    (∀ (W : WX) (pn : List (Addr × Obj)) (xe : Value → Shared → Prop) (E : XK) (p1 p2 : Pos), L2N.Takes ((cxOf CXN0 X.prog X.w X.K X.mg X.base Ng x sg g cdg X.A X.stack s H EN0).tr pn xe) W → (∀ cls d σ' H', E cls d H' → W cls d σ' H') →
      PE ((cxOf CXN0 X.prog X.w X.K X.mg X.base Ng x sg g cdg X.A X.stack s H EN0).tr pn xe) (.Call (.Name a p1) [] [] p2) (fun σZ HZ Q => σZ[0]? = some (some (.ref f)) ∧ HZ c' = some (CodeO c' q) ∧ tl E HZ Q)) →
    H c' = some (CodeO c' q) → TT tl H Q →
    ∃ t, PSs (cxOf CXN0 X.prog X.w X.K X.mg X.base Ng x sg g cdg X.A X.stack s H EN0).nox bg t ∧ t { nx := fun _ H' => Q .non H', rt := Q } (L2.start Ng [.ref f]) H
section
variable {X : Cx}
theorem pe_lamcallN {T : List (Addr × Str)} {TT : (XK → Hp → VK → Prop) → Hp → VK → Prop} {x a : Str} {g c P : Addr} {k : Nat} {pg : Arguments} {bg : List Stmt} {sg : Scope} {dV kV doc pm cdv ct oc : Value} {an od : Option Addr} {osl : Array (Option Value)} {Ng : List Str}
    {params : Arguments} {body : Expr} {scope : Scope} {t : XK → TE} {p lpos pos : Pos} (hg : Gl X x) (hm : X.mg x = some (.ref g)) (hk : PySem.W.keepIn X.K (.ref g) = true)
    (lk : X.K.lookup g = some ⟨oc, od, .func (PySem.W.fnOf x x pg bg sg dV kV doc pm an cdv ct), osl⟩) (hcg : PySem.W.codeIn X.K cdv x = true) (hb : L2.Binds X.K (PySem.W.fnOf x x pg bg sg dV kV doc pm an cdv ct) [a] []) (Sg : FnScope Ng [a] sg) (hNg : Ng[0]? = some a) (hva : Vis sg a)
    (hG : GivesN X Ng x sg g cdv bg a (X.env.qual ++ "<lambda>") k TT)
    (TB : TabB X.base X.mg c P) (hcode : X.env.code = .ref c) (hmT : (P, X.env.qual ++ "<lambda>") ∈ T) (hu : ∀ p ∈ T, p.1 = P → p.2 = X.env.qual ++ "<lambda>") (hr : Room (k + 2) X.A) (L : LamS X.env.scope scope) (hdef : defaultsOf params X.env = ([], []))
    (hbind : ∀ (q : Str) (cl : List (Str × Addr)) (pm cv ctv : Value), bindArgs (PySem.W.kla_fn "<lambda>" q params body scope cl pm cv ctv) ⟨[], []⟩ = pure [])
    (hbody : ∀ (A : Around) (outer : List Env) (s : Shared) (H : Hp) (E : XK) (f c' : Addr), Room k (A.deeper (lamEnv X scope s.heap.objs.size f c')) → PE (lamN X A outer s H E scope f c') body (t E))
    (hdb : (x == ("__debug__" : Str)) = false := by decide) (hd : (a == ("__debug__" : Str)) = false := by decide) (hcd : (a == ("__classdict__" : Str)) = false := by decide) :
    PE X (.Call (.Name x p) [.Lambda params body scope lpos] [] pos) (tLam T TT t) := by
  refine ⟨fun pins s σ H Q I h => ?_⟩
  obtain ⟨hT, h⟩ := h
  refine wpAny_Call_Name_kw (ld_glob I hg hm ?_ hdb)
  refine PySem.W.callWith_K (h₀ := X.base) I.ok.mod.kin hk ?_ (by rfl) (by rfl)
  show wpAny _ _ (spliced ((false, eval (.Lambda params body scope lpos) X.env) :: backTo pos (starEach [] X.env))) _ _ s
  refine Calls.spliced_cons (lam_make2 I TB hcode hmT hu hT hdef (L.has I.ok) fun f c' pm' ctv H1 s' I1 eN T1 hf hfn hfr hco => ?_)
  refine Calls.spliced_nil ⟨I1.kIn, ?_⟩
  have rc : codeAny (model X.prog X.w) X.A (.call (.ref g) ⟨[.ref f], []⟩) (CR CXN0 X.stack X.prog X.w H1 s' Q EN0) s' := by
    refine run_ofS (CX := CXN0) (N := Ng) (ps := [a]) (us := [.ref f]) (vs := [.ref f]) lk hcg Sg hr I1.env0 (hb s' [.ref f] I1.kIn rfl) (.cons rfl .nil) rfl fun hr' => ?_
    obtain ⟨t', ht', hq'⟩ := hG f c' s' H1 Q (fun E H' Q' => t E σ H' Q') hr' (fun W pn xe E p1 p2 tk hW => pe_actN (i := 0) I1 L hf hfn hfr (hbind _ _ _ _ _) tk hW hr' (fun A outer s H hr2 => hbody A outer s H E f c' hr2) hNg hva hd hcd) hco (h H1 eN T1)
    exact ⟨t', ht'.nox, hq'⟩
  refine wpAny_call (codeAny_mono rc fun r s2 hq => ?_)
  cases r with
  | error e => exact (show False from hq).elim
  | ok fl =>
    cases fl with
    | ret u => exact I1.after hq
    | next => exact False.elim hq
    | brk => exact False.elim hq
    | cont => exact False.elim hq
end
end DL

set_option Elab.async false
set_option linter.all false
set_option maxRecDepth 100000
set_option maxHeartbeats 4000000
namespace DL
open PySem PySem.Spec PyProof.Rows L2
/-! ### several clauses 'except x as n' -/
abbrev TSx := Addr → Value → Option Addr → TS
def wAsN (K : Fg) (i : Nat) (Wout : WX) (D : Ends) : List (Value × TSx) → WX
  | [] => Wout
  | (c, ts) :: r => fun cls d σ H => ∃ b, PySem.W.exmOne K cls c = some b ∧
    (b = true → ∀ a, H a = none → ts a cls d { nx := fun σ' H' => D.nx (σ'.set i none) H', rt := D.rt, bk := fun σ' H' => D.bk (σ'.set i none) H', ct := fun σ' H' => D.ct (σ'.set i none) H' } (σ.set i (some (.ref a))) H) ∧
    (b = false → wAsN K i Wout D r cls d σ H)
inductive HdsN (X : Cx) (n : Str) : List ExceptHandler → List (Value × TSx) → Prop
  | nil : HdsN X n [] []
  | cons {x : Str} {c : Value} {ts : TSx} {b₀ : Stmt} {suite : List Stmt} {np pos' : Pos} {hds : List ExceptHandler} {l : List (Value × TSx)} (hc : Names X x c)
      (hsu : ∀ (a : Addr) (oe : Obj) (cls : Value) (d : Option Addr) (pn : List (Addr × Obj)), L2N.Zn cls d oe → (∃ vs, oe.data = .fields vs) → PSs (X.suite a ((a, oe) :: pn)) (b₀ :: suite) (ts a cls d)) (r : HdsN X n hds l) :
      HdsN X n (.ExceptHandler (some (.Name x np)) (some n) (b₀ :: suite) pos' :: hds) ((c, ts) :: l)
section
variable {X : Cx} {n : Str} {i : Nat} {body : List Stmt} {h₀ : ExceptHandler} {hds : List ExceptHandler} {l : List (Value × TSx)} {pos : Pos} {tb : WX → TS} {Wout : WX}
theorem ps_tryN (hs : X.stack = X.env :: X.outer) (hf : X.env.frame = some X.env.locals) (hN : X.N.Nodup) (hi : X.N[i]? = some n) (hln : X.env.kindOf n = some .local) (tk : L2N.Takes X Wout)
    (hb : ∀ (W : WX) (pn : List (Addr × Obj)) (xe : Value → Shared → Prop), L2N.Takes (X.tr pn xe) W → PassesOwn (model X.prog X.w) X.A X.env xe → PSs (X.tr pn xe) body (tb W))
    (hh : HdsN X n (h₀ :: hds) l) : PS X (.Try body (h₀ :: hds) [] [] pos) (fun D σ H => tb (wAsN X.K i Wout D l) D σ H) := by
  refine ⟨fun pins s σ H D I h => ?_⟩
  have ok := I.ok
  have hfr : X.A.frames = some (X.env :: X.outer) := by rw [ok.frames, hs]
  have hloc : Loc X.env.scope n := .inl hln
  refine wpAny_Try_except ?_
  refine wpAny_mono ((hb (wAsN X.K i Wout D l) (X.pn ++ pins) (fun e t1 => wpAny (model X.prog X.w) X.A (noteFrame e X.env) (fun _ t2 => wpAny (model X.prog X.w) X.A (setFlight e none) (fun _ t3 =>
    wpAny (model X.prog X.w) X.A (handleBy e X.env (h₀ :: hds)) (SP X pins D) X.xe t3) X.xe t2) X.xe t1) (fun u s' xx => ?_) PassesOwn.looking).run [] s σ H D (I.toTry _) h) (fun f s1 hsp => ?_) (fun e s1 he => he)
  · obtain ⟨a, B, sI, pins', σ', H', cls, d, rfl, J', nb, up, sky, na, os, ag, w⟩ := xx
    have J : Inv X pins σ' H' sI := J'.ofTry ok
    have sky' : Sky B (X.env :: X.outer) a (L2N.Zn cls d) X.env.locals s'.heap := by rw [← hs]; exact sky
    show wpAny (model X.prog X.w) X.A (noteFrame (.ref a) X.env) _ _ _
    refine L2N.Sky.land L2N.Zn.steady hfr hf sky' fun h3 fl3 up3 => ?_
    have J3 : Inv X pins σ' H' { s' with heap := h3 } := J.landed nb fl3.1 (up.trans up3) os ag
    obtain ⟨oe3, vs3, he3, hz3, hd3⟩ := fl3.there
    have notFr : ∀ {h : Heap} {o : Obj} {vs : Array Value}, h.FunFrames B (X.env :: X.outer) → h.get? a = some o → o.data = .fields vs → a ∉ frs (X.env :: X.outer) := fun {h o vs} ff e dd hm => by
      obtain ⟨_, o', e', hnf⟩ := ff.mem hm
      rw [e] at e'; cases e'
      exact hnf _ dd
    have nfr := notFr fl3.2.2.1 he3 hd3
    have nL : a ≠ X.env.locals := fun z => nfr (List.mem_filterMap.mpr ⟨X.env, List.mem_cons_self, by rw [hf, z]⟩)
    have nF : a ∉ X.fs := fun hm => by
      obtain ⟨e, he, q⟩ := List.mem_filterMap.mp hm
      exact nfr (List.mem_filterMap.mpr ⟨e, List.mem_cons_of_mem _ he, q⟩)
    have S3 := J3.suite he3 hd3 na nL nF
    have go : ∀ {hds' : List ExceptHandler} {l' : List (Value × TSx)}, HdsN X n hds' l' → wAsN X.K i Wout D l' cls d σ' H' →
        wpAny (model X.prog X.w) X.A (handleBy (.ref a) X.env hds') (SP X pins D) X.xe { s' with heap := h3 } := by
      intro hds' l' hk
      induction hk with
      | nil =>
        intro w
        refine wpAny_handleBy_nil ?_
        obtain ⟨k1, k2, k3, oe, vs, T, oT, ts', he, hz, hd, h1, hr⟩ := id fl3
        unfold PySem.passOn
        refine wpAny_bind (wpAny_field he hd h1 ?_)
        rw [if_neg (show ¬ ((Value.ref T == Value.none) = true) from by simp)]
        have fin : wpAny (model X.prog X.w) X.A (setFlight (.ref a) X.env.frame) (fun _ s4 => wpAny (model X.prog X.w) X.A (throw (.ref a) : Sem Flow) (SP X pins D) X.xe s4) X.xe { s' with heap := h3 } := by
          rw [hf]
          refine HandSPX.setFlight_upZ fl3 fun h4 hh4 up4 => wpAny_throw (tk _ _ ?_)
          exact ⟨a, B, sI, pins, σ', H', cls, d, rfl, J, nb, (up.trans up3).trans up4, .inr (.inr (by rw [hs]; exact hh4)), na, os, ag, w⟩
        first
          | exact wpAny_bind (wpAny_pure (wpAny_bind fin))
          | exact wpAny_bind fin
      | @cons x c ts b₀ suite np pos' hds2 l2 hc hsu r ih =>
        intro w
        obtain ⟨b, hb1, hyes, hno⟩ := w
        refine wpAny_handleBy_cons (codeAny_handlers_test ?_) (by intro q; cases q)
        have LT : PySem.W.Looks (model X.prog X.w) h3 (typeOf (.ref a)) cls := fun A Q E s k q => wpAny_typeOf_ref (k _ _ he3) (by rw [hz3.1]; exact q)
        have LM := PySem.W.exm_one (M := model X.prog X.w) (J3.kIn) LT hb1
        have test : ∀ {Q : Value → Shared → Prop} {E : Value → Shared → Prop}, Q c { s' with heap := h3 } → wpAny (model X.prog X.w) (X.A.mark (some (.ref a))) (eval (.Name x np) X.env) Q E { s' with heap := h3 } := fun {Q E} q => by
          obtain ⟨hg, hdbg, hm | ⟨hm, hv, hnn⟩⟩ := hc
          · exact ld_glob (X := X.suite a ((a, oe3) :: (X.pn ++ pins))) S3 hg hm q hdbg
          · exact ld_blt (X := X.suite a ((a, oe3) :: (X.pn ++ pins))) S3 hg hm hv q hnn hdbg
        refine test (LM.here ?_)
        cases b with
        | true =>
          refine codeAny_handlers_suite_as ?_
          refine HandSPX.lands_againZ fl3 fun h4 fl4 up4 => ?_
          have J4 : Inv X pins σ' H' { s' with heap := h4 } := J.landed nb fl4.1 ((up.trans up3).trans up4) os ag
          obtain ⟨oe4, vs4, he4, hz4, hd4⟩ := fl4.there
          have S4 := J4.suite he4 hd4 na nL nF
          refine store_ok (X := X.suite a ((a, oe4) :: (X.pn ++ pins))) (v := .ref a) S4 hN hi hloc rfl (fun s5 S5 => ?_) (.inr hln)
          refine wpAny_mono ((hsu a oe4 cls d (X.pn ++ pins) hz4 ⟨_, hd4⟩).run [] s5 _ H' _ S5 (hyes rfl a na)) (fun f s6 hsp => ?_) (fun _ _ z => False.elim z)
          have end_ : ∀ {σ6 : L2.St} {H6 : Hp} {Q : Shared → Prop}, Inv (X.suite a ((a, oe4) :: (X.pn ++ pins))) [] σ6 H6 s6 → (∀ s7, Inv X pins (σ6.set i none) H6 s7 → Q s7) →
              wpAny (model X.prog X.w) X.A (do bindName X.env n .none; unbindBehindTheSuite X.env n pos') (fun _ s7 => Q s7) X.xe s6 := fun {σ6 H6 Q} S6 hq => gone_ok (S6.unsuite ok) hN hi hln hq
          cases f with
          | next =>
            obtain ⟨σ6, H6, S6, q6⟩ := hsp
            exact end_ S6 fun s7 J7 => ⟨_, _, J7, q6⟩
          | brk =>
            obtain ⟨σ6, H6, S6, q6⟩ := hsp
            exact end_ S6 fun s7 J7 => ⟨_, _, J7, q6⟩
          | cont =>
            obtain ⟨σ6, H6, S6, q6⟩ := hsp
            exact end_ S6 fun s7 J7 => ⟨_, _, J7, q6⟩
          | ret u =>
            obtain ⟨v6, σ6, H6, S6, r6, q6⟩ := hsp
            exact end_ S6 fun s7 J7 => ⟨_, _, _, J7, r6, q6⟩
        | false =>
          show wpAny _ X.A (handleBy (.ref a) X.env hds2) _ _ _
          exact ih (hno rfl)
    exact go hh w
  · cases f with
    | next =>
      obtain ⟨σ', H', J', q⟩ := hsp
      exact wpAny_execs_nil ⟨σ', H', J'.ofTry ok, q⟩
    | brk =>
      obtain ⟨σ', H', J', q⟩ := hsp
      exact ⟨σ', H', J'.ofTry ok, q⟩
    | cont =>
      obtain ⟨σ', H', J', q⟩ := hsp
      exact ⟨σ', H', J'.ofTry ok, q⟩
    | ret u =>
      obtain ⟨v, σ', H', J', r, q⟩ := hsp
      exact ⟨v, σ', H', J'.ofTry ok, r, q⟩
end
theorem takes_len {X : Cx} {W : WX} (tk : L2N.Takes X W) : L2N.Takes X fun cls d σ H => σ.length = X.N.length → W cls d σ H := fun u s' x => by
  obtain ⟨a, B, sI, pins, σ, H, cls, d, e, I, nb, up, sky, na, os, ag, w⟩ := x
  exact tk u s' ⟨a, B, sI, pins, σ, H, cls, d, e, I, nb, up, sky, na, os, ag, w I.len⟩
theorem takes_noneN {X : Cx} : L2N.Takes X fun _ _ _ _ => False := fun _ _ ⟨_, _, _, _, _, _, _, _, _, _, _, _, _, _, _, _, w⟩ => w.elim
end DL

set_option Elab.async false
set_option linter.all false
set_option maxRecDepth 100000
set_option maxHeartbeats 4000000
namespace DL
open PySem PySem.Spec PyProof.Rows L2 L2H LamX
/-! ### a def that asks of what class the handled exception is -/
abbrev DSpE := DOL → List D → Mem → (D → Mem → Prop) → Prop
def lspE (K : Fg) (sp : DSpE) (p : Addr × Obj) : Sp := fun vs H Q _ => ∃ Dc ds M F P, Zc (.ref Dc) none p.2 ∧ (∃ fs, p.2.data = .fields fs) ∧ ExcC K Dc ∧ RpL K (mj M F) H vs ds ∧ MemOk K (mj M F) H ∧ Dj M F ∧ sp (gIsE K Dc p.1) ds M P ∧ Fin K M F H P Q
structure CalE (P : Program) (w : World) (K : Fg) (mg : Str → Option Value) (base : Heap) (k : Nat) (x : Str) (ps : List Str) (sp : DSpE) : Prop where
  ex : ∃ f fd, FnE P w K mg base CXN0 k f fd ps (lspE K sp) ∧ mg x = some (.ref f) ∧ PySem.W.keepIn K (.ref f) = true ∧ L2.Binds K fd ps []
theorem dcalE {P : Program} {w : World} {K : Fg} {mg : Str → Option Value} {base : Heap} {x : Str} {st : Stmt} {N ps : List Str} {k : Nat} {sp : DSpE} {t : DOL → DTS} (d : DefAt K mg x ps st) (S : FnScope N ps (defScope st)) (len : ∀ g ds M P, sp g ds M P → ds.length = ps.length)
    (body : ∀ (f : Addr) (cdv : Value) (A : Around) (outer : List Env) (s : Shared) (H : Hp) (E : XK) (p : Addr × Obj) (Dc : Addr) (c : DC), Hot1 (cxH CXN0 P w K mg base N x (defScope st) f cdv A outer s H E p).A p → p ∈ (cxH CXN0 P w K mg base N x (defScope st) f cdv A outer s H E p).pn →
      CallR (cxH CXN0 P w K mg base N x (defScope st) f cdv A outer s H E p) (.builtin "isinstance") (rIsE K Dc p.1) →
      DSs (cxH CXN0 P w K mg base N x (defScope st) f cdv A outer s H E p) c (defBody st) (t (gIsE K Dc p.1)))
    (hsp : ∀ g ds M P, sp g ds M P → t g (dEnds P) (dstart N ds) M) : CalE P w K mg base (k + 1) x ps sp := by
  obtain ⟨f, fd, Fn, hm, b⟩ := d.ex
  refine ⟨f, fd, fn_ofE Fn S (fun p vs H Q E ⟨Dc, ds, M, F, P, _, _, _, r, _, _, q, _⟩ => r.length.trans (len _ _ _ _ q)) (fun cdv A outer s H vs Q E p hot hr ⟨Dc, ds, M, F, P', hz, hf, ec, r, mo, dj, q, fin⟩ => ?_), hm, Fn.kp, b⟩
  have hp : p ∈ (cxH CXN0 P w K mg base N x (defScope st) f cdv A outer s H E p).pn := List.mem_singleton.mpr rfl
  refine ⟨_, body f cdv A outer s H E p Dc ⟨M, H, F, DX0⟩ hot hp (call_isP ec hz hf hp), ?_⟩
  refine ⟨dstart N ds, M, F, dEnds P', ⟨slr_start r, mo, .refl, dj, fun _ _ h => h⟩, hsp _ ds M P' q, ?_⟩
  exact ⟨fun ds' M' σ' H' p dj ev mo sl => fz_fin fin .non M' .non H' p dj ev mo .non, fz_fin fin, fun ds' M' σ' H' p => p.elim, fun ds' M' σ' H' p => p.elim⟩
/-! ### _law_try -/
/-- what comes of an exception: the label -/
structure Shuns (K : Fg) (mg : Str → Option Value) (D : Addr) : Prop where
  ec : ExcC K D
  it : ∃ C, mg "InvalidText" = some (.ref C) ∧ PySem.W.exmOne K (.ref D) (.ref C) = some false
  tm : ∃ C, mg "TooMany" = some (.ref C) ∧ PySem.W.exmOne K (.ref D) (.ref C) = some false
  bx : ∃ C, mg "BoxError" = some (.ref C) ∧ PySem.W.exmOne K (.ref D) (.ref C) = some true
/-- from the kin's own reading -/
def RKin (K : Fg) (mg : Str → Option Value) (sp : DSpE) : Value → Option Addr → Hp → VK → Prop := fun cls d H Q => ∃ Dc, cls = .ref Dc ∧ d = none ∧ Shuns K mg Dc ∧
  ∀ a, H a = none → ∃ M F P, MemOk K (mj M F) H ∧ Dj M F ∧ sp (gIsE K Dc a) [.ref a] M P ∧ Fin K M F H P Q
def TTry (K : Fg) (mg : Str → Option Value) (sp : DSpE) : (XK → Hp → VK → Prop) → Hp → VK → Prop := fun tl H Q =>
  ∃ E : XK, (∀ Q1 : VK, (∀ v H1, (∀ p, H1 p = none → Q (.ref p) (upd H1 p (.tup [.str "told", v]))) → Q1 v H1) → tl E H Q1) ∧ ∀ cls d H1, E cls d H1 → RKin K mg sp cls d H1 Q
def NgT : List Str := ["_law_call_so", "_law_found", "_law_e"]
theorem cxn0 : ∀ outer H s e s', CXN0 outer H s (fun _ _ _ => False) e s' → False := fun _ _ _ _ _ h => h
theorem try_gives {X : Cx} {q : Str} {sg : Scope} {g : Addr} {cdg : Value} {k kk j1 j2 : Nat} {sp : DSpE} {p1 p2 p3 p4 p5 p6 p7 p8 p9 pa pb pc : Pos} {np3 pe pf pg ph pi pj : Pos}
    {np1 np2 : Pos} {s1 s2 : Stmt} {r1 r2 : List Stmt} {q1 q2 : Pos} {j : Nat}
    (Sg : FnScope NgT ["_law_call_so"] sg) (l1 : sg.names.lookup ("_law_found" : Str) = some .local) (l2 : sg.names.lookup ("_law_e" : Str) = some .local) (v0 : Vis sg "_law_call_so")
    (g1 : sg.names.lookup ("InvalidText" : Str) = some .globalImplicit) (g2 : sg.names.lookup ("TooMany" : Str) = some .globalImplicit) (g3 : sg.names.lookup ("BoxError" : Str) = some .globalImplicit) (g4 : sg.names.lookup ("_law_kin" : Str) = some .globalImplicit)
    (kin : CalE X.prog X.w X.K X.mg X.base j "_law_kin" ["_law_e"] sp) (hj : j ≤ k) {C1 C2 C3 : Addr} (m1 : X.mg "InvalidText" = some (.ref C1)) (m2 : X.mg "TooMany" = some (.ref C2)) (m3 : X.mg "BoxError" = some (.ref C3)) :
    GivesN X NgT "_law_try" sg g cdg
      [.Assign [.Name "_law_found" p1] (.Constant .none j1 p2) p3,
       .Try [.Assign [.Name "_law_found" p4] (.Tuple [.Constant (.str "told") j2 p5, .Call (.Name "_law_call_so" p6) [] [] p7] kk p8) p9]
        [.ExceptHandler (some (.Name "InvalidText" np1)) (some "_law_e") (s1 :: r1) q1, .ExceptHandler (some (.Name "TooMany" np2)) (some "_law_e") (s2 :: r2) q2,
         .ExceptHandler (some (.Name "BoxError" np3)) (some "_law_e") [.Assign [.Name "_law_found" pe] (.Call (.Name "_law_kin" pf) [.Name "_law_e" pg] [] ph) pi] pj] [] [] pa,
       .Return (some (.Name "_law_found" pb)) pc] "_law_call_so" q k (TTry X.K X.mg sp) := by
  intro f c' s H Q tl hr act hc ⟨E, ht, hE⟩
  obtain ⟨fk, fdk, Fk, mk, kk', bk⟩ := kin.ex
  have nd : NgT.Nodup := by decide +kernel
  let Z := (cxOf CXN0 X.prog X.w X.K X.mg X.base NgT "_law_try" sg g cdg X.A X.stack s H EN0).nox
  have hi1 : Z.N[1]? = some ("_law_found" : Str) := rfl
  have hi2 : Z.N[2]? = some ("_law_e" : Str) := rfl
  let ts0 : TSx := fun _ _ _ => fun _ _ _ => False
  let ts3 : TSx := fun a cls d => fun D σ H1 => ∃ Dc, cls = .ref Dc ∧ d = none ∧ ExcC X.K Dc ∧ σ[2]? = some (some (.ref a)) ∧ ∃ M F P, MemOk X.K (mj M F) H1 ∧ Dj M F ∧ sp (gIsE X.K Dc a) [.ref a] M P ∧ Fin X.K M F H1 P fun v H2 => D.nx (σ.set 1 (some v)) H2
  let tb : WX → TS := fun W D σ H1 => ∃ E : XK, (∀ cls d σ' H', E cls d H' → σ'.length = NgT.length → W cls d σ' H') ∧ σ[0]? = some (some (.ref f)) ∧ H1 c' = some (CodeO c' q) ∧
    tl E H1 (fun v H2 => 2 ≤ sizeLine ∧ ∀ p, H2 p = none → D.nx (σ.set 1 (some (.ref p))) (upd H2 p (.tup [.str "told", v])))
  refine ⟨_, pss_cons (ps_set (X := Z) (i := 1) nd hi1 (.inl l1) pe_non (hf := .inr l1)) (pss_cons (ps_tryN (X := Z) (n := "_law_e") (i := 2) (tb := tb) (l := [(.ref C1, ts0), (.ref C2, ts0), (.ref C3, ts3)]) (Wout := fun _ _ _ _ => False) rfl rfl nd hi2 l2 takes_noneN (fun W pn xe tk _ => ?_) ?_) (pss_one (ps_ret (pe_var (i := 1) hi1 (.inl l1))))), ?_⟩
  · refine ⟨fun pins s' σ H' D I h' => ?_⟩
    obtain ⟨Ech, hW, h1, h2, h3⟩ := h'
    have hp := act _ pn xe Ech p6 p7 (takes_len tk) fun cls d σ' H' he hl => hW cls d σ' H' he hl
    have hq := pss_one (ps_set (X := Z.tr pn xe) (i := 1) (pos := p9) (pos' := p4) nd hi1 (.inl l1) (pe_tup (x1 := kk) (pos := p8) (pa_cons (pe_str (x := "told") (j := j2) (pos := p5)) (pa_cons hp pa_nil))) (hf := .inr l1))
    exact hq.run pins s' σ H' D I ⟨h1, h2, h3⟩
  · refine .cons ⟨g1, by decide, .inl m1⟩ (fun a oe cls d pn _ _ => ⟨fun _ _ _ _ _ _ h => h.elim⟩) (.cons ⟨g2, by decide, .inl m2⟩ (fun a oe cls d pn _ _ => ⟨fun _ _ _ _ _ _ h => h.elim⟩) (.cons ⟨g3, by decide, .inl m3⟩ (fun a oe cls d pn hz hf => ?_) .nil))
    have hot : Hot1 (Z.suite a ((a, oe) :: pn)).A (a, oe) := by
      obtain ⟨vs, hv⟩ := hf
      exact ⟨rfl, vs, hv, hz.2.2 vs hv⟩
    have hpe := pe_callE (X := Z.suite a ((a, oe) :: pn)) (x := "_law_kin") (q := pf) (pos := ph) (p := (a, oe)) Fk cxn0 ((roomH_mark (hr.mono (by omega)) (some (.ref a))).mono hj) hot List.mem_cons_self g4 mk kk' bk (pa_cons (pe_var (X := Z.suite a ((a, oe) :: pn)) (pos := pg) (i := 2) hi2 (.inl l2)) pa_nil)
    have hq := pss_one (ps_set (X := Z.suite a ((a, oe) :: pn)) (i := 1) (pos := pi) (pos' := pe) nd hi1 (.inl l1) hpe (hf := .inr l1))
    refine ⟨fun pins s' σ H' D I h' => ?_⟩
    obtain ⟨Dc, e1, e2, ec, h2, M, F, P', mo, dj, hs, fin⟩ := h'
    refine hq.run pins s' σ H' D I ⟨_, h2, Dc, [.ref a], M, F, P', ?_, hf, ec, .cons (.ref a) .nil, mo, dj, hs, fin⟩
    rw [← e1, ← e2]
    exact hz.zc
  · refine ⟨E, fun cls d σ' H' he hl => ?_, rfl, hc, ?_⟩
    · obtain ⟨Dc, e1, e2, sh, hk⟩ := hE cls d H' he
      subst e1
      obtain ⟨D1, n1, x1⟩ := sh.it
      obtain ⟨D2, n2, x2⟩ := sh.tm
      obtain ⟨D3, n3, x3⟩ := sh.bx
      rw [m1] at n1; cases n1
      rw [m2] at n2; cases n2
      rw [m3] at n3; cases n3
      have len : σ'.length = 3 := hl
      refine ⟨false, x1, (fun z => nomatch z), fun _ => ⟨false, x2, (fun z => nomatch z), fun _ => ⟨true, x3, fun _ a na => ?_, fun z => nomatch z⟩⟩⟩
      obtain ⟨M, F, P', mo, dj, hs, fin⟩ := hk a na
      match σ', len with
      | [x0, x1, x2], _ => exact ⟨Dc, rfl, e2, sh.ec, rfl, M, F, P', mo, dj, hs, fun d M' v H2 p dj2 ev mo2 rp => ⟨v, rfl, fin d M' v H2 p dj2 ev mo2 rp⟩⟩
    · exact ht _ fun v H1 h => ⟨by show 2 ≤ sizeLine; decide, fun p np => ⟨.ref p, rfl, h p np⟩⟩
end DL

set_option Elab.async false
set_option linter.all false
set_option maxRecDepth 100000
set_option maxHeartbeats 4000000
namespace DL
open PySem PySem.Spec PyProof.Rows L2 L2H LamX
structure Lbl (K : Fg) (mg : Str → Option Value) (sp : DSpE) (Dc : Addr) (lbl : Str) : Prop where
  sh : Shuns K mg Dc
  go : ∀ a M (P : D → Mem → Prop), P (.str lbl) M → sp (gIsE K Dc a) [.ref a] M P
def PXtry (K : Fg) (mg : Str → Option Value) (sp : DSpE) (P : D → Mem → Prop) : DX := fun cls fs M => fs = none ∧ ∃ Dc lbl, cls = .ref Dc ∧ Lbl K mg sp Dc lbl ∧ P (.str lbl) M
/-- _law_try(lambda: body) -/
def dTry (K : Fg) (mg : Str → Option Value) (sp : DSpE) (T : List (Addr × Str)) (Pt : Addr) (tb : DX → DTE) : DTE := fun ds M P =>
  (M Pt = some (.tabs T) ∧ ∀ a T', M a = some (.tabs T') → T' = T) ∧ tb (PXtry K mg sp P) ds M fun d M1 => P (.tup [.str "told", d]) M1
def tLamD (K : Fg) (tb : DX → DTE) : XK → TE := fun E σ H Q => ∃ ds M F P PX, SlR K (mj M F) H ds σ ∧ MemOk K (mj M F) H ∧ Dj M F ∧ tb PX ds M P ∧ Fin K M F H P Q ∧ FinX K M F H PX E
theorem takes_dx {X : Cx} {K : Fg} {M F : Mem} {H : Hp} {PX : DX} {E : XK} (tk : L2N.Takes X fun cls d _ H => E cls d H) (finx : FinX K M F H PX E) : L2N.Takes X (WD K ⟨M, H, F, PX⟩) :=
  tk.imp fun cls d σ H' ⟨fs, M', F', px, ge, dj', ev, mo', xr⟩ => by
    have lt : ∀ a, F' a = none → F a = none := fun a n => by
      cases e : F a with
      | none => rfl
      | some o => rw [show F' a = some o from ge a o e] at n; cases n
    have sub : ∀ a o, mj M' F a = some o → mj M' F' a = some o := fun a o h => by
      cases e : M' a with
      | none =>
        rw [mj_r e] at h ⊢
        exact ge a o h
      | some u =>
        rw [mj_l e] at h ⊢
        exact h
    have les : ∀ a, mj M' F' a = none → mj M' F a = none := fun a h => by
      obtain ⟨h1, h2⟩ := mj_none h
      rw [mj_r h1]; exact lt a h2
    exact finx cls fs M' d H' px ⟨fun a => (dj'.at_ a).elim .inl fun n => .inr (lt a n), fun a T z => dj'.nt a T (ge a _ z)⟩ ev (mo'.less sub) (xr.less les)
theorem ev_ext {M : Mem} {H H1 : Hp} (e : ExtN H H1) : Ev M H M H1 := ⟨fun a o h q => e a o h (q.elim (·.2) fun n ps z => n (.inr ⟨ps, z⟩)), fun _ _ _ _ n => n, fun a o h n => ⟨o, e a o h n, n⟩⟩
theorem mo_ext {K : Fg} {M F : Mem} {H H1 : Hp} {T : List (Addr × Str)} (e : ExtN H H1) (t : Tabs T H1) (mo : MemOk K (mj M F) H) (dj : Dj M F) (u : ∀ a T', M a = some (.tabs T') → T' = T) : MemOk K (mj M F) H1 := fun a o h => by
  have kp : Kp (mj M F) H (mj M F) H1 := (ev_ext (M := M) e).kpF
  have z := mo a o h
  cases o with
  | lst ds => obtain ⟨vs, e1, r⟩ := z; exact ⟨vs, e _ _ e1 (fun _ => nofun), RpL.kp kp ds r⟩
  | dK kvs => obtain ⟨vs, e1, r⟩ := z; exact ⟨vs, e _ _ e1 (fun _ => nofun), KvR.kp kp r⟩
  | dT kvs => obtain ⟨vs, e1, r⟩ := z; exact ⟨vs, e _ _ e1 (fun _ => nofun), KvR.kp kp r⟩
  | ins C fs => obtain ⟨dx, vs, e1, r⟩ := z; exact ⟨dx, vs, e _ _ e1 (fun _ => nofun), KvR.kp kp r⟩
  | hid => obtain ⟨vs, e1⟩ := z; exact ⟨vs, e _ _ e1 (fun _ => nofun)⟩
  | tp ks => exact e _ _ z (fun _ => nofun)
  | raw φ L => exact ⟨e _ _ z.1 (fun _ => nofun), fun p hp => kp.sqT (z.2 p hp)⟩
  | tabs T' =>
    have hM : M a = some (.tabs T') := by
      cases q : M a with
      | none => rw [mj_r q] at h; exact absurd h (dj.nt a T')
      | some w => rw [mj_l q] at h; exact h
    have e2 := u a T' hM
    subst e2
    exact ⟨z.1, t⟩
section
variable {X : Cx} {c : DC}
/-- where the try stands -/
structure TryAt (X : Cx) (x : Str) (k : Nat) (TT : (XK → Hp → VK → Prop) → Hp → VK → Prop) (q : Str) (a : Str) (Ng : List Str) : Prop where
  ex : ∃ (g : Addr) (pg : Arguments) (bg : List Stmt) (sg : Scope) (dV kV doc pm cdv ct oc : Value) (an od : Option Addr) (osl : Array (Option Value)), X.mg x = some (.ref g) ∧ PySem.W.keepIn X.K (.ref g) = true ∧
    X.K.lookup g = some ⟨oc, od, .func (PySem.W.fnOf x x pg bg sg dV kV doc pm an cdv ct), osl⟩ ∧ PySem.W.codeIn X.K cdv x = true ∧ L2.Binds X.K (PySem.W.fnOf x x pg bg sg dV kV doc pm an cdv ct) [a] [] ∧ FnScope Ng [a] sg ∧ Ng[0]? = some a ∧ Vis sg a ∧ GivesN X Ng x sg g cdv bg a q k TT
theorem d_try {T : List (Addr × Str)} {x a : Str} {cc Pt : Addr} {k : Nat} {Ng : List Str} {sp : DSpE} {tb : DX → DTE} {params : Arguments} {body : Expr} {scope : Scope} {p lpos pos : Pos}
    (hT : TryAt X x k (TTry X.K X.mg sp) (X.env.qual ++ "<lambda>") a Ng) (hg : Gl X x)
    (TB : TabB X.base X.mg cc Pt) (hcode : X.env.code = .ref cc) (hmT : (Pt, X.env.qual ++ "<lambda>") ∈ T) (hu : ∀ p ∈ T, p.1 = Pt → p.2 = X.env.qual ++ "<lambda>") (hr : Room (k + 2) X.A) (L : LamS X.env.scope scope) (hdef : defaultsOf params X.env = ([], []))
    (hbind : ∀ (q : Str) (cl : List (Str × Addr)) (pm cv ctv : Value), bindArgs (PySem.W.kla_fn "<lambda>" q params body scope cl pm cv ctv) ⟨[], []⟩ = pure [])
    (hbody : ∀ (A : Around) (outer : List Env) (s : Shared) (H : Hp) (E : XK) (f c' : Addr) (c2 : DC), Room k (A.deeper (lamEnv X scope s.heap.objs.size f c')) → L2N.Takes (lamN X A outer s H E scope f c') (WD X.K c2) → DE (lamN X A outer s H E scope f c') c2 body (tb c2.PX))
    (hdb : (x == ("__debug__" : Str)) = false := by decide) (hd : (a == ("__debug__" : Str)) = false := by decide) (hcd : (a == ("__classdict__" : Str)) = false := by decide) :
    DE X c (.Call (.Name x p) [.Lambda params body scope lpos] [] pos) (dTry X.K X.mg sp T Pt tb) := by
  obtain ⟨g, pg, bg, sg, dV, kV, doc, pm, cdv, ct, oc, an, od, osl, hm, hk, lk, hcg, hb, Sg, hNg, hva, hG⟩ := hT.ex
  refine (pe_lamcallN (T := T) (TT := TTry X.K X.mg sp) (t := tLamD X.K tb) (c := cc) (P := Pt) (k := k) hg hm hk lk hcg hb Sg hNg hva hG TB hcode hmT hu hr L hdef hbind (fun A outer s H E f c' hr2 => ?_) hdb hd hcd).imp fun σ H Q ⟨ds, M, F, P, at', ⟨⟨hM, uq⟩, ht⟩, fin⟩ => ?_
  · refine ⟨fun pins s' σ H' Q I ⟨ds, M, F, P, PX, sl, mo, dj, ht, fin, finx⟩ => ?_⟩
    have tk : L2N.Takes (lamN X A outer s H E scope f c') (WD X.K ⟨M, H', F, PX⟩) := takes_dx (L2N.takes_of (E := E) rfl rfl rfl rfl) finx
    exact (hbody A outer s H E f c' ⟨M, H', F, PX⟩ hr2 tk).run pins s' σ H' Q I ⟨ds, M, F, P, ⟨sl, mo, .refl, dj, fun _ _ h => h⟩, ht, fin⟩
  · have t0 := (at'.mo Pt _ (mj_l hM)).2
    refine ⟨t0, fun H1 e t1 => ?_⟩
    have ev : Ev M H M H1 := ev_ext e
    have mo1 := mo_ext e t1 at'.mo at'.dj uq
    have f1 := fin.ev ev
    refine ⟨fun cls d H2 => RKin X.K X.mg sp cls d H2 Q, fun Q1 hQ1 => ⟨ds, M, F, _, _, at'.sl.kp ev.kpF, mo1, at'.dj, ht, fun d M2 v H2 pd dj2 ev2 mo2 rp => hQ1 v H2 fun q nq => ?_, ?_⟩, fun cls d H2 h => h⟩
    · exact fin_tup (f1.ev ev2) dj2 mo2 (.cons (.str _) (.cons rp .nil)) pd q nq
    · intro cls fs M2 d H2 hx dj2 ev2 mo2 xr
      obtain ⟨e0, Dc, lbl, e1, hl, hP⟩ := hx
      subst e0 e1
      refine ⟨Dc, rfl, ?_, hl.sh, fun a na => ⟨M2, F, P, mo2, dj2, hl.go a M2 P hP, f1.ev ev2⟩⟩
      cases d with
      | none => rfl
      | some q => exact xr.elim
end
end DL

set_option Elab.async false
set_option linter.all false
set_option maxRecDepth 100000
set_option maxHeartbeats 4000000
namespace DL
open PySem PySem.Spec PyProof.Rows L2
/-! ### times -/
def gMul : DO2 := fun x y M P => match x, y with
  | .int i, .int j => CMul i j ∧ P (.int (i * j)) M
  | .lst xs, .int k => (-(2 ^ 63) ≤ k ∧ k < 2 ^ 63 ∧ xs.length * k.toNat ≤ sizeLine) ∧ P (.lst (List.replicate k.toNat xs).flatten) M
  | .tup xs, .int k => (xs ≠ [] ∧ 2 ≤ k ∧ k ≤ 1000 ∧ xs.length ≤ 1000) ∧ P (.tup (List.replicate k.toNat xs).flatten) M
  | _, _ => False
def rMulA (K : Fg) : R2 := fun x y H Q => rI CMul (fun i j => .int (i * j)) x y H Q ∨ rRep x y H Q ∨ rRepT K x y H Q
theorem op_mulA {X : Cx} : OpR X (binaryOp .Mult) (rMulA X.K) := op_mul.or (op_rep.or op_repT)
theorem RpL.rep {K : Fg} {A : Mem} {H : Hp} {vs : List V} {ds : List D} (h : RpL K A H vs ds) : ∀ n : Nat, RpL K A H (List.replicate n vs).flatten (List.replicate n ds).flatten
  | 0 => .nil
  | n + 1 => by
    rw [List.replicate_succ, List.replicate_succ, List.flatten_cons, List.flatten_cons]
    exact h.append (RpL.rep h n)
theorem og_mul {K : Fg} : Op2 K (rMulA K) gMul := fun M F x y v w H P Q q dj mo rx ry fin => by
  unfold gMul at q
  split at q
  · cases rx; cases ry
    exact .inl ⟨_, _, rfl, rfl, q.1, fin.val dj mo q.2 (.int _)⟩
  · cases rx with
    | lst hs hn hl =>
      cases ry
      refine .inr (.inl ⟨_, _, _, rfl, rfl, hs, q.1.1, q.1.2.1, by rw [hl.length]; exact q.1.2.2, fin_lst fin dj mo (hl.rep _) q.2⟩)
  · cases rx with
    | tup hs hl =>
      cases ry
      refine .inr (.inr ⟨_, _, _, rfl, rfl, hs, ?_, q.1.2.1, q.1.2.2.1, by rw [hl.length]; exact q.1.2.2.2, fin_tup fin dj mo (hl.rep _) q.2⟩)
      intro e
      subst e
      cases hl
      exact q.1.1 rfl
  · exact q.elim
section
variable {X : Cx} {c : DC} {a b : Expr} {ta tb : DTE} {pos : Pos}
theorem d_mul (ha : DE X c a ta) (hb : DE X c b tb) : DE X c (.BinOp a .Mult b pos) (dBin gMul ta tb) := d_op op_mulA og_mul ha hb
end
/-! ### sorted(xs) -/
def gSorted : DOL := fun xs M P => match xs with
  | [.lst ys] => (match strsOf ys with | some l => l.length ≤ sizeLine ∧ P (.lst ((srtT l).map D.str)) M | none => False)
  | _ => False
def rSortA (K : Fg) : List V → Hp → VK → Prop := fun vs H Q => ∃ (a : Addr) (xs : List Str), vs = [V.ref a] ∧ SqL K H a (xs.map V.str) ∧ xs.length ≤ sizeLine ∧ ∀ p, H p = none → Q (.ref p) (upd H p (.lst ((srtT xs).map V.str)))
theorem cr_sortA {X : Cx} : CallR X (.builtin "sorted") (rSortA X.K) := by
  intro pins s σ H vs us Q I r h
  obtain ⟨a, xs, rfl, hs, hz, q⟩ := h
  obtain ⟨its, rv, hl, _⟩ := I.list hs
  rw [Vals.ref1 r]
  have len := rv.length
  rw [List.length_map] at len
  refine PyProof.Rows.sorted_strsAny hl.isList rv.strs (by rw [← len]; exact hz) fun out ys h1 h2 h3 => ?_
  obtain ⟨ep, he⟩ := PyProof.Rows.sortedAll_at s.heap its out
  have e : ys = srtT xs := srtT_eq h2 h3
  subst e
  have hlen : ((srtT xs).map V.str).length ≤ sizeLine := by rw [List.length_map, (srtT_perm xs).length_eq]; exact hz
  exact ⟨.ref _, upd H (s.heap.objs.size + 1) (.lst ((srtT xs).map V.str)), I.laid (t' := s.toks) (fun _ _ => PyProof.Rows.sortedAll_old) (Nat.le_succ _) ⟨hlen, out.toList, ep, vals_of_strs h1, he⟩, rfl, q _ (I.hok.fresh (Nat.le_succ _))⟩
theorem ol_sorted {K : Fg} : OpL K (rSortA K) gSorted := fun M F xs vs H P Q q dj mo rs fin => by
  unfold gSorted at q
  split at q
  · split at q
    · rename_i l hl
      match vs, rs with
      | [_], .cons (.lst hs hn hr) .nil =>
        have e := strsOf_rp hl hr
        exact ⟨_, l, rfl, .of (e ▸ hs), q.1, fin_lst fin dj mo (rpL_strs _) q.2⟩
    · exact q.elim
  · exact q.elim
/-! ### list(xs) of a text too -/
theorem call_listA {X : Cx} (hc : X.calm = true) : CallR X (.type "list") (rListA X.K) := by
  refine CallR.or call_list_of ?_
  intro pins s σ H vs us Q I r h
  obtain ⟨z, rfl, hz, q⟩ := h
  match us, r with
  | [_], .cons ⟨t, e⟩ .nil =>
    subst e
    refine call_list_str (I.ok.hd hc) z t (hn := hz) fun h' tk acc c' hk hS hacc => ?_
    refine ⟨.ref s.heap.objs.size, upd H s.heap.objs.size (.lst (z.cps.toList.map fun c => V.str ⟨#[c]⟩)), I.laid hk (Nat.le_refl _) ⟨?_, acc.toList, c', ?_, ?_⟩, rfl, q _ (I.hok.fresh (Nat.le_refl _))⟩
    · rw [List.length_map, Array.length_toList]; exact hz
    · refine vals_of_at (by rw [List.length_map, Array.length_toList, Array.length_toList, hacc.1]) fun j x u h1 h2 => ?_
      obtain ⟨k, w, e1, e2⟩ := hacc.2 j u (by rw [← Array.getElem?_toList]; exact h2)
      rw [List.getElem?_map, Array.getElem?_toList, e1] at h1
      cases h1
      exact ⟨w, e2⟩
    · rw [Array.toArray_toList]; exact hS
/-! ### the script -/
theorem cal_false {P : Program} {w : World} {K : Fg} {mg : Str → Option Value} {base : Heap} {k : Nat} {x : Str} {ps N : List Str} {st : Stmt} (d : DefAt K mg x ps st) (S : FnScope N ps (defScope st)) : Cal P w K mg base k x ps (fun _ _ _ _ => False) := by
  obtain ⟨f, fd, Fn, hm, b⟩ := d.ex
  cases k with
  | zero => exact ⟨⟨f, fd, ⟨fun _ _ _ _ ⟨_, _, _, _, _, _, _, _, h, _⟩ => h.elim, fun _ _ _ _ _ _ _ _ _ _ _ _ _ ⟨_, _, _, _, _, _, _, _, h, _⟩ => h.elim⟩, hm, Fn.kp, b⟩⟩
  | succ k => exact ⟨⟨f, fd, Fn.ok S (fun _ _ _ _ ⟨_, _, _, _, _, _, _, _, h, _⟩ => h.elim) (fun _ _ _ _ _ _ _ _ _ ⟨_, _, _, _, _, _, _, _, h, _⟩ => h.elim), hm, Fn.kp, b⟩⟩
end DL

set_option Elab.async false
set_option linter.all false
set_option maxRecDepth 100000
set_option maxHeartbeats 4000000
namespace DL
open PySem PySem.Spec PyProof.Rows L2 LamX
/-! ### defs that make lambdas; the law -/
structure DefAtC (K : Fg) (mg : Str → Option Value) (x : Str) (ps : List Str) (st : Stmt) (cc : Addr) : Prop where
  ex : ∃ f fd, FunD K x x (defArgs st) (defBody st) (defScope st) [] [] f fd ∧ fd.code = .ref cc ∧ mg x = some (.ref f) ∧ L2.Binds K fd ps []
theorem Cal.mono {P : Program} {w : World} {K : Fg} {mg : Str → Option Value} {base : Heap} {j k : Nat} {x : Str} {ps : List Str} {sp : DSp} (h : Cal P w K mg base j x ps sp) (hk : j ≤ k) : Cal P w K mg base k x ps sp := by
  obtain ⟨f, fd, F, r⟩ := h.ex
  exact ⟨⟨f, fd, F.mono hk, r⟩⟩
section
variable {P : Program} {w : World} {K : Fg} {mg : Str → Option Value} {base : Heap}
theorem dfnC {x qual : Str} {st : Stmt} {f cc : Addr} {fd : FuncData} {N ps : List Str} {k : Nat} {sp : Sp} {CX : CXT} (Fn : FunD K x qual (defArgs st) (defBody st) (defScope st) [] [] f fd) (hcc : fd.code = .ref cc) (S : FnScope N ps (defScope st)) (len : ∀ vs H Q E, sp vs H Q E → vs.length = ps.length)
    (hbody : ∀ (cdv : Value) (A : Around) (outer : List Env) (s : Shared) (H : Hp) (vs : List V) (Q : VK) (E : XK), cdv = .ref cc → Room k (A.deeper (envOfC qual (defScope st) s.heap.objs.size f cdv)) → sp vs H Q E →
      ∃ t, PSs (cxOf CX P w K mg base N qual (defScope st) f cdv A outer s H E) (defBody st) t ∧ t { nx := fun _ H' => Q .non H', rt := Q } (L2.start N vs) H) : FnOk P w K mg base CX (k + 1) f fd ps sp := by
  obtain ⟨oc, od, dV, kV, doc, pm, an, cdv, ct, osl, rfl, lk, hcd, _, _⟩ := Fn.ex
  exact fn_of lk hcd S len fun A outer s H vs Q E hr hsp => hbody cdv A outer s H vs Q E hcc hr hsp
theorem dcalC {x : Str} {st : Stmt} {N ps : List Str} {k : Nat} {sp : DSp} {t : DX → DTS} {cc : Addr} (d : DefAtC K mg x ps st cc) (S : FnScope N ps (defScope st)) (len : ∀ ds M P PX, sp ds M P PX → ds.length = ps.length)
    (body : ∀ (f : Addr) (cdv : Value) (A : Around) (outer : List Env) (s : Shared) (H : Hp) (E : XK) (c : DC), cdv = .ref cc → FCtx (cxOf (L2N.CX P w) P w K mg base N x (defScope st) f cdv A outer s H E) c k → DSs (cxOf (L2N.CX P w) P w K mg base N x (defScope st) f cdv A outer s H E) c (defBody st) (t c.PX))
    (hsp : ∀ ds M P PX, sp ds M P PX → t PX (dEnds P) (dstart N ds) M) : Cal P w K mg base (k + 1) x ps sp := by
  obtain ⟨f, fd, Fn, hcc, hm, b⟩ := d.ex
  refine ⟨⟨f, fd, dfnC Fn hcc S (fun vs H Q E ⟨ds, M, F, P, PX, r, _, _, q, _⟩ => r.length.trans (len _ _ _ _ q)) (fun cdv A outer s H vs Q E hcd hr ⟨ds, M, F, P', PX, r, mo, dj, q, fin, finx⟩ => ?_), hm, Fn.kp, b⟩⟩
  have tk : L2N.Takes (cxOf (L2N.CX P w) P w K mg base N x (defScope st) f cdv A outer s H E) (WD K ⟨M, H, F, PX⟩) := takes_dx (L2N.takes_of (E := E) rfl rfl rfl rfl) finx
  refine ⟨_, body f cdv A outer s H E ⟨M, H, F, PX⟩ hcd ⟨tk, passes_of rfl, hr⟩, ?_⟩
  refine ⟨dstart N ds, M, F, dEnds P', ⟨slr_start r, mo, .refl, dj, fun _ _ h => h⟩, hsp ds M P' PX q, ?_⟩
  exact ⟨fun ds' M' σ' H' p dj ev mo sl => fz_fin fin .non M' .non H' p dj ev mo .non, fz_fin fin, fun ds' M' σ' H' p => p.elim, fun ds' M' σ' H' p => p.elim⟩
/-- the table's entry -/
def memT (Pt : Addr) (T : List (Addr × Str)) : Mem := fun b => if b = Pt then some (.tabs T) else none
def memN : Mem := fun _ => none
/-- the law's own promise -/
def spLaw (K : Fg) (T : List (Addr × Str)) : Sp := fun vs H Q _ => ∃ (a : Addr) (ns : List Int), vs = [.ref a] ∧ SqL K H a (ns.map V.int) ∧ ns.length ≤ 63 ∧ Tabs T H ∧ ∀ H', Q (.bl true) H'
/-- two lists, wherever they stand -/
def rCatL (K : Fg) : R2 := fun x y H Q => ∃ l b xs zs, x = .ref l ∧ y = .ref b ∧ SqL K H l xs ∧ SqL K H b zs ∧ xs.length + zs.length ≤ sizeLine ∧ ∀ p, H p = none → Q (.ref p) (upd H p (.lst (xs ++ zs)))
theorem op_catL {X : Cx} : OpR X (binaryOp .Add) (rCatL X.K) := fun pins s σ H x y v u Q I rx ry ⟨l, b, xs, zs, e1, e2, hl, hb, hz, q⟩ => by
  subst e1 e2
  cases rx
  cases ry
  obtain ⟨its, r, p1, _⟩ := I.list hl
  obtain ⟨its2, r2, p2, _⟩ := I.list hb
  obtain ⟨⟨cls, dd, data, sl⟩, ho, hc, n, hd⟩ := p1.isList
  obtain ⟨⟨cls2, dd2, data2, sl2⟩, ho2, hc2, n2, hd2⟩ := p2.isList
  simp only at hc hd hc2 hd2
  subst hc hd hc2 hd2
  have z : its.toArray.size + its2.toArray.size ≤ sizeLine := by rw [List.size_toArray, List.size_toArray, ← r.length, ← r2.length]; exact hz
  refine concat_meets ⟨_, ho, rfl⟩ ⟨_, ho2, rfl⟩ noFill_list_add seq_list_add PySem.F.slot_list_add PySem.F.entry_list_add (PySem.F.args_list_add_2 _ _) (list_addW l b its.toArray its2.toArray n n2 dd dd2 sl sl2 z) ⟨ho, ho2, ?_⟩
  rw [show its.toArray ++ its2.toArray = (its ++ its2).toArray from by simp]
  exact ⟨.ref _, _, I.lnew (t' := s.toks) (r.append r2) (by rw [List.length_append]; exact hz), rfl, q _ I.fresh⟩
/-- [0] + script, the script in slot 0 -/
def dScr (a : Addr) (ns : List Int) : DTE := fun ds M P => ds[0]? = some (some (.ref a)) ∧ P (.lst (.int 0 :: ns.map D.int)) M
theorem rpL_ints {K : Fg} {M : Mem} {H : Hp} : ∀ ns : List Int, RpL K M H (ns.map V.int) (ns.map D.int)
  | [] => .nil
  | n :: ns => .cons (.int n) (rpL_ints ns)
theorem sqL_ev {K : Fg} {M0 M : Mem} {H0 H : Hp} {a : Addr} {vs : List V} (e : Ev M0 H0 M H) (n : M0 a = none) (h : SqL K H0 a vs) : SqL K H a vs := by
  rcases h with (h | ⟨o, h⟩) | h
  · exact .inl (.inl (e.keep _ _ h (.inl ⟨n, fun _ => nofun⟩)))
  · exact .inl (.inr ⟨o, e.keep _ _ h (.inl ⟨n, fun _ => nofun⟩)⟩)
  · exact .inr h
theorem sqL_upd {K : Fg} {H : Hp} {a p : Addr} {o : HO} {vs : List V} (n : H p = none) (h : SqL K H a vs) : SqL K (upd H p o) a vs := by
  rcases h with (h | ⟨o, h⟩) | h
  · exact .inl (.inl (by rw [upd_ne (ne_of_none h n)]; exact h))
  · exact .inl (.inr ⟨o, by rw [upd_ne (ne_of_none h n)]; exact h⟩)
  · exact .inr h
theorem d_scr {X : Cx} {c : DC} {x : Str} {a : Addr} {ns : List Int} {j : Nat} {p1 p2 p3 p4 : Pos} (h0 : X.N[0]? = some x) (v0 : Vis X.env.scope x) (hs : SqL X.K c.H0 a (ns.map V.int)) (hn : c.M0 a = none) (hl : ns.length ≤ 63)
    (hd : (x == ("__debug__" : Str)) = false := by decide) (hcd : (x == ("__classdict__" : Str)) = false := by decide) (hx : starEach [Expr.Constant (.int 0) j p1] X.env = (false, eval (.Constant (.int 0) j p1) X.env) :: starEach [] X.env := by rfl) :
    DE X c (.BinOp (.List [.Constant (.int 0) j p1] p2) .Add (.Name x p3) p4) (dScr a ns) :=
  (pe_op op_catL (pe_lst (pa_cons pe_int pa_nil hx)) (pe_var (i := 0) h0 v0 hd hcd)).imp fun σ H Q ⟨ds, M, F, P, at', ht, fin⟩ => by
    obtain ⟨v, hv, rv⟩ := at'.sl.2 0 _ ht.1
    cases rv
    refine ⟨by show 1 ≤ sizeLine; decide, fun p np => ⟨_, hv, p, a, [.int 0], ns.map V.int, rfl, rfl, .of upd_same, ?_, ?_, fun q nq => ?_⟩⟩
    · exact sqL_upd np (sqL_ev at'.ev hn hs)
    · rw [List.length_map, sizeLine_eq]
      show 1 + ns.length ≤ _
      omega
    · exact fin_lst (fin.ev (Ev.new np)) at'.dj (at'.mo.new np) (.cons (.int 0) (rpL_ints ns)) ht.2 q nq
theorem okLaw {P : Program} {w : World} {K : Fg} {mg : Str → Option Value} {base : Heap} {x : Str} {st : Stmt} {N : List Str} {k : Nat} {t : Addr → List Int → DX → DTS} {f cc Pt : Addr} {fd : FuncData} {q : Str} {T : List (Addr × Str)}
    (Fn : FunD K x x (defArgs st) (defBody st) (defScope st) [] [] f fd) (hcc : fd.code = .ref cc) (S : FnScope N ["_law_script"] (defScope st)) (hT : (Pt, q) ∈ T) (nT : K.lookup Pt = none)
    (body : ∀ (cdv : Value) (A : Around) (outer : List Env) (s : Shared) (H : Hp) (E : XK) (c : DC) (a : Addr) (ns : List Int), cdv = .ref cc → FCtx (cxOf (L2N.CX P w) P w K mg base N x (defScope st) f cdv A outer s H E) c k → SqL K c.H0 a (ns.map V.int) → c.M0 a = none → ns.length ≤ 63 →
      DSs (cxOf (L2N.CX P w) P w K mg base N x (defScope st) f cdv A outer s H E) c (defBody st) (t a ns c.PX))
    (law : ∀ a ns, ns.length ≤ 63 → t a ns DX0 (dEnds fun d _ => d = .bl true) (dstart N [.ref a]) (memT Pt T)) : FnOk P w K mg base (L2N.CX P w) (k + 1) f fd ["_law_script"] (spLaw K T) := by
  refine dfnC Fn hcc S (fun vs H Q E ⟨a, ns, e, _⟩ => by rw [e]; rfl) (fun cdv A outer s H vs Q E hcd hr ⟨a, ns, e, hs, hl, ht, hq⟩ => ?_)
  subst e
  have mo : MemOk K (mj (memT Pt T) memN) H := fun b o h => by
    by_cases e : b = Pt
    · subst e
      have e2 : mj (memT b T) memN b = some (.tabs T) := by unfold mj memT; rw [if_pos rfl]
      rw [e2] at h
      cases h
      exact ⟨⟨q, hT⟩, ht⟩
    · have e2 : mj (memT Pt T) memN b = none := by unfold mj memT; rw [if_neg e]; rfl
      rw [e2] at h
      cases h
  have dj : Dj (memT Pt T) memN := ⟨fun _ => .inr rfl, fun _ _ => nofun⟩
  have tk : L2N.Takes (cxOf (L2N.CX P w) P w K mg base N x (defScope st) f cdv A outer s H E) (WD K ⟨memT Pt T, H, memN, DX0⟩) := takes_dx (L2N.takes_of (E := E) rfl rfl rfl rfl) fun cls fs M' d H' h => h.elim
  obtain ⟨ps, hP, _⟩ := ht _ hT
  by_cases ha : a = Pt
  · subst ha
    rcases hs with (h | ⟨o, h⟩) | ⟨o, its, n, h, _⟩
    · rw [hP] at h; cases h
    · rw [hP] at h; cases h
    · rw [nT] at h; cases h
  · have hn : memT Pt T a = none := by unfold memT; rw [if_neg ha]
    refine ⟨_, body cdv A outer s H E ⟨memT Pt T, H, memN, DX0⟩ a ns hcd ⟨tk, passes_of rfl, hr⟩ hs hn hl, ?_⟩
    refine ⟨dstart N [.ref a], memT Pt T, memN, _, ⟨slr_start (.cons (.ref a) .nil), mo, .refl, dj, fun _ _ h => h⟩, law a ns hl, ?_⟩
    have fin : Fin K (memT Pt T) memN H (fun d _ => d = .bl true) Q := fun d M' v H' p dj ev mo rp => by
      subst p
      cases rp
      exact hq H'
    exact ⟨fun ds' M' σ' H' p dj ev mo sl => fz_fin fin .non M' .non H' p dj ev mo .non, fz_fin fin, fun ds' M' σ' H' p => p.elim, fun ds' M' σ' H' p => p.elim⟩
end
end DL

set_option Elab.async false
set_option linter.all false
set_option maxRecDepth 100000
set_option maxHeartbeats 4000000
namespace DL
open PySem PySem.Spec PyProof.Rows L2 LamX
/-! ### a call of a local name that holds one of several defs -/
structure CalV (P : Program) (w : World) (K : Fg) (mg : Str → Option Value) (base : Heap) (k : Nat) (f : Addr) (sp : DSp) : Prop where
  ex : ∃ fd ps, FnOk P w K mg base (L2N.CX P w) k f fd ps (lsp K sp) ∧ PySem.W.keepIn K (.ref f) = true ∧ L2.Binds K fd ps []
def dCallV (i : Nat) (S : Addr → DSp → Prop) (PX : DX) (t : DTA) : DTE := fun ds M P => ∃ f sp, ds[i]? = some (some (.ref f)) ∧ S f sp ∧ t ds M fun xs M1 => sp xs M1 P PX
section
variable {X : Cx} {c : DC} {k j i : Nat} {x : Str} {p pos : Pos} {e : Expr} {es : List Expr} {t : DTA} {S : Addr → DSp → Prop}
theorem d_callV (A : ∀ f sp, S f sp → CalV X.prog X.w X.K X.mg X.base k f sp) (hr : Room j X.A) (hk : k ≤ j) (hN : X.N[i]? = some x) (hv : Vis X.env.scope x) (tk : L2N.Takes X (WD X.K c)) (ha : DA X c (e :: es) t)
    (hdb : (x == ("__debug__" : Str)) = false := by decide) (hcd : (x == ("__classdict__" : Str)) = false := by decide)
    (he : starEach (e :: es) X.env = (false, eval e X.env) :: starEach es X.env := by rfl) (hpl : (backTo pos (starEach es X.env)).any (·.1) = false := by rfl) :
    DE X c (.Call (.Name x p) (e :: es) [] pos) (dCallV i S c.PX t) := ⟨fun pins s σ H Q I h => by
  obtain ⟨ds, M, F, P, at', ⟨f, sp, hs, hS, ht⟩, fin⟩ := h
  obtain ⟨fd, ps, Fn, kp, b⟩ := (A f sp hS).ex
  obtain ⟨v, hv2, rv⟩ := at'.sl.2 i _ hs
  cases rv
  have z : PE X (.Call (.Name x p) (e :: es) [] pos) (tCallL i f (lsp X.K sp) [] (xed X.K c) (La X.K c t)) := pe_callL (CX := L2N.CX X.prog X.w) (Fn.mono hk) hr hN hv kp b .nil (L2N.passes_call (E := xed X.K c) tk fun _ _ _ _ h => h) ha hdb hcd he hpl
  refine z.run pins s σ H Q I ⟨hv2, ?_⟩
  exact ⟨ds, M, F, _, at', ht, fun xs M1 vs H1 q dj ev mo rp => ⟨xs, M1, F, P, c.PX, by rw [List.append_nil]; exact rp, mo, dj, q, fin.ev ev, finx_here (at'.go dj ev mo)⟩⟩⟩
end
theorem Cal.toV {P : Program} {w : World} {K : Fg} {mg : Str → Option Value} {base : Heap} {k n : Nat} {x : Str} {ps : List Str} {sp : DSp} {f : Addr} (h : Cal P w K mg base k x ps sp) (hm : mg x = some (.ref f)) (hk : k ≤ n) : CalV P w K mg base n f sp := by
  obtain ⟨g, fd, F, h1, h2, h3⟩ := h.ex
  have e := hm.symm.trans h1
  cases e
  exact ⟨⟨fd, ps, F.mono hk, h2, h3⟩⟩
/-- a def's first slots: n of them -/
def dst (n : Nat) (ds : List D) : DSt := ds.map some ++ List.replicate (n - ds.length) none
end DL

set_option Elab.async false
set_option linter.all false
set_option maxRecDepth 100000
set_option maxHeartbeats 4000000
namespace DL
open PySem PySem.Spec PyProof.Rows L2
/-! ### max, min of two ints, of a list of ints -/
def gMax2 : DOL := fun xs M P => match xs with | [.int i, .int j] => P (.int (if j > i then j else i)) M | _ => False
def gMin2 : DOL := fun xs M P => match xs with | [.int i, .int j] => P (.int (if j < i then j else i)) M | _ => False
theorem ol_max2 {K : Fg} : OpL K (fun xs H Q => ∃ i j, xs = [.int i, .int j] ∧ Q (.int (if j > i then j else i)) H) gMax2 := fun M F xs vs H P Q q dj mo rs fin => by
  unfold gMax2 at q
  split at q
  · match vs, rs with
    | [_, _], .cons (.int i) (.cons (.int j) .nil) => exact ⟨i, j, rfl, fin.val dj mo q (.int _)⟩
  · exact q.elim
theorem ol_min2 {K : Fg} : OpL K (fun xs H Q => ∃ i j, xs = [.int i, .int j] ∧ Q (.int (if j < i then j else i)) H) gMin2 := fun M F xs vs H P Q q dj mo rs fin => by
  unfold gMin2 at q
  split at q
  · match vs, rs with
    | [_, _], .cons (.int i) (.cons (.int j) .nil) => exact ⟨i, j, rfl, fin.val dj mo q (.int _)⟩
  · exact q.elim
def intsOf : List D → Option (List Int)
  | [] => some []
  | .int z :: r => (match intsOf r with | some l => some (z :: l) | none => none)
  | _ => none
theorem intsOf_map : ∀ l : List Int, intsOf (l.map D.int) = some l
  | [] => rfl
  | z :: r => by rw [List.map_cons, intsOf, intsOf_map r]
theorem intsOf_rp {K : Fg} {A : Mem} {H : Hp} : ∀ {xs : List D} {l : List Int} {vs : List V}, intsOf xs = some l → RpL K A H vs xs → vs = l.map V.int
  | [], _, _, h, .nil => by cases h; rfl
  | .int z :: r, l, _, h, .cons h1 h2 => by
    rw [intsOf] at h
    cases e : intsOf r with
    | none => rw [e] at h; cases h
    | some l' =>
      rw [e] at h
      cases h
      cases h1
      rw [intsOf_rp e h2, List.map_cons]
  | .non :: _, _, _, h, _ => by simp [intsOf] at h
  | .bl _ :: _, _, _, h, _ => by simp [intsOf] at h
  | .str _ :: _, _, _, h, _ => by simp [intsOf] at h
  | .tup _ :: _, _, _, h, _ => by simp [intsOf] at h
  | .lst _ :: _, _, _, h, _ => by simp [intsOf] at h
  | .ref _ :: _, _, _, h, _ => by simp [intsOf] at h
  | .ty _ :: _, _, _, h, _ => by simp [intsOf] at h
def gMax : DOL := fun xs M P => match xs with
  | [.lst ys] => (match intsOf ys with | some ns => 0 < ns.length ∧ ∀ m, m ∈ ns → (∀ y, y ∈ ns → y ≤ m) → P (.int m) M | none => False)
  | _ => False
def gMin : DOL := fun xs M P => match xs with
  | [.lst ys] => (match intsOf ys with | some ns => 0 < ns.length ∧ ∀ m, m ∈ ns → (∀ y, y ∈ ns → m ≤ y) → P (.int m) M | none => False)
  | _ => False
theorem ol_max {K : Fg} : OpL K (rMax K) gMax := fun M F xs vs H P Q q dj mo rs fin => by
  unfold gMax at q
  split at q
  · rename_i ys
    split at q
    · rename_i ns e
      match vs, rs with
      | [_], .cons (.lst hs hn hl) .nil =>
        have e2 := intsOf_rp e hl
        subst e2
        exact ⟨_, ns, rfl, .of hs, q.1, fun m h1 h2 => fin.val dj mo (q.2 m h1 h2) (.int _)⟩
    · exact q.elim
  · exact q.elim
theorem ol_min {K : Fg} : OpL K (rMin K) gMin := fun M F xs vs H P Q q dj mo rs fin => by
  unfold gMin at q
  split at q
  · rename_i ys
    split at q
    · rename_i ns e
      match vs, rs with
      | [_], .cons (.lst hs hn hl) .nil =>
        have e2 := intsOf_rp e hl
        subst e2
        exact ⟨_, ns, rfl, .of hs, q.1, fun m h1 h2 => fin.val dj mo (q.2 m h1 h2) (.int _)⟩
    · exact q.elim
  · exact q.elim
/-! ### str(int) -/
def gStr1 : DOL := fun xs M P => match xs with | [.int i] => i.natAbs.log2 < 1920 ∧ P (.str (toString i)) M | _ => False
theorem ol_str1 {K : Fg} : OpL K (fun xs H Q => ∃ i, xs = [.int i] ∧ i.natAbs.log2 < 1920 ∧ Q (.str (toString i)) H) gStr1 := fun M F xs vs H P Q q dj mo rs fin => by
  unfold gStr1 at q
  split at q
  · match vs, rs with
    | [_], .cons (.int i) .nil => exact ⟨i, rfl, q.1, fin.val dj mo q.2 (.str _)⟩
  · exact q.elim
/-! ### is, is not of bools -/
def gIsB : DO2 := fun x y M P => match x, y with | .bl a, .bl b => P (.bl (decide (a = b))) M | _, _ => False
def gNotB : DO2 := fun x y M P => match x, y with | .bl a, .bl b => P (.bl (!decide (a = b))) M | _, _ => False
theorem og_isB {K : Fg} : Op2 K rIsB gIsB := fun M F x y v w H P Q q dj mo rx ry fin => by
  unfold gIsB at q
  split at q
  · cases rx; cases ry; exact ⟨_, _, rfl, rfl, fin.val dj mo q (.bl _)⟩
  · exact q.elim
theorem og_notB {K : Fg} : Op2 K rNotB gNotB := fun M F x y v w H P Q q dj mo rx ry fin => by
  unfold gNotB at q
  split at q
  · cases rx; cases ry; exact ⟨_, _, rfl, rfl, fin.val dj mo q (.bl _)⟩
  · exact q.elim
end DL

set_option Elab.async false
set_option linter.all false
set_option maxRecDepth 100000
set_option maxHeartbeats 4000000
namespace DL
open PySem PySem.Spec PyProof.Rows L2
/-! ### comprehensions with two fors -/
theorem Kp.trans {A A1 A2 : Mem} {H H1 H2 : Hp} (a : Kp A H A1 H1) (b : Kp A1 H1 A2 H2) : Kp A H A2 H2 :=
  ⟨fun x vs h => b.tup x vs (a.tup x vs h), fun x vs h n => b.lst x vs (a.lst x vs h n).1 (a.lst x vs h n).2⟩
def compL2 (vs vs1 : List Nat) (g : DTG) (tt : DTT) (ti1 : DTI) (g1 : DTG) (tt1 : DTT) (te : DTE) (ds : DSt) (Q : List D → Mem → Prop) : List D → List D → Mem → Prop
  | [], acc, M => Q acc M
  | x :: r, acc, M => g x (dwipe ds vs) M fun ds2 M2 => tt ds2 M2 fun b M3 =>
    (b = true → ti1 ds2 M3 fun ys M4 => acc.length + ys.length ≤ sizeLine ∧ compL vs1 g1 tt1 te ds2 (fun acc' M' => compL2 vs vs1 g tt ti1 g1 tt1 te ds Q r acc' M') ys acc M4) ∧ (b = false → compL2 vs vs1 g tt ti1 g1 tt1 te ds Q r acc M3)
def dComp2 (vs vs1 : List Nat) (ti : DTI) (g : DTG) (tt : DTT) (ti1 : DTI) (g1 : DTG) (tt1 : DTT) (te : DTE) : DTE := fun ds M P => ti ds M fun xs M1 => compL2 vs vs1 g tt ti1 g1 tt1 te ds (fun ys M2 => P (.lst ys) M2) xs [] M1
section
variable {X : Cx} {c : DC} {pos : Pos} {vs vs1 : List Nat} {ti ti1 : DTI} {g g1 : DTG} {tt tt1 : DTT} {te : DTE}
theorem lc2_read {K : Fg} {σ : L2.St} {H : Hp} {Q : VK} {ds : DSt} {M F : Mem} {Qd : List D → Mem → Prop} (at' : At K c ds M F σ H)
    (ht : ti ds M fun xs M1 => compL2 vs vs1 g tt ti1 g1 tt1 te ds Qd xs [] M1)
    (fin : ∀ (L : Addr) (ys : List D) (M' : Mem) (ws : List V) (H' : Hp), Qd ys M' → Dj M' F → Ev M H M' H' → MemOk K (mput (mj M' F) L (some .hid)) H' → M' L = none → F L = none → H' L = some (.lst ws) → (∀ o, H L = some o → NT o → False) → RpL K (mput (mj M' F) L (some .hid)) H' ws ys → Q (.ref L) H') :
    tLc2 (Li K c ti) (Lg K c.mute vs g) (Lt K c.mute tt) (Li K c.mute ti1) (Lg K c.mute vs1 g1) (Lt K c.mute tt1) (Lf K c.mute te) vs vs1 σ H Q := by
  refine ⟨ds, M, F, _, at', ht, fun xs M1 H1 J q dj1 ev1 mo1 wk D hD => ?_⟩
  obtain ⟨nM, nF⟩ := mj_none (mo1.fresh hD)
  have hD0 : ∀ o, H D = some o → NT o → False := fun o e n => by
    obtain ⟨o', e', _⟩ := ev1.dom D o e n
    rw [hD] at e'; cases e'
  obtain ⟨F', hF'⟩ : ∃ F', F' = mput F D (some .hid) := ⟨_, rfl⟩
  have geF : ∀ a o, c.F0 a = some o → F' a = some o := fun a o e => by
    have z := at'.ge a o e
    rw [hF', mput_ne (fun q => by subst q; rw [nF] at z; cases z)]
    exact z
  have hotD : ∀ {M5 : Mem}, Dj M5 F' → (mj M5 F') D = some .hid := fun {M5} dj5 => by
    have nM5 : M5 D = none := by rw [hF'] at dj5; exact djM dj5
    rw [mj_r nM5, hF', mput_same]
  have nMD : ∀ {M5 : Mem}, Dj M5 F' → M5 D = none := fun {M5} dj5 => by rw [hF'] at dj5; exact djM dj5
  have kp1 : ∀ {M5 : Mem} {H5 : Hp}, Dj M5 F' → Ev M1 H1 M5 H5 → Kp (mj M1 F) H1 (mj M5 F') H5 := fun {M5 H5} dj5 ev5 => by
    rw [hF', mjH (nMD dj5)]
    have z : Kp (mj M1 F) H1 (mj M5 F) H5 := ev5.kpF
    refine ⟨z.tup, fun a vs h n => ?_⟩
    have z2 := z.lst a vs h n
    refine ⟨z2.1, ?_⟩
    rw [mput_ne (fun e => by
      subst e
      rw [hD] at h; cases h)]
    exact z2.2
  -- the list written
  have wrEv : ∀ {M9 : Mem} {H9 : Hp} {ws : List V}, Ev M1 H1 M9 H9 → Ev M1 H1 M9 (upd H9 D (.lst ws)) := fun {M9 H9 ws} e19 => by
    refine ⟨fun a o h hn => ?_, e19.mono, fun a o h nt => ?_⟩
    · rw [upd_ne (ne_of_none h hD)]; exact e19.keep a o h hn
    · rw [upd_ne (ne_of_none h hD)]; exact e19.dom a o h nt
  have wrMo : ∀ {M9 : Mem} {H9 : Hp} {vs ws : List V}, Dj M9 F' → MemOk K (mj M9 F') H9 → H9 D = some (.lst vs) → MemOk K (mj M9 F') (upd H9 D (.lst ws)) := fun {M9 H9 vs ws} dj9 mo9 hD9 => by
    have z : MemOk K (mput (mj M9 F') D (some .hid)) (upd H9 D (.lst ws)) := mo9.write (hotD dj9) (fun ps z => by rw [hD9] at z; cases z) ⟨_, upd_same⟩
    rw [mput_self (hotD dj9)] at z
    exact z
  have wrKp : ∀ {M9 : Mem} {H9 : Hp} {vs ws : List V}, Dj M9 F' → H9 D = some (.lst vs) → Kp (mj M9 F') H9 (mj M9 F') (upd H9 D (.lst ws)) := fun {M9 H9 vs ws} dj9 hD9 => by
    have z := (Ev.write (o := HO.lst ws) (u' := MO.hid) (hotD dj9) ⟨_, hD9, .inl trivial, fun _ => nofun⟩).kp
    rw [mput_self (hotD dj9)] at z
    exact z
  refine ⟨fun i m H5 => m = xs.length - i ∧ i ≤ xs.length ∧ ∃ M5 acc ys, Dj M5 F' ∧ Ev M1 H1 M5 H5 ∧ MemOk K (mj M5 F') H5 ∧ H5 D = some (.lst acc) ∧ RpL K (mj M5 F') H5 acc ys ∧ compL2 vs vs1 g tt ti1 g1 tt1 te ds Qd (xs.drop i) ys M5, ⟨xs.length, by simp, Nat.zero_le _, M1, [], [], ?_, ?_, ?_, upd_same, .nil, q⟩, ?_⟩
  · rw [hF']; exact djH dj1 nM
  · exact Ev.new hD
  · rw [hF', mjH nM]
    exact mo1.newHot hD ⟨_, upd_same⟩
  rintro i m H5 ⟨rfl, hle, M5, acc, ys, dj5, ev5, mo5, hD5, ra, q5⟩
  have nM5 : M5 D = none := nMD dj5
  have kp15 := kp1 dj5 ev5
  obtain ⟨w1, w2, w3⟩ := wk (mj M5 F') H5 kp15 mo5
  by_cases hlt : i < xs.length
  · rw [List.drop_eq_getElem_cons hlt] at q5
    have hx : xs[i]? = some xs[i] := List.getElem?_eq_getElem hlt
    refine .inr ⟨w1 i hlt, fun H6 => ∃ M5 acc ys, Dj M5 F' ∧ Ev M1 H1 M5 H6 ∧ MemOk K (mj M5 F') H6 ∧ H6 D = some (.lst acc) ∧ RpL K (mj M5 F') H6 acc ys ∧ compL2 vs vs1 g tt ti1 g1 tt1 te ds Qd (xs.drop (i + 1)) ys M5, fun H6 h => ⟨xs.length - (i + 1), by omega, rfl, hlt, h⟩, fun x H6 y => ?_⟩
    obtain ⟨_, mo6, rx, same⟩ := w3 i x H6 _ hx y
    have e56 : Ev M5 H5 M5 H6 := ev_of_same same
    have sl5 : SlR K (mj M5 F') H6 (dwipe ds vs) (L2.wipe σ vs) := ((at'.sl.kp ev1.kpF).kp kp15 |>.kp e56.kpF).wipe vs
    have at6 : At K c.mute (dwipe ds vs) M5 F' (L2.wipe σ vs) H6 := ⟨sl5, mo6, at'.ev.trans (ev1.trans (ev5.trans e56)), dj5, geF⟩
    have hD6 : H6 D = some (.lst acc) := same D _ hD5
    have noD : ∀ {M7 : Mem} {H7 : Hp}, Ev M5 H6 M7 H7 → H7 D = some (.lst acc) := fun e => e.keep D _ hD6 (.inl ⟨nM5, fun _ => nofun⟩)
    refine ⟨xs[i], dwipe ds vs, M5, F', _, at6, rx, q5, fun ds7 M7 σ7 H7 p7 dj7 ev7 mo7 sl7 out7 => ?_⟩
    refine ⟨(wipe_out out7).trans wipe_wipe, ?_⟩
    have at7 : At K c.mute ds7 M7 F' σ7 H7 := ⟨sl7, mo7, at6.ev.trans ev7, dj7, geF⟩
    refine ⟨ds7, M7, F', _, at7, p7, fun b M8 H8 p8 dj8 ev8 mo8 => ?_⟩
    have e68 := ev7.trans ev8
    have e18 := ev5.trans (e56.trans e68)
    have ra8 : RpL K (mj M8 F') H8 acc ys := RpL.ev e68 ys (RpL.ev e56 ys ra)
    cases b with
    | false =>
      dsimp only
      rw [if_neg Bool.false_ne_true]
      exact ⟨M8, acc, ys, dj8, e18, mo8, noD e68, ra8, p8.2 rfl⟩
    | true =>
      dsimp only
      rw [if_pos rfl]
      have at8 := at7.go dj8 ev8 mo8
      refine ⟨ds7, M8, F', _, at8, p8.1 rfl, fun zs M9 H9 J1 p9 dj9 ev9 mo9 wk9 => ?_⟩
      obtain ⟨hz, p9⟩ := p9
      have e19 := e18.trans ev9
      have sl9 : SlR K (mj M9 F') H9 ds7 σ7 := at8.sl.kp ev9.kpF
      have hD9 : H9 D = some (.lst acc) := noD (e68.trans ev9)
      have ra9 : RpL K (mj M9 F') H9 acc ys := RpL.ev ev9 ys ra8
      refine ⟨fun j k H5 => k = zs.length - j ∧ j ≤ zs.length ∧ ∃ M5 acc2 ys2, Dj M5 F' ∧ Ev M1 H1 M5 H5 ∧ Kp (mj M9 F') H9 (mj M5 F') H5 ∧ MemOk K (mj M5 F') H5 ∧ H5 D = some (.lst acc2) ∧ RpL K (mj M5 F') H5 acc2 ys2 ∧ ys2.length ≤ ys.length + j ∧ compL vs1 g1 tt1 te ds7 (fun acc' M' => compL2 vs vs1 g tt ti1 g1 tt1 te ds Qd (xs.drop (i + 1)) acc' M') (zs.drop j) ys2 M5, ⟨zs.length, by simp, Nat.zero_le _, M9, acc, ys, dj9, e19, ⟨fun _ _ h => h, fun _ _ h n => ⟨h, n⟩⟩, mo9, hD9, ra9, Nat.le_refl _, p9⟩, ?_⟩
      rintro j k H10 ⟨rfl, hle1, M10, acc2, ys2, dj10, e110, kp10, mo10, hD10, ra10, hl2, q10⟩
      obtain ⟨u1, u2, u3⟩ := wk9 (mj M10 F') H10 kp10 mo10
      by_cases hlt1 : j < zs.length
      · rw [List.drop_eq_getElem_cons hlt1] at q10
        have hz1 : zs[j]? = some zs[j] := List.getElem?_eq_getElem hlt1
        refine .inr ⟨u1 j hlt1, fun H5 => ∃ M5 acc2 ys2, Dj M5 F' ∧ Ev M1 H1 M5 H5 ∧ Kp (mj M9 F') H9 (mj M5 F') H5 ∧ MemOk K (mj M5 F') H5 ∧ H5 D = some (.lst acc2) ∧ RpL K (mj M5 F') H5 acc2 ys2 ∧ ys2.length ≤ ys.length + (j + 1) ∧ compL vs1 g1 tt1 te ds7 (fun acc' M' => compL2 vs vs1 g tt ti1 g1 tt1 te ds Qd (xs.drop (i + 1)) acc' M') (zs.drop (j + 1)) ys2 M5, fun H5 h => ⟨zs.length - (j + 1), by omega, rfl, hlt1, h⟩, fun x H11 y1 => ?_⟩
        obtain ⟨_, mo11, rx1, same1⟩ := u3 j x H11 _ hz1 y1
        have e1011 : Ev M10 H10 M10 H11 := ev_of_same same1
        have nM10 : M10 D = none := nMD dj10
        have hD11 : H11 D = some (.lst acc2) := same1 D _ hD10
        have noD1 : ∀ {M7 : Mem} {H7 : Hp}, Ev M10 H11 M7 H7 → H7 D = some (.lst acc2) := fun e => e.keep D _ hD11 (.inl ⟨nM10, fun _ => nofun⟩)
        have sl11 : SlR K (mj M10 F') H11 (dwipe ds7 vs1) (L2.wipe σ7 vs1) := ((sl9.kp kp10).kp e1011.kpF).wipe vs1
        have at11 : At K c.mute (dwipe ds7 vs1) M10 F' (L2.wipe σ7 vs1) H11 := ⟨sl11, mo11, at'.ev.trans (ev1.trans (e110.trans e1011)), dj10, geF⟩
        refine ⟨zs[j], dwipe ds7 vs1, M10, F', _, at11, rx1, q10, fun ds12 M12 σ12 H12 p12 dj12 ev12 mo12 sl12 out12 => ?_⟩
        refine ⟨(wipe_out out12).trans wipe_wipe, ?_⟩
        have at12 : At K c.mute ds12 M12 F' σ12 H12 := ⟨sl12, mo12, at11.ev.trans ev12, dj12, geF⟩
        refine ⟨ds12, M12, F', _, at12, p12, fun b M13 H13 p13 dj13 ev13 mo13 => ?_⟩
        have e1113 := ev12.trans ev13
        have e113 := e110.trans (e1011.trans e1113)
        have kp13 : Kp (mj M9 F') H9 (mj M13 F') H13 := kp10.trans (e1011.kpF.trans e1113.kpF)
        have ra13 : RpL K (mj M13 F') H13 acc2 ys2 := RpL.ev e1113 ys2 (RpL.ev e1011 ys2 ra10)
        cases b with
        | false =>
          dsimp only
          rw [if_neg Bool.false_ne_true]
          exact ⟨M13, acc2, ys2, dj13, e113, kp13, mo13, noD1 e1113, ra13, by omega, p13.2 rfl⟩
        | true =>
          dsimp only
          rw [if_pos rfl]
          refine ⟨ds12, M13, F', _, at12.go dj13 ev13 mo13, p13.1 rfl, fun y M14 v H14 p14 dj14 ev14 mo14 r14 => ?_⟩
          have e1114 := e1113.trans ev14
          have hD14 := noD1 e1114
          have lenA : acc2.length = ys2.length := ra10.length
          refine ⟨acc2, hD14, by omega, M14, acc2 ++ [v], ys2 ++ [y], dj14, wrEv (e113.trans ev14), (kp13.trans ev14.kpF).trans (wrKp dj14 hD14), wrMo dj14 mo14 hD14, upd_same, ?_, by rw [List.length_append]; show ys2.length + 1 ≤ _; omega, p14⟩
          have kpw := wrKp (ws := acc2 ++ [v]) dj14 hD14
          exact (RpL.kp kpw ys2 (RpL.ev ev14 ys2 ra13)).append (.cons (Rp.kp kpw y r14) .nil)
      · have e : j = zs.length := by omega
        subst e
        rw [List.drop_length] at q10
        exact .inl ⟨u2, M10, acc2, ys2, dj10, e110, mo10, hD10, ra10, q10⟩
  · have e : i = xs.length := by omega
    subst e
    rw [List.drop_length] at q5
    refine .inl ⟨w2, ?_⟩
    have m2 : MemOk K (mput (mj M5 F) D (some .hid)) H5 := by rw [← mjH nM5, ← hF']; exact mo5
    have r2 : RpL K (mput (mj M5 F) D (some .hid)) H5 acc ys := by rw [← mjH nM5, ← hF']; exact ra
    exact fin D ys M5 acc H5 q5 (by rw [hF'] at dj5; exact djU dj5 nF) (ev1.trans ev5) m2 nM5 nF hD5 hD0 r2
theorem lc2_cold {K : Fg} {σ : L2.St} {H : Hp} {Q : VK} : Lf K c (dComp2 vs vs1 ti g tt ti1 g1 tt1 te) σ H Q → tLc2 (Li K c ti) (Lg K c.mute vs g) (Lt K c.mute tt) (Li K c.mute ti1) (Lg K c.mute vs1 g1) (Lt K c.mute tt1) (Lf K c.mute te) vs vs1 σ H Q := fun ⟨ds, M, F, P, at', ht, fin⟩ =>
  lc2_read at' ht fun D ys M' ws H' p dj ev mo nM nF hD hD0 r => by
    have cold : (mj M' F) D = none := by rw [mj_r nM]; exact nF
    have ls : ∀ a, mput (mj M' F) D (some .hid) a = none → (mj M' F) a = none := fun a h => by
      by_cases e : a = D
      · subst e; exact cold
      · rw [mput_ne e] at h; exact h
    exact fin (.lst ys) M' (.ref D) H' p dj ev (mo.less fun a o h => by rw [mput_ne (fun e => by subst e; rw [cold] at h; cases h)]; exact h) (.lst hD cold (RpL.less ls ys r))
variable {tg iter tg1 iter1 elt : Expr} {ifs ifs1 : List Expr} {scope : Scope} {own : List (Str × Nat)}
theorem d_lc2 (hc : X.calm = true) (hN : X.N.Nodup) (hi : DI X c tg iter ti) (ok : BlkOk X.N X.env.scope scope own) (hv : ∀ i ∈ vs1, i ∈ own.map (·.2))
    (hg : ∀ (s : Shared) (H : Hp) (C : Addr) (cl : List (Str × Addr)) (fp : List Addr), DG (X.blk s H scope (compEnvC scope cl C X.env) fp) c.mute (own.map (·.2)) tg g) (ht : ∀ (s : Shared) (H : Hp) (C : Addr) (cl : List (Str × Addr)) (fp : List Addr), DTs (X.blk s H scope (compEnvC scope cl C X.env) fp) c.mute ifs tt)
    (hi1 : ∀ (s : Shared) (H : Hp) (C : Addr) (cl : List (Str × Addr)) (fp : List Addr), DI (X.blk s H scope (compEnvC scope cl C X.env) fp) c.mute tg1 iter1 ti1)
    (hg1 : ∀ (s : Shared) (H : Hp) (C : Addr) (cl : List (Str × Addr)) (fp : List Addr), DG (X.blk s H scope (compEnvC scope cl C X.env) fp) c.mute vs1 tg1 g1) (ht1 : ∀ (s : Shared) (H : Hp) (C : Addr) (cl : List (Str × Addr)) (fp : List Addr), DTs (X.blk s H scope (compEnvC scope cl C X.env) fp) c.mute ifs1 tt1)
    (he : ∀ (s : Shared) (H : Hp) (C : Addr) (cl : List (Str × Addr)) (fp : List Addr), DE (X.blk s H scope (compEnvC scope cl C X.env) fp) c.mute elt te) (hs : ∀ x, foldedSetIterable iter X.env x = pure x := by intro _; rfl) (hs1 : ∀ env x, foldedSetIterable iter1 env x = pure x := by intro _ _; rfl) :
    DE X c (.ListComp elt [⟨tg, iter, ifs, 0⟩, ⟨tg1, iter1, ifs1, 0⟩] scope pos) (dComp2 (own.map (·.2)) vs1 ti g tt ti1 g1 tt1 te) := (pe_lc2 (g := Lg X.K c.mute (own.map fun (x : Str × Nat) => x.2) g) (tt := Lt X.K c.mute tt) (wi1 := Li X.K c.mute ti1) (g1 := Lg X.K c.mute vs1 g1) (tt1 := Lt X.K c.mute tt1) (te := Lf X.K c.mute te) hc hN hi ok hv hg ht hi1 hg1 ht1 he hs hs1).imp fun _ _ _ => lc2_cold
theorem d_setLc2 {i : Nat} {y : Str} {py : Pos} {spos : Pos} (hc : X.calm = true) (hN : X.N.Nodup) (hy : X.N[i]? = some y) (hyl : X.env.scope.names.lookup y = some .local)
    (hsw : swapsWith (.ListComp elt [⟨tg, iter, ifs, 0⟩, ⟨tg1, iter1, ifs1, 0⟩] scope pos) (some (.Name y py)) spos.line X.env = pure true) (hi : DI X c tg iter ti) (ok : BlkOk X.N X.env.scope scope own) (hv : ∀ i ∈ vs1, i ∈ own.map (·.2))
    (hg : ∀ (s : Shared) (H : Hp) (C : Addr) (cl : List (Str × Addr)) (fp : List Addr), DG (X.blk s H scope (compEnvC scope cl C X.env) fp) c.mute (own.map (·.2)) tg g) (ht : ∀ (s : Shared) (H : Hp) (C : Addr) (cl : List (Str × Addr)) (fp : List Addr), DTs (X.blk s H scope (compEnvC scope cl C X.env) fp) c.mute ifs tt)
    (hi1 : ∀ (s : Shared) (H : Hp) (C : Addr) (cl : List (Str × Addr)) (fp : List Addr), DI (X.blk s H scope (compEnvC scope cl C X.env) fp) c.mute tg1 iter1 ti1)
    (hg1 : ∀ (s : Shared) (H : Hp) (C : Addr) (cl : List (Str × Addr)) (fp : List Addr), DG (X.blk s H scope (compEnvC scope cl C X.env) fp) c.mute vs1 tg1 g1) (ht1 : ∀ (s : Shared) (H : Hp) (C : Addr) (cl : List (Str × Addr)) (fp : List Addr), DTs (X.blk s H scope (compEnvC scope cl C X.env) fp) c.mute ifs1 tt1)
    (he : ∀ (s : Shared) (H : Hp) (C : Addr) (cl : List (Str × Addr)) (fp : List Addr), DE (X.blk s H scope (compEnvC scope cl C X.env) fp) c.mute elt te) (hs : ∀ x, foldedSetIterable iter X.env x = pure x := by intro _; rfl) (hs1 : ∀ env x, foldedSetIterable iter1 env x = pure x := by intro _ _; rfl) :
    DS X c (.Assign [.Name y py] (.ListComp elt [⟨tg, iter, ifs, 0⟩, ⟨tg1, iter1, ifs1, 0⟩] scope pos) spos) (dSet i (dComp2 (own.map (·.2)) vs1 ti g tt ti1 g1 tt1 te)) := (ps_setLc2 (g := Lg X.K c.mute (own.map fun (x : Str × Nat) => x.2) g) (tt := Lt X.K c.mute tt) (wi1 := Li X.K c.mute ti1) (g1 := Lg X.K c.mute vs1 g1) (tt1 := Lt X.K c.mute tt1) (te := Lf X.K c.mute te) hc hN hy hyl hsw hi ok hv hg ht hi1 hg1 ht1 he hs hs1).imp fun W σ H ⟨ds, M, F, DD, at', ht, f⟩ =>
  lc2_cold (Q := fun v H' => W.nx (σ.set i (some v)) H') ⟨ds, M, F, fun d M1 => DD.nx (ds.set i (some d)) M1, at', ht, fun d M' v H' p dj ev mo rp => f.nx _ M' _ H' p dj ev mo ((at'.sl.kp ev.kpF).set i rp)⟩
end
end DL

set_option Elab.async false
set_option linter.all false
set_option maxRecDepth 100000
set_option maxHeartbeats 4000000
namespace DL
open PySem PySem.Spec PyProof.Rows L2
/-! ### a hot list stands still from here on -/
def dFrz (i : Nat) (t : DTS) : DTS := fun W ds M => ∃ a xs, ds[i]? = some (some (.ref a)) ∧ M a = some (.lst xs) ∧ t W (ds.set i (some (.lst xs))) (mput M a none)
theorem SlR.less {K : Fg} {A A' : Mem} {H : Hp} {ds : DSt} {σ : L2.St} (s : SlR K A H ds σ) (e : ∀ a, A a = none → A' a = none) : SlR K A' H ds σ :=
  ⟨s.1, fun i d h => by
    obtain ⟨v, e1, r⟩ := s.2 i d h
    exact ⟨v, e1, Rp.less e d r⟩⟩
theorem SlR.put {K : Fg} {A : Mem} {H : Hp} {ds : DSt} {σ : L2.St} {v : V} {d : D} (s : SlR K A H ds σ) (i : Nat) (hv : σ[i]? = some (some v)) (r : Rp K A H v d) : SlR K A H (ds.set i (some d)) σ := by
  refine ⟨by rw [List.length_set, s.1], fun j e h => ?_⟩
  rw [List.getElem?_set] at h
  split at h
  · rename_i hij
    subst hij
    split at h
    · cases h
      exact ⟨v, hv, r⟩
    · cases h
  · exact s.2 j e h
theorem ls_frz {K : Fg} {c : DC} {i : Nat} {t : DTS} {W : Ends} {σ : L2.St} {H : Hp} : Ls K c (dFrz i t) W σ H → Ls K c t W σ H := fun ⟨ds, M, F, DD, at', ⟨a, xs, h1, h2, ht⟩, f⟩ => by
  have fa := dj_here at'.dj h2
  obtain ⟨vs, e1, r⟩ := at'.mo a _ (mj_l h2)
  obtain ⟨v, hv, rv⟩ := at'.sl.2 i _ h1
  cases rv
  have rl : Rp K (mj (mput M a none) F) H (.ref a) (.lst xs) := .lst e1 (by rw [mj_r mput_same]; exact fa) (RpL.less mput_less xs r)
  refine ⟨ds.set i (some (.lst xs)), mput M a none, F, DD, ⟨(at'.sl.less mput_less).put i hv rl, at'.mo.less (mput_sub at'.dj (at'.dj.at_ a)), ev_drop at'.ev, dj_drop at'.dj, at'.ge⟩, ht, f.ev (ev_drop .refl)⟩
theorem d_frz {X : Cx} {c : DC} {s : Stmt} {t : DTS} (i : Nat) (h : DS X c s t) : DS X c s (dFrz i t) := h.imp fun _ _ _ => ls_frz
/-- a, b, c = x, y, z: plain locals -/
def dPar3 (i j l : Nat) (ta : DTA) : DTS := fun W ds M => ta ds M fun xs M1 => match xs with | [a, b, c] => W.nx (((ds.set i (some a)).set j (some b)).set l (some c)) M1 | _ => False
theorem d_par3 {X : Cx} {c : DC} {pos : Pos} {i j l : Nat} {x y z : Str} {a b e : Expr} {ta : DTA} {px py pz pt : Pos} {kt k2 : Nat} {pt2 : Pos} (hc : X.calm = true) (hN : X.N.Nodup) (hi : X.N[i]? = some x) (hj : X.N[j]? = some y) (hl : X.N[l]? = some z) (hij : i ≠ j) (hil : i ≠ l) (hjl : j ≠ l)
    (hx : X.env.scope.names.lookup x = some .local) (hy : X.env.scope.names.lookup y = some .local) (hz : X.env.scope.names.lookup z = some .local) (ha : DA X c [a, b, e] ta)
    (hw : swappedStores [.Tuple [.Name x px, .Name y py, .Name z pz] kt pt] (.Tuple [a, b, e] k2 pt2) X.env = pure (some [x, y, z]))
    (hs : swapsWithSole [.Tuple [.Name x px, .Name y py, .Name z pz] kt pt] (.Tuple [a, b, e] k2 pt2) pos.line X.env = pure false := by rfl) :
    DS X c (.Assign [.Tuple [.Name x px, .Name y py, .Name z pz] kt pt] (.Tuple [a, b, e] k2 pt2) pos) (dPar3 i j l ta) := (ps_par3 hc hN hi hj hl hij hil hjl hx hy hz ha hw hs).imp fun W σ H ⟨ds, M, F, DD, at', ht, f⟩ =>
  ⟨ds, M, F, _, at', ht, fun xs M1 vs H1 p dj ev mo rp => by
    match xs, vs, rp, p with
    | [a, b, c], _, .cons r1 (.cons r2 (.cons r3 .nil)), p => exact ⟨_, _, _, rfl, f.nx _ M1 _ H1 p dj ev mo ((((at'.sl.kp ev.kpF).set i r1).set j r2).set l r3)⟩⟩
end DL

set_option Elab.async false
set_option linter.all false
set_option maxRecDepth 100000
set_option maxHeartbeats 4000000
namespace DL
open PySem PySem.Spec PyProof.Rows L2
/-! ### keys, tables of data -/
def keyD : D → Option Key
  | .int i => some (.inl i)
  | .str x => some (.inr x)
  | _ => none
def keysD : List D → Option (List Key)
  | [] => some []
  | d :: r => match keyD d, keysD r with | some k, some ks => some (k :: ks) | _, _ => none
theorem keyD_rp {K : Fg} {A : Mem} {H : Hp} {d : D} {v : V} {k : Key} (e : keyD d = some k) (r : Rp K A H v d) : v = kV k := by
  cases r <;> simp_all [keyD] <;> (subst e; rfl)
theorem keysD_rp {K : Fg} {A : Mem} {H : Hp} : ∀ {ds : List D} {vs : List V} {ks : List Key}, keysD ds = some ks → RpL K A H vs ds → vs = ks.map kV
  | [], _, _, e, .nil => by cases e; rfl
  | d :: r, _, _, e, .cons h1 h2 => by
    unfold keysD at e
    cases q : keyD d with
    | none => rw [q] at e; cases e
    | some k =>
      cases q2 : keysD r with
      | none => rw [q, q2] at e; cases e
      | some l =>
        rw [q, q2] at e
        cases e
        rw [List.map_cons, keyD_rp q h1, keysD_rp q2 h2]
section
variable {κ : Type} [DecidableEq κ]
def valD (kvs : List (κ × D)) (k : κ) : Option D := (kvs.find? fun kv => decide (kv.1 = k)).map (·.2)
def putD (kvs : List (κ × D)) (k : κ) (v : D) : List (κ × D) :=
  if (kvs.any fun kv => decide (kv.1 = k)) = true then kvs.map (fun kv => if kv.1 = k then (kv.1, v) else kv) else kvs ++ [(k, v)]
theorem kvR_val {K : Fg} {A : Mem} {H : Hp} (k : κ) : ∀ {l : List (κ × V)} {m : List (κ × D)}, KvR K A H l m → (valV l k = none ∧ valD m k = none) ∨ ∃ v d, valV l k = some v ∧ valD m k = some d ∧ Rp K A H v d
  | _, _, .nil => .inl ⟨rfl, rfl⟩
  | (a, v) :: l, (b, d) :: m, .cons h t => by
    obtain ⟨h1, h2⟩ := h
    dsimp only at h1 h2
    subst h1
    by_cases e : a = k
    · exact .inr ⟨v, d, by simp [valV, List.find?_cons, e], by simp [valD, List.find?_cons, e], h2⟩
    · rcases kvR_val k t with ⟨i1, i2⟩ | ⟨v', d', i1, i2, i3⟩
      · exact .inl ⟨by simpa [valV, List.find?_cons, e] using i1, by simpa [valD, List.find?_cons, e] using i2⟩
      · exact .inr ⟨v', d', by simpa [valV, List.find?_cons, e] using i1, by simpa [valD, List.find?_cons, e] using i2, i3⟩
theorem kvR_any {K : Fg} {A : Mem} {H : Hp} (k : κ) : ∀ {l : List (κ × V)} {m : List (κ × D)}, KvR K A H l m → (l.any fun kv => decide (kv.1 = k)) = (m.any fun kv => decide (kv.1 = k))
  | _, _, .nil => rfl
  | (a, v) :: l, (b, d) :: m, .cons h t => by
    obtain ⟨h1, h2⟩ := h
    dsimp only at h1 h2
    subst h1
    rw [List.any_cons, List.any_cons, kvR_any k t]
theorem kvR_map {K : Fg} {A : Mem} {H : Hp} (k : κ) {x : V} {y : D} (r : Rp K A H x y) : ∀ {l : List (κ × V)} {m : List (κ × D)}, KvR K A H l m → KvR K A H (l.map fun kv => if kv.1 = k then (kv.1, x) else kv) (m.map fun kv => if kv.1 = k then (kv.1, y) else kv)
  | _, _, .nil => .nil
  | (a, v) :: l, (b, d) :: m, .cons h t => by
    obtain ⟨h1, h2⟩ := h
    dsimp only at h1 h2
    subst h1
    rw [List.map_cons, List.map_cons]
    refine .cons ?_ (kvR_map k r t)
    by_cases e : a = k
    · simp only [e, if_true]; exact ⟨trivial, r⟩
    · simp only [e, if_false]; exact ⟨trivial, h2⟩
theorem kvR_snoc {K : Fg} {A : Mem} {H : Hp} (k : κ) {x : V} {y : D} (r : Rp K A H x y) : ∀ {l : List (κ × V)} {m : List (κ × D)}, KvR K A H l m → KvR K A H (l ++ [(k, x)]) (m ++ [(k, y)])
  | _, _, .nil => .cons ⟨rfl, r⟩ .nil
  | _ :: l, _ :: m, .cons h t => .cons h (kvR_snoc k r t)
theorem kvR_put {K : Fg} {A : Mem} {H : Hp} (k : κ) {x : V} {y : D} (r : Rp K A H x y) {l : List (κ × V)} {m : List (κ × D)} (h : KvR K A H l m) : KvR K A H (putK l k x) (putD m k y) := by
  unfold putK putD
  rw [kvR_any k h]
  split
  · exact kvR_map k r h
  · exact kvR_snoc k r h
theorem kvR_len {K : Fg} {A : Mem} {H : Hp} : ∀ {l : List (κ × V)} {m : List (κ × D)}, KvR K A H l m → l.length = m.length
  | _, _, .nil => rfl
  | _ :: l, _ :: m, .cons h t => by rw [List.length_cons, List.length_cons, kvR_len t]
theorem kvR_vals {K : Fg} {A : Mem} {H : Hp} : ∀ {l : List (κ × V)} {m : List (κ × D)}, KvR K A H l m → RpL K A H (l.map (·.2)) (m.map (·.2))
  | _, _, .nil => .nil
  | _ :: l, _ :: m, .cons h t => .cons h.2 (kvR_vals t)
end
/-! ### tuple(xs), a key -/
def gTupleT : DOL := fun xs M P => match xs with
  | [.lst ys] => (match keysD ys with | some ks => ∀ p, M p = none → P (.ref p) (mput M p (some (.tp ks))) | none => False)
  | _ => False
theorem ol_tupleT {K : Fg} : OpL K (fun xs H Q => ∃ p ys, xs = [.ref p] ∧ ((SqL K H p ys ∧ ∀ l, H l = none → Q (.ref l) (upd H l (.tup ys))) ∨ (SqT K H p ys ∧ Q (.ref p) H))) gTupleT := fun M F xs vs H P Q q dj mo rs fin => by
  unfold gTupleT at q
  split at q
  · split at q
    · rename_i ks e
      match vs, rs with
      | [_], .cons (.lst hs hn hl) .nil =>
        have e2 := keysD_rp e hl
        subst e2
        refine ⟨_, _, rfl, .inl ⟨.of hs, fun p n => ?_⟩⟩
        obtain ⟨n1, n2⟩ := mj_none (mo.fresh n)
        refine fin (.ref p) _ (.ref p) _ (q p n1) (dj_put dj n2) (Ev.newHot n) ?_ (.ref p)
        rw [mj_put]
        exact mo.newHot n upd_same
    · exact q.elim
  · exact q.elim
/-! ### dicts -/
def dNewT : DTE := fun ds M P => ∀ p, M p = none → P (.ref p) (mput M p (some (.dT [])))
def dNewK : DTE := fun ds M P => ∀ p, M p = none → P (.ref p) (mput M p (some (.dK [])))
/-- what stands at the key y in the dict at a -/
def atD (M : Mem) (a : Addr) (y : D) (P : Option D → Prop) : Prop := match M a with
  | some (.dT kvs) => (match y with | .ref b => (match M b with | some (.tp ks) => P (valD kvs ks) | _ => False) | _ => False)
  | some (.dK kvs) => (match keyD y with | some k => P (valD kvs k) | none => False)
  | _ => False
def isDict (M : Mem) (a : Addr) : Prop := match M a with | some (.dT _) => True | some (.dK _) => True | _ => False
def dGet2 (td ty tx : DTE) : DTE := fun ds M P => td ds M fun x M1 => match x with
  | .ref a => isDict M1 a ∧ ty ds M1 fun y M2 => tx ds M2 fun z M3 => atD M3 a y fun o => P (o.getD z) M3
  | _ => False
/-- the store behind d[y] = v -/
def putAt (M : Mem) (a : Addr) (y v : D) (P : Mem → Prop) : Prop := match M a with
  | some (.dT kvs) => (match y with | .ref b => (match M b with | some (.tp ks) => kvs.length < sizeLine ∧ P (mput M a (some (.dT (putD kvs ks v)))) | _ => False) | _ => False)
  | some (.dK kvs) => (match keyD y with | some k => kvs.length < sizeLine ∧ P (mput M a (some (.dK (putD kvs k v)))) | none => False)
  | _ => False
def dDPut (td ty tv : DTE) : DTS := fun W ds M => tv ds M fun v M1 => td ds M1 fun x M2 => ty ds M2 fun y M3 => match x with
  | .ref a => putAt M3 a y v fun M4 => W.nx ds M4
  | _ => False
theorem atD_get {K : Fg} {M F : Mem} {H : Hp} {a : Addr} {y : D} {u : V} {P : Option D → Prop} (mo : MemOk K (mj M F) H) (ry : Rp K (mj M F) H u y) (h : atD M a y P) : ∃ o, DGet H a u o ∧ ((o = none ∧ P none) ∨ ∃ v d, o = some v ∧ Rp K (mj M F) H v d ∧ P (some d)) := by
  unfold atD at h
  split at h
  · rename_i kvs hM
    obtain ⟨vs, e1, r⟩ := mo a _ (mj_l hM)
    split at h
    · split at h
      · rename_i ks hb
        cases ry
        have eb := mo _ _ (mj_l hb)
        refine ⟨_, DGet.t e1 eb, ?_⟩
        rcases kvR_val ks r with ⟨i1, i2⟩ | ⟨v, d, i1, i2, i3⟩
        · rw [i2] at h; exact .inl ⟨i1, h⟩
        · rw [i2] at h; exact .inr ⟨v, d, i1, i3, h⟩
      · exact h.elim
    · exact h.elim
  · rename_i kvs hM
    obtain ⟨vs, e1, r⟩ := mo a _ (mj_l hM)
    split at h
    · rename_i k hk
      rw [keyD_rp hk ry]
      refine ⟨_, DGet.k e1, ?_⟩
      rcases kvR_val k r with ⟨i1, i2⟩ | ⟨v, d, i1, i2, i3⟩
      · rw [i2] at h; exact .inl ⟨i1, h⟩
      · rw [i2] at h; exact .inr ⟨v, d, i1, i3, h⟩
    · exact h.elim
  · exact h.elim
theorem isDict_at {K : Fg} {M F : Mem} {H : Hp} {a : Addr} (mo : MemOk K (mj M F) H) (h : isDict M a) : IsD H a := by
  unfold isDict at h
  split at h
  · rename_i kvs hM
    obtain ⟨vs, e1, r⟩ := mo a _ (mj_l hM)
    exact .inr ⟨_, .inl e1⟩
  · rename_i kvs hM
    obtain ⟨vs, e1, r⟩ := mo a _ (mj_l hM)
    exact .inl ⟨_, .inl e1⟩
  · exact h.elim
section
variable {X : Cx} {c : DC} {o e f : Expr} {td ty tx tv : DTE} {pos pos' apos cpos : Pos}
theorem d_newT : DE X c (.Dict [] [] pos) dNewT := pe_dnewT.imp fun σ H Q ⟨ds, M, F, P, at', ht, fin⟩ p n => by
  obtain ⟨n1, n2⟩ := mj_none (at'.mo.fresh n)
  refine fin (.ref p) _ (.ref p) _ (ht p n1) (dj_put at'.dj n2) (Ev.newHot n) ?_ (.ref p)
  rw [mj_put]
  exact at'.mo.newHot n ⟨_, upd_same, .nil⟩
theorem d_newK : DE X c (.Dict [] [] pos) dNewK := pe_dnewK.imp fun σ H Q ⟨ds, M, F, P, at', ht, fin⟩ p n => by
  obtain ⟨n1, n2⟩ := mj_none (at'.mo.fresh n)
  refine fin (.ref p) _ (.ref p) _ (ht p n1) (dj_put at'.dj n2) (Ev.newHot n) ?_ (.ref p)
  rw [mj_put]
  exact at'.mo.newHot n ⟨_, upd_same, .nil⟩
theorem d_get2D (hu : X.A.units + 65 < cLine) (ho : DE X c o td) (he : DE X c e ty) (hf : DE X c f tx) (m : M2 X o "get" apos e f cpos) : DE X c (.Call (.Attribute o "get" apos) [e, f] [] cpos) (dGet2 td ty tx) := by
  refine (pe_dget2 (by omega) ho he hf m).imp fun σ H Q ⟨ds, M, F, P, at', ht, fin⟩ => ?_
  refine ⟨ds, M, F, _, at', ht, fun x M1 v H1 q dj ev mo rp => ?_⟩
  cases x with
  | ref a =>
    cases rp
    refine ⟨a, rfl, isDict_at mo q.1, ds, M1, F, _, at'.go dj ev mo, q.2, fun y M2 w H2 q2 dj2 ev2 mo2 rp2 => ?_⟩
    refine ⟨ds, M2, F, _, at'.go dj2 (ev.trans ev2) mo2, q2, fun z M3 u H3 q3 dj3 ev3 mo3 rp3 => ?_⟩
    obtain ⟨ov, g, h⟩ := atD_get mo3 (Rp.ev ev3 y rp2) q3
    refine ⟨ov, g, ?_⟩
    have f3 := fin.ev ((ev.trans ev2).trans ev3)
    rcases h with ⟨rfl, h⟩ | ⟨v', d', rfl, r', h⟩
    · exact f3.val dj3 mo3 h rp3
    · exact f3.val dj3 mo3 h r'
  | _ => exact q.elim
theorem d_dput (hu : X.A.units + 65 < cLine) (ho : DE X c o td) (hi : DE X c e ty) (hv : DE X c f tv) (hs : swapsWith f (some (.Subscript o e pos')) pos.line X.env = pure false := by rfl) :
    DS X c (.Assign [.Subscript o e pos'] f pos) (dDPut td ty tv) := by
  refine (ps_dput (by omega) ho hi hv hs).imp fun W σ H ⟨ds, M, F, DD, at', ht, fi⟩ => ?_
  refine ⟨ds, M, F, _, at', ht, fun v M1 r H1 q dj ev mo rp => ?_⟩
  refine ⟨ds, M1, F, _, at'.go dj ev mo, q, fun x M2 w H2 q2 dj2 ev2 mo2 rp2 => ?_⟩
  refine ⟨ds, M2, F, _, at'.go dj2 (ev.trans ev2) mo2, q2, fun y M3 u H3 q3 dj3 ev3 mo3 rp3 => ?_⟩
  have e3 := (ev.trans ev2).trans ev3
  have rv := Rp.ev (ev2.trans ev3) v rp
  cases x with
  | ref a =>
    cases rp2
    change putAt M3 a y v (fun M4 => DD.nx ds M4) at q3
    unfold putAt at q3
    split at q3
    · rename_i kvs hM
      obtain ⟨vs, e1, rr⟩ := mo3 a _ (mj_l hM)
      split at q3
      · split at q3
        · rename_i ks hb
          cases rp3
          have eb := mo3 _ _ (mj_l hb)
          refine ⟨a, _, rfl, DPut.t e1 eb (by rw [kvR_len rr]; exact q3.1), ?_⟩
          have hd := mo3.domH (mj_l hM)
          have ev4 : Ev M3 H3 (mput M3 a (some (.dT (putD kvs ks v)))) (upd H3 a (.dT (putK vs ks r))) := Ev.write hM hd
          refine fi.nx ds _ σ _ q3.2 (dj_put dj3 (dj_here dj3 hM)) (e3.trans ev4) ?_ (at'.sl.kp (e3.trans ev4).kpF)
          rw [mj_put]
          exact mo3.write (mj_l hM) (fun ps z => by rw [e1] at z; cases z) ⟨_, upd_same, KvR.kp (Ev.write (mj_l hM) hd).kp (kvR_put ks rv rr)⟩
        · exact q3.elim
      · exact q3.elim
    · rename_i kvs hM
      obtain ⟨vs, e1, rr⟩ := mo3 a _ (mj_l hM)
      split at q3
      · rename_i k hk
        rw [keyD_rp hk rp3]
        refine ⟨a, _, rfl, DPut.k e1 (by rw [kvR_len rr]; exact q3.1), ?_⟩
        have hd := mo3.domH (mj_l hM)
        have ev4 : Ev M3 H3 (mput M3 a (some (.dK (putD kvs k v)))) (upd H3 a (.dK (putK vs k r))) := Ev.write hM hd
        refine fi.nx ds _ σ _ q3.2 (dj_put dj3 (dj_here dj3 hM)) (e3.trans ev4) ?_ (at'.sl.kp (e3.trans ev4).kpF)
        rw [mj_put]
        exact mo3.write (mj_l hM) (fun ps z => by rw [e1] at z; cases z) ⟨_, upd_same, KvR.kp (Ev.write (mj_l hM) hd).kp (kvR_put k rv rr)⟩
      · exact q3.elim
    · exact q3.elim
  | _ => exact q3.elim
end
/-! ### return, what is hot here forgotten -/
def LeM (M' M : Mem) : Prop := ∀ a, M' a = none ∨ M' a = M a
def dRetD (te : DTE) : DTS := fun W ds M => te ds M fun d M1 => ∃ M', LeM M' M1 ∧ W.rt d M'
theorem d_retD {X : Cx} {c : DC} {e : Expr} {te : DTE} {pos : Pos} (he : DE X c e te) : DS X c (.Return (some e) pos) (dRetD te) := (ps_ret he).imp fun W σ H ⟨ds, M, F, DD, at', ht, f⟩ =>
  ⟨ds, M, F, _, at', ht, fun d M1 v H1 q dj ev mo rp => by
    obtain ⟨M', le, q⟩ := q
    have l1 : ∀ a, M1 a = none → M' a = none := fun a h => (le a).elim id fun e => e.trans h
    refine f.rt d M' v H1 q ⟨fun a => (le a).elim .inl fun e => by rw [e]; exact dj.at_ a, dj.nt⟩ (ev.less l1) (mo.less fun a o h => ?_) (Rp.less (fun a h => ?_) d rp)
    · rcases le a with z | z
      · rw [mj_r z] at h
        cases q2 : M1 a with
        | none => rw [mj_r q2]; exact h
        | some u =>
          rcases dj.at_ a with z2 | z2
          · rw [q2] at z2; cases z2
          · rw [z2] at h; cases h
      · unfold mj at h ⊢
        rw [z] at h
        exact h
    · obtain ⟨h1, h2⟩ := mj_none h
      rw [mj_r (l1 a h1)]; exact h2⟩
end DL

set_option Elab.async false
set_option linter.all false
set_option maxRecDepth 100000
set_option maxHeartbeats 4000000
namespace DL
open PySem PySem.Spec PyProof.Rows L2
open PySem.W (EachIs SortsAt AllAlike Sortable sortVals sortLe dataKind dataKind_some keyToks dataLt list_sort_vals sort_unique sortLe_total sortingHeap sortingHeap_old kdl_hint_values)
/-! ### sorted(d.values()) -/
section
variable {P : Program} {w : World} {A : Around} {E : Value → Shared → Prop} {s : Shared} {v d : Addr} {es : Array DictEntry} {ep : Nat}
theorem collect_vals {Q : List Value → Shared → Prop} (hh : A.handled = none) (hv : s.heap.IsValuesView v d) (hm : s.heap.DictRaw d es ep) (hn : es.size ≤ sizeLine)
    (hQ : ∀ s', (∀ b o, s.heap.get? b = some o → s'.heap.get? b = some o) → s.heap.objs.size ≤ s'.heap.objs.size → s'.gens = s.gens → s'.os = s.os → Q (es.toList.map (·.val)) s') :
    wpAny (model P w) A (collect (.ref v)) Q E s := by
  have hvl : v < s.heap.objs.size := let ⟨_, e, _⟩ := hv; Heap.lt_size e
  have hdl : d < s.heap.objs.size := let ⟨_, e, _⟩ := hm; Heap.lt_size e
  have hSv : s.heap.objs.size ≠ v := Nat.ne_of_gt hvl
  have hSd : s.heap.objs.size ≠ d := Nat.ne_of_gt hdl
  unfold collect
  refine wpAny_bind (wpAny_runValue (codeAny_builtin F.entry_proto_collect ?_))
  rw [Around.under_plainId F.plain_proto_collect _]
  show wpAny _ A.in1 (newList [] >>= fun l => again (.builtin "list.__iadd__" ⟨[l, .ref v], []⟩)) _ _ s
  refine wpAny_bind (wpAny_newObj_type ?_)
  refine wpAny_pure ⟨plainId_quiet F.plain_list_iadd _, codeAny_builtin F.entry_list_iadd ?_⟩
  rw [Around.under_plainId F.plain_list_iadd _]
  have hS : (s.heap.push { cls := .type "list", data := .seq ([] : List Value).toArray }).get? s.heap.objs.size = some { cls := .type "list", data := .seq ([] : List Value).toArray } := Heap.get?_push_size _ rfl
  have kp1 : ∀ b o, s.heap.get? b = some o → (s.heap.push { cls := .type "list", data := .seq ([] : List Value).toArray }).get? b = some o := fun _ _ e => Heap.get?_push_of_some _ e
  have hv1 : (s.heap.push { cls := .type "list", data := .seq ([] : List Value).toArray }).IsValuesView v d := let ⟨o, e, r⟩ := hv; ⟨o, kp1 _ _ e, r⟩
  have hm1 : (s.heap.push { cls := .type "list", data := .seq ([] : List Value).toArray }).DictRaw d es ep := hm.at fun o e => kp1 _ _ e
  have hz1 : (s.heap.push { cls := .type "list", data := .seq ([] : List Value).toArray }).objs.size = s.heap.objs.size + 1 := size_push' _ _
  show wpAny _ A.in1 (Builtin.List.listExtendWith (.ref s.heap.objs.size) (.ref v) (.ref s.heap.objs.size)) _ _ _
  unfold Builtin.List.listExtendWith
  have hT1 : ({ s with heap := s.heap.push { cls := .type "list", data := .seq ([] : List Value).toArray } } : Shared).TypeIs (.ref v) "dict_values" := hv1.typeIs
  refine wpAny_bind (wpAny_typeOf (T := "dict_values") hT1 ?_)
  have h1 : Builtin.List.listSameRef (.ref s.heap.objs.size) (.ref v) = false := by simp [Builtin.List.listSameRef, hSv]
  have h2 : (Value.type "dict_values" == Value.type "list") = false := by decide
  have h3 : (Value.type "dict_values" == Value.type "tuple") = false := by decide
  simp only [h1, h2, h3, Bool.or_false, Bool.false_eq_true, if_false]
  refine wpAny_bind (wpAny_pyIter_values_raw (s := { s with heap := s.heap.push { cls := .type "list", data := .seq ([] : List Value).toArray } }) hv1 hm1 ?_)
  dsimp only
  rw [hz1]
  generalize hs2 : ((s.heap.push { cls := .type "list", data := .seq ([] : List Value).toArray }).push { cls := .type "dict_valueiterator", data := .fields #[.ref d, .int 0 0, .int es.size 0, .int ep 0] }) = h2'
  have kp2 : ∀ b o, (s.heap.push { cls := .type "list", data := .seq ([] : List Value).toArray }).get? b = some o → h2'.get? b = some o := fun _ _ e => by rw [← hs2]; exact Heap.get?_push_of_some _ e
  have hI2 : h2'.get? (s.heap.objs.size + 1) = some { cls := .type "dict_valueiterator", data := .fields #[.ref d, .int 0 0, .int es.size 0, .int ep 0] } := by
    rw [← hs2, ← hz1]
    exact Heap.get?_push_size _ rfl
  have hT2 : ({ s with heap := h2' } : Shared).TypeIs (.ref v) "dict_values" := let ⟨o, e, r, _⟩ := hv1; ⟨o, kp2 _ _ e, r⟩
  refine wpAny_bind (wpAny_holding ?_)
  refine kdl_hint_values hT2 ?_
  show wpAny _ A.in1 (rule "list.extend.makes-room" >>= fun _ => Builtin.List.listTouch (.ref s.heap.objs.size) >>= fun _ =>
    again (.builtin "list.extend.loop" ⟨[.ref s.heap.objs.size, .ref (s.heap.objs.size + 1), .ref s.heap.objs.size], []⟩)) _ _ _
  refine wpAny_bind (wpAny_rule ?_)
  have hS2 := kp2 _ _ hS
  refine wpAny_bind ?_
  show wpAny _ A.in1 (updateSeq s.heap.objs.size (·.push .none) >>= fun _ => updateSeq s.heap.objs.size (·.pop)) _ _ _
  refine wpAny_bind (wpAny_updateSeq hS2 rfl ?_)
  have hS3 := Heap.get?_update_self (Obj.mapSeq (·.push Value.none)) hS2 rfl
  refine wpAny_updateSeq hS3 rfl ?_
  have hS4 := Heap.get?_update_self (Obj.mapSeq (·.pop)) hS3 rfl
  have oth : ∀ b u, b ≠ s.heap.objs.size → h2'.get? b = some u → ((h2'.update s.heap.objs.size (Obj.mapSeq (·.push Value.none))).update s.heap.objs.size (Obj.mapSeq (·.pop))).get? b = some u :=
    fun b u hb e => (Heap.get?_update_other _ _ (Ne.symm hb)).trans ((Heap.get?_update_other _ _ (Ne.symm hb)).trans e)
  have hdI : d ≠ s.heap.objs.size + 1 := Nat.ne_of_lt (Nat.lt_succ_of_lt hdl)
  have W := Walks.rawValues (prog := P) (w := w) (A := A.in1) hh (s.heap.objs.size + 1) d hdI es ep
  have hSf : s.heap.objs.size ∉ [s.heap.objs.size + 1, d] := by
    simp only [List.mem_cons, List.not_mem_nil, or_false, not_or]
    exact ⟨Nat.ne_of_lt (Nat.lt_succ_self _), hSd⟩
  have hst2 : ((h2'.update s.heap.objs.size (Obj.mapSeq (·.push Value.none))).update s.heap.objs.size (Obj.mapSeq (·.pop))).IsValIter (s.heap.objs.size + 1) d 0 es.size ep ∧
      ((h2'.update s.heap.objs.size (Obj.mapSeq (·.push Value.none))).update s.heap.objs.size (Obj.mapSeq (·.pop))).DictRaw d es ep :=
    ⟨⟨_, oth _ _ (Nat.ne_of_gt (Nat.lt_succ_self _)) hI2, rfl, rfl⟩, hm1.at fun o e => oth _ _ (Ne.symm hSd) (kp2 _ _ e)⟩
  refine wpAny_pure ⟨plainId_quiet F.plain_extend_loop _, codeAny_extend_loopS W.toS hn _ hSf _ es.size 0 _ _ _ rfl (Nat.zero_le _) hst2 hS4 (ItemsOf.nil _) fun s' acc' c' hm' hS' hacc => ?_⟩
  show wpAny _ A (load s.heap.objs.size >>= _) _ _ s'
  refine wpAny_bind (wpAny_load hS' ?_)
  have eo : acc'.toList = es.toList.map (·.val) := by
    have hl : (es.toList.map (·.val)).length = es.size := by rw [List.length_map, Array.length_toList]
    refine items_out (Pv := fun i v => ∃ hi : i < es.size, v = es[i].val) (by rw [hl]; exact hacc) fun j u ⟨hj, e⟩ => ?_
    rw [List.getElem?_map, Array.getElem?_toList, Array.getElem?_eq_getElem hj, e]
    rfl
  refine wpAny_pure ?_
  show Q acc'.toList s'
  rw [eo]
  refine hQ s' (fun b u e => ?_) (Nat.le_of_lt (Heap.lt_size hS')) (Eq.trans hm'.gens rfl) (Eq.trans hm'.os rfl)
  have hbl : b < s.heap.objs.size := Heap.lt_size e
  refine hm'.heap b u (fun z => ?_) (oth b u (Nat.ne_of_lt hbl) (kp2 b u (kp1 b u e)))
  simp only [List.mem_cons, List.not_mem_nil, or_false] at z
  rcases z with z | z
  · exact absurd (z ▸ hbl) (Nat.lt_irrefl _)
  · exact absurd hbl (by rw [z]; exact Nat.not_lt_of_le (Nat.le_succ _))
/-- what is in order is sorted -/
theorem sortVals_id {κ : PyProof.Rows.KeyKind} {vs : List Value} (h : vs.Pairwise fun a b => κ.toKeyOrd.blt (PySem.W.keyD κ b) (PySem.W.keyD κ a) = false) : sortVals κ false vs vs = vs := by
  unfold sortVals
  have e : (vs.zip vs).mergeSort (sortLe κ.toKeyOrd false fun p : Keyed => PySem.W.keyD κ p.1) = vs.zip vs := by
    refine (sort_unique (sortLe_total _ _ _) ?_ fun _ => rfl).symm
    have z : ∀ l : List Value, l.zip l = l.map fun x => (x, x) := fun l => by induction l with | nil => rfl | cons a l ih => rw [List.zip_cons_cons, ih, List.map_cons]
    rw [z, List.pairwise_map]
    refine h.imp fun q => ?_
    unfold sortLe
    simp [q]
  rw [e, List.map_snd_zip]
  exact Nat.le_refl _
theorem sorted_view {ds : List PyData} {Q : Value → Shared → Prop} (hh : A.handled = none) (hv : s.heap.IsValuesView v d) (hm : s.heap.DictRaw d es ep) (hn : es.size ≤ sizeLine)
    (hr : ∀ h' : Heap, (∀ b o, s.heap.get? b = some o → h'.get? b = some o) → EachIs (fun v d => ∃ as, Reads h' v d as) (es.toList.map (·.val)) ds)
    (hal : AllAlike ds) (hk : Sortable ds) (hu : ∀ d, d ∈ ds → A.in1.in1.units + d.depth < cLine) (ho : ds.Pairwise fun x y => dataLt y x = false)
    (hQ : ∀ s' p (c : Nat), (∀ b o, s.heap.get? b = some o → s'.heap.get? b = some o) → s'.gens = s.gens → s'.os = s.os → s.heap.objs.size ≤ p →
      s'.heap.get? p = some (seqObj "list" (es.toList.map (·.val)).toArray c) → Q (.ref p) s') :
    wpAny (model P w) A (call (.builtin "sorted") [.ref v]) Q E s := by
  refine Calls.call_function_entry kind_sorted plain_sorted entry_sorted (args_sorted1 _) ?_
  unfold Builtin.«sorted»
  refine wpAny_bind (m := checkCount "sorted" 1 1 _) (wpAny_pure ?_)
  refine wpAny_bind (collect_vals (A := A.in1) hh hv hm hn fun s1 k1 hz g1 o1 => ?_)
  generalize hvs : es.toList.map (·.val) = vs at hr hQ ⊢
  have hvl : vs.length ≤ sizeLine := by rw [← hvs, List.length_map, Array.length_toList]; exact hn
  refine wpAny_bind (wpAny_newList ?_ hvl)
  have hoL : (s1.heap.push (seqObj "list" vs.toArray 0)).get? s1.heap.objs.size = some (seqObj "list" vs.toArray 0) := Heap.get?_push_size _ rfl
  have kS : ∀ b o, s.heap.get? b = some o → (sortingHeap (s1.heap.push (seqObj "list" vs.toArray 0)) s1.heap.objs.size vs).get? b = some o := fun b o e => by
    have q := k1 b o e
    exact sortingHeap_old (Nat.ne_of_lt (Heap.lt_size q)) (Heap.get?_push_of_some _ q)
  have R := hr _ kS
  have S : SortsAt P w A.in1.in1 { s1 with heap := sortingHeap (s1.heap.push (seqObj "list" vs.toArray 0)) s1.heap.objs.size vs } (dataKind (sortingHeap (s1.heap.push (seqObj "list" vs.toArray 0)) s1.heap.objs.size vs) ds) vs :=
    SortsAt.data (s := { s1 with heap := sortingHeap (s1.heap.push (seqObj "list" vs.toArray 0)) s1.heap.objs.size vs }) R hal hk hu
  refine wpAny_bind (wpAny_holding (wpAny_call_entry slot_list_sort ⟨_, hoL, rfl⟩ entry_list_sort (list_sort_vals (s := { s1 with heap := s1.heap.push (seqObj "list" vs.toArray 0) }) hoL S hvl ⟨_, rfl, ?_⟩) (args_list_sort _)))
  obtain ⟨c, hcc⟩ := sortedHeap_at (vs := vs) (out := (sortVals (dataKind (sortingHeap (s1.heap.push (seqObj "list" vs.toArray 0)) s1.heap.objs.size vs) ds) false vs vs).toArray) hoL
  have eid : sortVals (dataKind (sortingHeap (s1.heap.push (seqObj "list" vs.toArray 0)) s1.heap.objs.size vs) ds) false vs vs = vs := by
    refine sortVals_id ?_
    generalize sortingHeap (s1.heap.push (seqObj "list" vs.toArray 0)) s1.heap.objs.size vs = hS at R ⊢
    have key : ∀ (us : List Value) (cs : List PyData), EachIs (fun v d => ∃ as, Reads hS v d as) us cs → (∀ c, c ∈ cs → c ∈ ds) → cs.Pairwise (fun x y => dataLt y x = false) →
        us.Pairwise fun a b => (dataKind hS ds).toKeyOrd.blt (PySem.W.keyD (dataKind hS ds) b) (PySem.W.keyD (dataKind hS ds) a) = false := by
      intro us cs h
      induction h with
      | nil => intro _ _; exact List.Pairwise.nil
      | @cons u c0 us cs h1 h2 ih =>
        intro hm hp
        obtain ⟨hp1, hp2⟩ := List.pairwise_cons.mp hp
        refine List.pairwise_cons.mpr ⟨fun b hb => ?_, ih (fun c hc => hm c (List.mem_cons_of_mem _ hc)) hp2⟩
        obtain ⟨c1, hc1, as1, r1⟩ := h2.left b hb
        obtain ⟨as0, r0⟩ := h1
        rw [PySem.W.keyD_some (dataKind_some hal (hm _ List.mem_cons_self) r0), PySem.W.keyD_some (dataKind_some hal (hm _ (List.mem_cons_of_mem _ hc1)) r1)]
        exact hp1 c1 hc1
    exact key vs ds R (fun _ h => h) ho
  rw [eid] at hcc ⊢
  refine wpAny_pure ⟨_, rfl, hQ _ s1.heap.objs.size c (fun b u e => ?_) g1 o1 hz hcc⟩
  have q := k1 b u e
  have hlt := Heap.lt_size q
  show (sortedHeap (s1.heap.push (seqObj "list" vs.toArray 0)) s1.heap.objs.size vs _).get? b = some u
  rw [sortedHeap_old (Nat.ne_of_lt hlt) (by rw [size_push']; exact Nat.lt_succ_of_lt hlt)]
  exact Heap.get?_push_of_some _ q
end
/-! ### as readings -/
def ViewO (v d : Addr) : HO := .ext fun h => h.IsValuesView v d
section
variable {X : Cx} {c : DC} {o : Expr} {td : DTE} {apos cpos pos p : Pos} {x : Str}
def tVals (td : TE) : TE := fun σ H Q => td σ H fun x H1 => ∃ d, x = .ref d ∧ IsD H1 d ∧ ∀ v, H1 v = none → Q (.ref v) (upd H1 v (ViewO v d))
theorem dict_raw {pins : List (Addr × Obj)} {σ : L2.St} {H : Hp} {s : Shared} {d : Addr} (I : Inv X pins σ H s) (h : IsD H d) : (∃ es ep, s.heap.DictRaw d es ep) ∧ (d == sysModules) = false := by
  rcases h with ⟨kvs, e⟩ | ⟨kvs, e⟩
  · obtain ⟨_, hd, vs, _, dd⟩ := dk_rd I.hok e
    obtain ⟨es, ep, r, _⟩ := dd.raw
    exact ⟨⟨es, ep, r⟩, hd⟩
  · obtain ⟨_, hd, xs, _, dd⟩ := dt_rd I.hok e
    obtain ⟨es, ep, r, _⟩ := dd.raw
    exact ⟨⟨es, ep, r⟩, hd⟩
theorem pe_vals {td : TE} (he : PE X o td) (hbase : attributeBase o "values" X.env (eval o X.env) = eval o X.env := by rfl) (hline : (apos.endLine == cpos.line) = true := by rfl) : PE X (.Call (.Attribute o "values" apos) [] [] cpos) (tVals td) := by
  refine ⟨fun pins s σ H Q I h => ?_⟩
  refine wpAny_Call_method (T := "dict") (id := "dict.values") hbase rfl hline F.plainAttrs_dict F.slot_dict_values F.type_dict_values (thn (he.run pins s σ H _ I h) fun u s1 ⟨x, H1, I1, rx, d, ex, hd, q⟩ => ?_)
  subst ex
  obtain rfl : u = Value.ref d := rx
  obtain ⟨⟨es, ep, raw⟩, hs⟩ := dict_raw I1 hd
  obtain ⟨t1, t2, _⟩ := isD_at I1 hd
  refine ⟨t1, t2, ?_⟩
  refine method_meetsIn F.slot_dict_values F.entry_dict_values rfl (PySem.evalArgs_none ⟨rfl, t1, F.args_dict_values_1 _, _, meets_dict_values_raw d hs, ⟨es, ep, raw⟩, ?_⟩)
  have hn : H1 s1.heap.objs.size = none := I1.hok.fresh (Nat.le_refl _)
  refine ⟨.ref s1.heap.objs.size, _, I1.laid (a := s1.heap.objs.size) (o := ViewO s1.heap.objs.size d) (t' := s1.toks) (fun _ _ q => Heap.get?_push_of_some _ q) (Nat.le_refl _) ⟨⟨_, Heap.get?_push_size _ rfl, rfl, rfl⟩, ⟨_, Heap.get?_push_size _ rfl⟩, fun h1 h2 ⟨o, e, r⟩ k => ⟨o, k _ e, r⟩⟩, rfl, q _ hn⟩
def rSrtV (K : Fg) : List V → Hp → VK → Prop := fun vs H Q => ∃ v d kvs ds, vs = [.ref v] ∧ H v = some (ViewO v d) ∧ H d = some (.dT kvs) ∧ DpAll K H (kvs.map (·.2)) ds ∧ AllAlike ds ∧ Sortable ds ∧ (∀ d, d ∈ ds → d.depth ≤ 60) ∧
  (ds.Pairwise fun x y => dataLt y x = false) ∧ ∀ p, H p = none → Q (.ref p) (upd H p (.lst (kvs.map (·.2))))
theorem eachIs_reads {h : Heap} : ∀ {us : List Value} {ds : List PyData} {as : List Addr}, ReadsAll h us ds as → EachIs (fun v d => ∃ as, Reads h v d as) us ds
  | _, _, _, .nil => .nil
  | _, _, _, .cons h t => .cons ⟨_, h⟩ (eachIs_reads t)
theorem paired_get {α β : Type} {R : α → β → Prop} : ∀ {l : List α} {m : List β} {j : Nat} {a : α} {b : β}, Paired R l m → l[j]? = some a → m[j]? = some b → R a b
  | _, _, j, a, b, .nil, h, _ => by simp at h
  | _, _, 0, a, b, .cons r _, h1, h2 => by
    simp only [List.getElem?_cons_zero, Option.some.injEq] at h1 h2
    subst h1; subst h2; exact r
  | _, _, j + 1, a, b, .cons _ t, h1, h2 => by
    simp only [List.getElem?_cons_succ] at h1 h2
    exact paired_get t h1 h2
theorem cr_srtV {k : Nat} (hc : X.calm = true) (hr : Room k X.A) : CallR X (.builtin "sorted") (rSrtV X.K) := by
  intro pins s σ H vs us Q I r h
  obtain ⟨v, d, kvs, ds, rfl, hv, hd, dp, hal, hk, hdep, ho, q⟩ := h
  rw [Vals.ref1 r]
  have V1 : s.heap.IsValuesView v d := (I.hok v _ hv).1
  obtain ⟨z, hdm, xs, rel, dd⟩ := dt_of I.hok hd
  obtain ⟨es, ep, raw, hsz, hx⟩ := dd.raw
  have hlen : kvs.length = xs.length := Paired.length rel
  have vals : Vals (kvs.map (·.2)) (es.toList.map (·.val)) := by
    refine vals_of_at (by simp only [List.length_map]; exact hlen.trans (hsz.symm.trans (Array.length_toList (xs := es)).symm)) fun j a u h1 h2 => ?_
    rw [List.getElem?_map] at h1 h2
    rw [Array.getElem?_toList] at h2
    by_cases hj : j < es.size
    · rw [Array.getElem?_eq_getElem hj] at h2
      cases h2
      obtain ⟨y, hy, _, hval, _⟩ := hx j hj
      cases e : kvs[j]? with
      | none => rw [e] at h1; cases h1
      | some kv =>
        rw [e] at h1
        cases h1
        have q2 := paired_get rel e hy
        show L2.RelV kv.2 es[j].val
        rw [hval]
        exact q2.2.2
    · rw [Array.getElem?_eq_none (by omega)] at h2; cases h2
  refine sorted_view (ds := ds) (I.ok.hd hc) V1 raw (by rw [hsz, ← hlen]; exact z) (fun h' k => ?_) hal hk (fun d0 hd0 => ?_) ho fun s' p c k g o hp e => ?_
  · have I' : Inv X pins σ H { s with heap := h', toks := s.toks } := I.kept (t' := s.toks) k
    obtain ⟨as, rr⟩ := Dp.readsAll I' ds _ _ dp vals
    exact eachIs_reads rr
  · have := hdep d0 hd0
    have := hr.un
    show X.A.units + 1 + 1 + _ < _
    omega
  · have hn : H p = none := I.hok.fresh hp
    have hl : (kvs.map (·.2)).length ≤ sizeLine := by rw [List.length_map]; exact z
    have J : Inv X pins σ (upd H p (.lst (kvs.map (·.2)))) { s with heap := s'.heap, gens := s'.gens, drawn := s'.drawn, toks := s'.toks } :=
      I.call (ch := []) (Un.laid k hp hn) (I.hok.laid k hp ⟨hl, _, c, vals, e⟩) (by rw [g]; exact I.bare) (fun _ z => nomatch z)
    have es' : s' = { s with heap := s'.heap, gens := s'.gens, drawn := s'.drawn, toks := s'.toks } := by
      obtain ⟨_, _, _, _, _⟩ := s'
      obtain ⟨_, _, _, _, _⟩ := s
      have o' := o
      dsimp only at o' ⊢
      rw [o']
    rw [es']
    exact ⟨.ref p, _, J, rfl, q p hn⟩
def dSrtVals (td : DTE) : DTE := fun ds M P => td ds M fun x M1 => match x with
  | .ref a => (match M1 a with
    | some (.dT kvs) => (∀ y ∈ kvs.map (·.2), dkn 60 y = true) ∧ AllAlike (pyL (kvs.map (·.2))) ∧ Sortable (pyL (kvs.map (·.2))) ∧ ((pyL (kvs.map (·.2))).Pairwise fun x y => dataLt y x = false) ∧ P (.lst (kvs.map (·.2))) M1
    | _ => False)
  | _ => False
theorem d_srtVals {k : Nat} (hc : X.calm = true) (hr : Room k X.A) (ho : DE X c o td) (hg : Gl X x) (hm : X.mg x = none) (hv : bootBuiltins x = some (.builtin "sorted"))
    (hbase : attributeBase o "values" X.env (eval o X.env) = eval o X.env := by rfl) (hline : (apos.endLine == cpos.line) = true := by rfl)
    (hn : x ≠ "__name__" := by decide) (hdb : (x == ("__debug__" : Str)) = false := by decide)
    (na : starEach [Expr.Call (.Attribute o "values" apos) [] [] cpos] X.env = (false, eval (.Call (.Attribute o "values" apos) [] [] cpos) X.env) :: starEach [] X.env := by rfl) :
    DE X c (.Call (.Name x p) [.Call (.Attribute o "values" apos) [] [] cpos] [] pos) (dSrtVals td) :=
  (pe_callB (cr_srtV hc hr) hg hm hv (pa_cons (pe_vals ho hbase hline) pa_nil na) hn hdb na (by rfl)).imp fun σ H Q ⟨ds, M, F, P, at', ht, fin⟩ => by
    refine ⟨ds, M, F, _, at', ht, fun x M1 v H1 q dj ev mo rp => ?_⟩
    split at q
    · rename_i a
      split at q
      · rename_i kvs hM
        cases rp
        obtain ⟨vs, e1, rr⟩ := mo a _ (mj_l hM)
        refine ⟨a, rfl, .inr ⟨_, .inl e1⟩, fun w hw => ?_⟩
        have ha : a ≠ w := fun z => by subst z; rw [e1] at hw; cases hw
        have evN : Ev M1 H1 M1 (upd H1 w (ViewO w a)) := Ev.new hw
        have rv : RpL X.K (mj M1 F) (upd H1 w (ViewO w a)) (vs.map (·.2)) (kvs.map (·.2)) := RpL.ev evN _ (kvR_vals rr)
        show rSrtV X.K [.ref w] _ Q
        refine ⟨w, a, vs, pyL (kvs.map (·.2)), rfl, upd_same, by rw [upd_ne ha]; exact e1, dpAll_of (fun y hy u ru => dkn_dp 60 y (q.1 y hy) ru) rv, q.2.1, q.2.2.1, fun d0 hd0 => ?_, q.2.2.2.1, ?_⟩
        · rw [pyL_map] at hd0
          obtain ⟨y, hy, rfl⟩ := List.mem_map.mp hd0
          exact (dkn_fit 60 y (q.1 y hy)).2
        · exact fin_lst (fin.ev (ev.trans evN)) dj (mo.new hw) rv q.2.2.2.2
      · exact q.elim
    · exact q.elim
end
end DL

set_option Elab.async false
set_option linter.all false
set_option maxRecDepth 100000
set_option maxHeartbeats 4000000
namespace DL
open PySem PySem.Spec PyProof.Rows L2
open PySem.W (EachIs AlikeAll minD dataLt alike alike_unique min_list_data)
/-! ### xs.count(y) -/
def rCntD (K : Fg) : V → List V → Hp → VK → Prop := fun x xs H Q => ∃ (p : Addr) (vs : List V) (y : V) (ds : List PyData) (d : PyData), x = .ref p ∧ xs = [y] ∧ SqL K H p vs ∧ DpAll K H vs ds ∧ Dp K H y d ∧ PyData.plainAll ds = true ∧ d.plain = true ∧ d.depth ≤ 60 ∧ Q (.int ((ds.countP fun z => PyData.eqv z d : Nat) : Int)) H
theorem mt_countD {X : Cx} {k : Nat} (hr : Room k X.A) : MtR X "list.count" (rCntD X.K) := by
  intro pins s σ H x xs v us Q I rx rxs h
  obtain ⟨p, vs, y, ds, d, rfl, rfl, hs, da, dy, p1, p2, hd, q⟩ := h
  cases rx
  obtain ⟨u, rfl, ru⟩ := rxs.one
  obtain ⟨its, rv, hl, hlen⟩ := I.list hs
  obtain ⟨as, rs⟩ := Dp.readsAll I ds vs its da rv
  obtain ⟨bs, rx⟩ := Dp.reads I d y u dy ru
  have hun := hr.un
  have hm : min (PyData.depthAll ds) d.depth ≤ 60 := Nat.le_trans (Nat.min_le_right _ _) hd
  refine SeqAt.count_list_data hl.isList (by simpa using rs) rx p1 p2 (by omega) ?_
  exact ⟨.int ((ds.countP fun z => PyData.eqv z d : Nat) : Int), H, I.tok _, ⟨s.toks, rfl⟩, q⟩
def dCount (to te : DTE) : DTE := fun ds M P => to ds M fun x M1 => match x with
  | .lst xs => te ds M1 fun y M2 => ((∀ z ∈ xs, dkn 60 z = true) ∧ dkn 60 y = true ∧ PyData.plainAll (pyL xs) = true ∧ (py y).plain = true) ∧ P (.int ((xs.countP fun z => dq z y : Nat) : Int)) M2
  | _ => False
theorem countP_py (y : D) : ∀ xs : List D, (pyL xs).countP (fun z => PyData.eqv z (py y)) = xs.countP fun z => dq z y
  | [] => rfl
  | x :: r => by rw [pyL, List.countP_cons, List.countP_cons, countP_py y r]
section
variable {X : Cx} {c : DC} {o e : Expr} {to te : DTE} {apos cpos : Pos}
theorem d_count {k : Nat} (hr : Room k X.A) (ho : DE X c o to) (he : DE X c e te)
    (hbase : attributeBase o "count" X.env (eval o X.env) = eval o X.env := by rfl)
    (hfew : ((backTo cpos (starEach [e] X.env)).all (fun x => !x.1) && (backToKw cpos (keywordEach [] X.env)).all (fun x => x.1.isSome)
      && decide (([e] : List Expr).length + ([] : List Keyword).length + (if ([] : List Keyword).isEmpty then 0 else 1) < 30)) = true := by rfl)
    (hline : (apos.endLine == cpos.line) = true := by rfl) (hs : starEach [e] X.env = (false, eval e X.env) :: starEach [] X.env := by rfl) :
    DE X c (.Call (.Attribute o "count" apos) [e] [] cpos) (dCount to te) := by
  refine (pe_bm F.plainAttrs_list F.slot_list_count F.type_list_count (mt_countD hr) ho (pa_cons he pa_nil hs) hbase hfew hline hs (by rfl)).imp fun σ H Q ⟨ds, M, F, P, at', ht, fin⟩ => ?_
  refine ⟨ds, M, F, _, at', ht, fun x M1 v H1 q dj ev mo rp => ?_⟩
  cases x with
  | lst xs =>
    cases rp with
    | lst hL hn hl =>
      refine ⟨.inl ⟨rfl, _, .inl (.of hL)⟩, ds, M1, F, _, at'.go dj ev mo, q, fun y M2 w H2 q2 dj2 ev2 mo2 rp2 => ?_⟩
      have r2 : Rp X.K (mj M2 F) H2 (.ref _) (.lst xs) := Rp.ev ev2 (.lst xs) (.lst hL hn hl)
      cases r2 with
      | lst hL2 hn2 hl2 =>
        obtain ⟨⟨k1, k2, k3, k4⟩, q2⟩ := q2
        refine ⟨_, _, w, pyL xs, py y, rfl, rfl, .of hL2, dpAll_of (fun z hz u ru => dkn_dp 60 z (k1 z hz) ru) hl2, dkn_dp 60 y k2 rp2, k3, k4, (dkn_fit 60 y k2).2, ?_⟩
        rw [countP_py]
        exact (fin.ev (ev.trans ev2)).val dj2 mo2 q2 (.int _)
  | _ => exact q.elim
end
/-! ### min of data -/
theorem py_inj : ∀ (n : Nat) (x y : D), dkn n x = true → dkn n y = true → py x = py y → x = y := by
  intro n
  induction n with
  | zero =>
    intro x y hx hy e
    cases x <;> cases y <;> simp_all [dkn, py]
  | succ n ih =>
    intro x y hx hy e
    have go : ∀ (a b : List D), (∀ z ∈ a, dkn n z = true) → (∀ z ∈ b, dkn n z = true) → pyL a = pyL b → a = b := by
      intro a
      induction a with
      | nil => intro b _ _ e; cases b with
        | nil => rfl
        | cons _ _ => simp [pyL] at e
      | cons p a iha =>
        intro b ha hb e
        cases b with
        | nil => simp [pyL] at e
        | cons q b =>
          simp only [pyL, List.cons.injEq] at e
          rw [ih p q (ha p List.mem_cons_self) (hb q List.mem_cons_self) e.1, iha b (fun z h => ha z (List.mem_cons_of_mem _ h)) (fun z h => hb z (List.mem_cons_of_mem _ h)) e.2]
    cases x <;> cases y <;> simp only [py, PyData.tuple.injEq, PyData.list.injEq, reduceCtorEq] at e <;> simp_all [dkn]
    · exact go _ _ hx hy e
    · exact go _ _ hx hy e
theorem minD_mem : ∀ (l : List PyData) (x : PyData), minD x l ∈ x :: l
  | [], x => by simp [minD]
  | y :: l, x => by
    have e : minD x (y :: l) = minD (if dataLt y x then y else x) l := rfl
    rw [e]
    have := minD_mem l (if dataLt y x then y else x)
    rcases List.mem_cons.mp this with h | h
    · rw [h]; split <;> simp
    · exact List.mem_cons_of_mem _ (List.mem_cons_of_mem _ h)
def leastD (x : D) (l : List D) : D := l.foldl (fun a y => if dataLt (py y) (py a) then y else a) x
theorem leastD_py : ∀ (l : List D) (x : D), py (leastD x l) = minD (py x) (pyL l)
  | [], x => rfl
  | y :: l, x => by
    have e : leastD x (y :: l) = leastD (if dataLt (py y) (py x) then y else x) l := rfl
    have e2 : minD (py x) (pyL (y :: l)) = minD (if dataLt (py y) (py x) then py y else py x) (pyL l) := rfl
    rw [e, e2, leastD_py l]
    split <;> rfl
theorem leastD_mem : ∀ (l : List D) (x : D), leastD x l ∈ x :: l
  | [], x => by simp [leastD]
  | y :: l, x => by
    have e : leastD x (y :: l) = leastD (if dataLt (py y) (py x) then y else x) l := rfl
    rw [e]
    have := leastD_mem l (if dataLt (py y) (py x) then y else x)
    rcases List.mem_cons.mp this with h | h
    · rw [h]; split <;> simp
    · exact List.mem_cons_of_mem _ (List.mem_cons_of_mem _ h)
def rMinD (K : Fg) : List V → Hp → VK → Prop := fun vs H Q => ∃ a xs d0 ds, vs = [V.ref a] ∧ SqL K H a xs ∧ DpAll K H xs (d0 :: ds) ∧ AlikeAll (d0 :: ds) ∧ (∀ d, d ∈ d0 :: ds → d.depth ≤ 60) ∧ ∀ (i : Nat) v, xs[i]? = some v → (d0 :: ds)[i]? = some (minD d0 ds) → Q v H
theorem depthAll_le {n : Nat} : ∀ {l : List PyData}, (∀ d, d ∈ l → d.depth ≤ n) → PyData.depthAll l ≤ n
  | [], _ => by simp [PyData.depthAll]
  | d :: l, h => by
    have h1 := h d List.mem_cons_self
    have h2 := depthAll_le fun e he => h e (List.mem_cons_of_mem _ he)
    simp only [PyData.depthAll]
    omega
theorem dpAll_get {K : Fg} {H : Hp} : ∀ {vs : List V} {ds : List PyData} {i : Nat} {v : V}, DpAll K H vs ds → vs[i]? = some v → ∃ d, ds[i]? = some d ∧ Dp K H v d
  | [], [], i, v, .nil, e => by simp at e
  | _ :: _, d :: _, 0, v, .cons h1 _, e => by
    simp only [List.getElem?_cons_zero, Option.some.injEq] at e
    subst e
    exact ⟨d, rfl, h1⟩
  | _ :: _, _ :: _, i + 1, v, .cons _ h2, e => by
    simp only [List.getElem?_cons_succ] at e ⊢
    exact dpAll_get h2 e
theorem vals_getV {vs : List V} {us : List Value} (h : Vals vs us) {i : Nat} {u : Value} (e : us[i]? = some u) : ∃ v, vs[i]? = some v ∧ RelV v u := by
  have hl : i < vs.length := by
    have := (List.getElem?_eq_some_iff.mp e).1
    rw [h.length]; exact this
  refine ⟨vs[i], List.getElem?_eq_getElem hl, ?_⟩
  obtain ⟨u', e', r⟩ := h.get (List.getElem?_eq_getElem hl)
  rw [e] at e'
  cases e'
  exact r
theorem cr_minD {X : Cx} {k : Nat} (hc : X.calm = true) (hr : Room k X.A) : CallR X (.builtin "min") (rMinD X.K) := by
  intro pins s σ H vs us Q I r h
  obtain ⟨a, xs, d0, ds, rfl, hs, da, al, hd, q⟩ := h
  obtain ⟨its, rv, hl, _⟩ := I.list hs
  rw [Vals.ref1 r]
  obtain ⟨as, rs⟩ := Dp.readsAll I (d0 :: ds) xs its da rv
  have hun := hr.un
  have hdd : PyData.depthAll (d0 :: ds) ≤ 60 := depthAll_le hd
  refine min_list_data (I.ok.hd hc) hl.isList (by simpa using rs) al (by omega) fun i u h' tk bs e1 rd kp => ?_
  have e1' : its[i]? = some u := by simpa using e1
  obtain ⟨v, hv, ru⟩ := vals_getV rv e1'
  obtain ⟨d, hdi, dv⟩ := dpAll_get da hv
  have I' : Inv X pins σ H { s with heap := h', toks := tk } := I.kept (t' := tk) kp
  obtain ⟨cs, rd2⟩ := Dp.reads I' d v u dv ru
  have hmem : d ∈ d0 :: ds := List.mem_of_getElem? hdi
  have e : d = minD d0 ds := alike_unique _ _ _ _ _ (al.1 d hmem _ (minD_mem ds d0)) rd2 rd
  exact ⟨v, H, I', ru, q i v hv (by rw [hdi, e])⟩
def gMinD : DOL := fun xs M P => match xs with
  | [.lst (y :: ys)] => ((∀ z ∈ y :: ys, dkn 60 z = true) ∧ AlikeAll (pyL (y :: ys))) ∧ P (leastD y ys) M
  | _ => False
theorem pyL_get : ∀ {l : List D} {i : Nat} {d : PyData}, (pyL l)[i]? = some d → ∃ y, l[i]? = some y ∧ py y = d
  | l, i, d, h => by
    rw [pyL_map, List.getElem?_map] at h
    cases e : l[i]? with
    | none => rw [e] at h; cases h
    | some y => rw [e] at h; cases h; exact ⟨y, rfl, rfl⟩
theorem ol_minD {K : Fg} : OpL K (rMinD K) gMinD := fun M F xs vs H P Q q dj mo rs fin => by
  unfold gMinD at q
  split at q
  · rename_i y ys
    match vs, rs with
    | [_], .cons (.lst hs hn hl) .nil =>
      obtain ⟨⟨k1, al⟩, q⟩ := q
      refine ⟨_, _, py y, pyL ys, rfl, .of hs, dpAll_of (xs := y :: ys) (fun z hz u ru => dkn_dp 60 z (k1 z hz) ru) hl, al, fun d hd => ?_, fun i v hv he => ?_⟩
      · have hd' : d ∈ pyL (y :: ys) := hd
        rw [pyL_map] at hd'
        obtain ⟨z, hz, rfl⟩ := List.mem_map.mp hd'
        exact (dkn_fit 60 z (k1 z hz)).2
      · obtain ⟨z, hz, ez⟩ := pyL_get (l := y :: ys) he
        obtain ⟨u, hu, ru⟩ := hl.get hz
        rw [hv] at hu
        cases hu
        have : z = leastD y ys := py_inj 60 z _ (k1 z (List.mem_of_getElem? hz)) (k1 _ (leastD_mem ys y)) (by rw [ez, leastD_py])
        rw [← this] at q
        exact fin.val dj mo q ru
  · exact q.elim
end DL

set_option Elab.async false
set_option linter.all false
set_option maxRecDepth 100000
set_option maxHeartbeats 4000000
namespace DL
open PySem PySem.Spec PyProof.Rows L2
/-! ### x[::-1] -/
section
variable {prog : Program} {w : World} {A : Around} {E : Value → Shared → Prop} {s : Shared}
theorem adjust_rev (n : Nat) : Builtin.Slice.sliceAdjust none none (-1) (n : Int) = ((n : Int) - 1, -1) := by
  unfold Builtin.Slice.sliceAdjust
  simp
theorem places_rev (n : Nat) : Builtin.Slice.slicePlaces ((n : Int) - 1) (-1) (-1) = n := by
  unfold Builtin.Slice.slicePlaces
  simp
  try omega
theorem sliceApplied_rev {sl : Addr} {vl vu vs : Value} {n : Nat} {Q : Int × Int × Nat → Shared → Prop} (hs : s.heap.IsSliceOf sl vl vu vs) (pl : IsPart vl none) (pu : IsPart vu none) (ps : IsPart vs (some (-1)))
    (h : Q ((n : Int) - 1, -1, n) s) : wpAny (model prog w) A (Builtin.Slice.sliceApplied (.ref sl) (pure (n : Int))) Q E s := by
  obtain ⟨os, hos, hcs, hds⟩ := id hs
  unfold Builtin.Slice.sliceApplied Builtin.Slice.sliceFields
  refine wpAny_bind (wpAny_bind (wpAny_field hos hds (x := vl) rfl (wpAny_bind (wpAny_field hos hds (x := vu) rfl (wpAny_bind (wpAny_field hos hds (x := vs) rfl (wpAny_pure ?_)))))))
  refine wpAny_bind (HT.slicePart_ ps ?_)
  show wpAny _ _ (if ((-1 : Int) == 0) = true then _ else _) _ _ s
  rw [if_neg (by decide)]
  refine wpAny_bind (HT.slicePart_ pl (wpAny_bind (HT.slicePart_ pu (wpAny_bind (wpAny_pure ?_)))))
  show wpAny _ _ (match Builtin.Slice.sliceAdjust none none (-1) (n : Int) with | (lo, hi) => pure (lo, (-1 : Int), Builtin.Slice.slicePlaces lo hi (-1))) _ _ s
  rw [adjust_rev n]
  show wpAny _ _ (pure ((n : Int) - 1, (-1 : Int), Builtin.Slice.slicePlaces ((n : Int) - 1) (-1) (-1))) _ _ s
  rw [places_rev]
  exact wpAny_pure h
theorem pick_rev (xs : Array Value) : ((List.range xs.size).filterMap fun (m : Nat) => xs[(((xs.size : Int) - 1) + (m : Int) * (-1)).toNat]?).toArray = xs.toList.reverse.toArray := by
  congr 1
  have h1 : (List.range xs.size).filterMap (fun (m : Nat) => xs[(((xs.size : Int) - 1) + (m : Int) * (-1)).toNat]?) = (List.range xs.size).map fun m => xs.getD (xs.size - 1 - m) .none := by
    have go : ∀ l : List Nat, (∀ m ∈ l, m < xs.size) → l.filterMap (fun (m : Nat) => xs[(((xs.size : Int) - 1) + (m : Int) * (-1)).toNat]?) = l.map fun m => xs.getD (xs.size - 1 - m) .none := by
      intro l
      induction l with
      | nil => intro _; rfl
      | cons m l ih =>
        intro h
        have hm := h m List.mem_cons_self
        have e1 : (((xs.size : Int) - 1) + (m : Int) * (-1)).toNat = xs.size - 1 - m := by omega
        have e2 : xs[xs.size - 1 - m]? = some (xs.getD (xs.size - 1 - m) .none) := by
          rw [Array.getElem?_eq_getElem (by omega), Array.getD_eq_getD_getElem?, Array.getElem?_eq_getElem (by omega)]; rfl
        rw [List.filterMap_cons, e1, e2, List.map_cons]
        dsimp only
        rw [ih fun k hk => h k (List.mem_cons_of_mem _ hk)]
    exact go _ fun m hm => List.mem_range.mp hm
  rw [h1]
  apply List.ext_getElem
  · simp
  · intro i h1 h2
    simp only [List.length_map, List.length_range] at h1
    rw [List.getElem_map, List.getElem_range, List.getElem_reverse, Array.getElem_toList, Array.getD_eq_getD_getElem?, Array.getElem?_eq_getElem (by omega)]
    simp
theorem getItem_tuple_rev {t sl : Addr} {items : Array Value} {vl vu vs : Value} {Q : Value → Shared → Prop} (ht : IsTup s.heap t items) (hs : s.heap.IsSliceOf sl vl vu vs) (pl : IsPart vl none) (pu : IsPart vu none) (ps : IsPart vs (some (-1)))
    (h : Q (.ref s.heap.objs.size) { s with heap := s.heap.push { cls := .type "tuple", data := .seq items.toList.reverse.toArray } })
    (hsz : items.size ≤ sizeLine) : wpAny (model prog w) A (getItem (.ref t) (.ref sl)) Q E s := by
  have htake : sizeOk (.seq items.toList.reverse.toArray) := by
    show items.toList.reverse.toArray.size ≤ sizeLine
    rw [List.size_toArray, List.length_reverse, Array.length_toList]
    exact hsz
  obtain ⟨os, hos, hcs, hds⟩ := id hs
  have hTs : s.TypeIs (.ref sl) "slice" := ⟨os, hos, hcs⟩
  unfold getItem
  try with_reducible refine wpAny_holding ?_
  first | refine wpAny_bind (wpAny_pure ?_) | skip
  refine wpAny_bind (wpAny_sequenceKey ht.typeIs (by decide) ?_)
  refine wpAny_bind (wpAny_callSpecial?_slot (name := Str.ofString "__getitem__") ht.typeIs PyProof.Rows.slot_tuple_getitem
    (wpAny_call_entry PyProof.Rows.slot_tuple_getitem ht.typeIs entry_tuple_getitem ?_ (args_tuple_getitem _ _)))
  show wpAny _ _ (Builtin.Tuple.tupleItemsOf (.ref t) >>= _) _ _ s
  refine wpAny_bind (tupleItemsOf_ ht ?_)
  refine wpAny_bind (wpAny_typeOf hTs ?_)
  rw [if_pos (by decide)]
  refine wpAny_bind (sliceApplied_rev hs pl pu ps ?_)
  have hno : ¬ ((((items.size : Int) - 1) == 0 && (-1 : Int) == 1 && items.size == items.size) = true) := by
    have : ((-1 : Int) == 1) = false := by decide
    rw [this, Bool.and_false, Bool.false_and]
    decide
  show wpAny _ _ (if (((items.size : Int) - 1) == 0 && (-1 : Int) == 1 && items.size == items.size) = true then _ else _) _ _ s
  rw [if_neg hno, pick_rev]
  first
    | exact wpAny_bind (m := Builtin.Tuple.tupleExact _) (wpAny_newObj_type (wpAny_pure ⟨_, rfl, wpAny_pure h⟩) htake)
    | exact wpAny_bind (m := Builtin.Tuple.tupleExact _) (wpAny_newObj_type (wpAny_bind (wpAny_pure (wpAny_pure ⟨_, rfl, wpAny_pure h⟩))) htake)
    | exact wpAny_bind (wpAny_bind (m := Builtin.Tuple.tupleExact _) (wpAny_newObj_type (wpAny_pure (wpAny_pure ⟨_, rfl, wpAny_pure h⟩)) htake))
    | exact wpAny_bind (wpAny_bind (m := Builtin.Tuple.tupleExact _) (wpAny_newObj_type (wpAny_pure ⟨_, rfl, wpAny_pure h⟩) htake))
end
def tRevA (K : Fg) (te : TE) : TE := fun σ H Q => te σ H fun x H1 => ∃ a xs, x = .ref a ∧ ((SqL K H1 a xs ∧ ∀ p, H1 p = none → Q (.ref p) (upd H1 p (.lst xs.reverse))) ∨ (SqT K H1 a xs ∧ ∀ p, H1 p = none → Q (.ref p) (upd H1 p (.tup xs.reverse))))
theorem pe_revA {X : Cx} {e : Expr} {te : TE} {k : Nat} {p1 p2 p3 pos : Pos} (he : PE X e te) : PE X (.Subscript e (.Slice none none (some (.UnaryOp .USub (.Constant (.int 1) k p1) p2)) p3) pos) (tRevA X.K te) := by
  refine ⟨fun pins s σ H Q I h => ?_⟩
  refine Subscript_ (thn (he.run pins s σ H _ I h) fun v s1 ⟨x, H1, I1, r1, q1⟩ => ?_)
  obtain ⟨a, xs, ex, q⟩ := q1
  subst ex
  cases r1
  have hst : PO X (some (.UnaryOp .USub (.Constant (.int 1) k p1) p2)) (tPart (tUn (rU fun i => .int (-i)) (tC (.int 1)))) := po_some (pe_un un_neg pe_int)
  refine wpAny_Slice (thn (po_none.run pins s1 σ H1 (fun o H2 => o = none ∧ H2 = H1) I1 ⟨rfl, rfl⟩) fun vl s2 ⟨l, H2, I2, pl, el, e2⟩ => ?_)
  subst el e2
  refine thn (po_none.run pins s2 σ H2 (fun o H3 => o = none ∧ H3 = H2) I2 ⟨rfl, rfl⟩) fun vu s3 ⟨u, H3, I3, pu, eu, e3⟩ => ?_
  subst eu e3
  refine thn (hst.run pins s3 σ H3 (fun o H4 => o = some (-1) ∧ H4 = H3) I3 ⟨1, rfl, -1, rfl, rfl, rfl⟩) fun vs s4 ⟨o, H4, I4, ps, eo, e4⟩ => ?_
  subst eo e4
  have I5 : Inv X pins σ H4 { s4 with heap := s4.heap.push { cls := .type "slice", data := .fields #[vl, vu, vs] } } := I4.kept (t' := s4.toks) fun b ob q => Heap.get?_push_of_some _ q
  show wpAny (model X.prog X.w) X.A (subscriptTail e (.Slice none none (some (.UnaryOp .USub (.Constant (.int 1) k p1) p2)) p3) (.ref a) (.ref s4.heap.objs.size)) (EP X pins σ Q) X.xe { s4 with heap := s4.heap.push { cls := .type "slice", data := .fields #[vl, vu, vs] } }
  rcases q with ⟨hx, q⟩ | ⟨hx, q⟩
  · obtain ⟨its, r, ht, hz⟩ := I5.list hx
    have hlen := r.length
    refine tail_any (ops := [.ref a, .ref s4.heap.objs.size]) ht.isList.typeIs (PySem.slot_list_getitem.lookup) ?_ (by with_unfolding_all rfl)
    refine wpAny_getItem_list_slice ht.isList (Heap.IsSliceOf.new _ vl vu vs) pl pu ps (by decide) ?_ (by rw [List.size_toArray]; omega)
    rw [PySem.W.krv_pick]
    refine ⟨.ref _, _, I5.laid (t' := s4.toks) (o := .lst xs.reverse) (fun b ob q => Heap.get?_push_of_some _ q) (Nat.le_refl _) ?_, rfl, q _ (I5.hok.fresh (Nat.le_refl _))⟩
    exact ⟨by rw [List.length_reverse]; exact hz, _, 0, r.reverse, Heap.get?_push_size _ rfl⟩
  · obtain ⟨its, r, ht, hz⟩ := I5.tuple hx
    have hlen := r.length
    refine tail_any (ops := [.ref a, .ref s4.heap.objs.size]) ht.typeIs (PyProof.Rows.slot_tuple_getitem.lookup) ?_ (by with_unfolding_all rfl)
    refine getItem_tuple_rev ht (Heap.IsSliceOf.new _ vl vu vs) pl pu ps ?_ (by rw [List.size_toArray]; omega)
    refine ⟨.ref _, _, I5.laid (t' := s4.toks) (o := .tup xs.reverse) (fun b ob q => Heap.get?_push_of_some _ q) (Nat.le_refl _) ?_, rfl, q _ (I5.hok.fresh (Nat.le_refl _))⟩
    exact ⟨by rw [List.length_reverse]; exact hz, _, r.reverse, IsTup.new _ _⟩
def dRev (te : DTE) : DTE := fun ds M P => te ds M fun x M1 => match x with
  | .lst xs => P (.lst xs.reverse) M1
  | .tup xs => P (.tup xs.reverse) M1
  | _ => False
theorem d_rev {X : Cx} {c : DC} {e : Expr} {te : DTE} {k : Nat} {p1 p2 p3 pos : Pos} (he : DE X c e te) : DE X c (.Subscript e (.Slice none none (some (.UnaryOp .USub (.Constant (.int 1) k p1) p2)) p3) pos) (dRev te) := (pe_revA he).imp fun σ H Q ⟨ds, M, F, P, at', ht, fin⟩ => by
  refine ⟨ds, M, F, _, at', ht, fun x M1 v H1 q dj ev mo rp => ?_⟩
  split at q
  · cases rp with
    | lst hs hn hl => exact ⟨_, _, rfl, .inl ⟨.of hs, fin_lst (fin.ev ev) dj mo hl.reverse q⟩⟩
  · cases rp with
    | tup hs hl => exact ⟨_, _, rfl, .inr ⟨hs, fin_tup (fin.ev ev) dj mo hl.reverse q⟩⟩
  · exact q.elim
/-! ### isinstance(x, (S, T)) -/
def dIsiT (n m : String) (te : DTE) : DTE := fun ds M P => te ds M fun x M1 => match x with
  | .ref _ => False
  | .ty _ => False
  | x => (isiN n = true ∧ isiN m = true) ∧ P (.bl (isiB n x || isiB m x)) M1
theorem d_isiT {X : Cx} {c : DC} {e : Expr} {te : DTE} {y z : Str} {p py pz pt pos : Pos} {kt : Nat} (n m : String) (he : DE X c e te) (hg : Gl X "isinstance") (hm : X.mg "isinstance" = none)
    (hy : Gl X y) (hmy : X.mg y = none) (hvy : bootBuiltins y = some (.type n)) (hny : y ≠ "__name__") (hz : Gl X z) (hmz : X.mg z = none) (hvz : bootBuiltins z = some (.type m)) (hnz : z ≠ "__name__")
    (hdy : (y == ("__debug__" : Str)) = false := by decide) (hdz : (z == ("__debug__" : Str)) = false := by decide)
    (na : starEach [e, Expr.Tuple [.Name y py, .Name z pz] kt pt] X.env = (false, eval e X.env) :: starEach [Expr.Tuple [.Name y py, .Name z pz] kt pt] X.env := by rfl)
    (nb : starEach [Expr.Tuple [.Name y py, .Name z pz] kt pt] X.env = (false, eval (Expr.Tuple [.Name y py, .Name z pz] kt pt) X.env) :: starEach [] X.env := by rfl)
    (nc : starEach [Expr.Name y py, .Name z pz] X.env = (false, eval (.Name y py) X.env) :: starEach [Expr.Name z pz] X.env := by rfl) (nd : starEach [Expr.Name z pz] X.env = (false, eval (.Name z pz) X.env) :: starEach [] X.env := by rfl) :
    DE X c (.Call (.Name "isinstance" p) [e, .Tuple [.Name y py, .Name z pz] kt pt] [] pos) (dIsiT n m te) :=
  (pe_callB call_isiT hg hm (by rfl) (pa_cons he (pa_cons (pe_tup (pa_cons (pe_bltn hy hmy hvy (show RelV (.ty n) (.type n) from rfl) hny hdy) (pa_cons (pe_bltn hz hmz hvz (show RelV (.ty m) (.type m) from rfl) hnz hdz) pa_nil nd) nc)) pa_nil nb) na) (by decide) (by decide) na (by rfl)).imp fun σ H Q ⟨ds, M, F, P, at', ht, fin⟩ => by
    refine ⟨ds, M, F, _, at', ht, fun x M1 v H1 q dj ev mo rp => ?_⟩
    have nr : (∀ a, x ≠ .ref a) ∧ (∀ u, x ≠ .ty u) := ⟨fun a h => by subst h; exact q, fun u h => by subst h; exact q⟩
    have q' : (isiN n = true ∧ isiN m = true) ∧ P (.bl (isiB n x || isiB m x)) M1 := by
      cases x <;> first | exact q | exact q.elim
    obtain ⟨t, h1, h2⟩ := rp_ty rp nr.1 nr.2
    refine ⟨by rw [sizeLine_eq]; simp, fun w hw => ?_⟩
    have evN : Ev M1 H1 M1 (upd H1 w (.tup [.ty n, .ty m])) := Ev.new hw
    obtain ⟨t2, h3, h4⟩ := rp_ty (Rp.ev evN x rp) nr.1 nr.2
    show rIsiT X.K [v, .ref w] _ Q
    refine ⟨v, w, [.ty n, .ty m], _, [.type n, .type m], isiB n x || isiB m x, rfl, upd_same, .cons (.ty n) (.cons (.ty m) .nil), h3, ?_, (fin.ev (ev.trans evN)).val dj (mo.new hw) q'.2 (.bl _)⟩
    have k1 := kit_ty (K := X.K) (h4 n q'.1.1)
    have k2 := kit_ty (K := X.K) (h4 m q'.1.2)
    unfold PySem.W.kitAny
    rw [k1]
    cases isiB n x with
    | true => rfl
    | false =>
      dsimp only
      unfold PySem.W.kitAny
      rw [k2]
      cases isiB m x <;> rfl
/-! ### a list that is made by two fors, for a user who changes it -/
def dComp2H (vs vs1 : List Nat) (ti : DTI) (g : DTG) (tt : DTT) (ti1 : DTI) (g1 : DTG) (tt1 : DTT) (te : DTE) : DTE := fun ds M P => ti ds M fun xs M1 => compL2 vs vs1 g tt ti1 g1 tt1 te ds (fun ys M2 => ∀ p, M2 p = none → P (.ref p) (mput M2 p (some (.lst ys)))) xs [] M1
section
variable {X : Cx} {c : DC} {pos : Pos} {vs vs1 : List Nat} {ti ti1 : DTI} {g g1 : DTG} {tt tt1 : DTT} {te : DTE}
theorem lc2_hot {K : Fg} {σ : L2.St} {H : Hp} {Q : VK} : Lf K c (dComp2H vs vs1 ti g tt ti1 g1 tt1 te) σ H Q → tLc2 (Li K c ti) (Lg K c.mute vs g) (Lt K c.mute tt) (Li K c.mute ti1) (Lg K c.mute vs1 g1) (Lt K c.mute tt1) (Lf K c.mute te) vs vs1 σ H Q := fun ⟨ds, M, F, P, at', ht, fin⟩ =>
  lc2_read at' ht fun D ys M' ws H' p dj ev mo nM nF hD hD0 r => by
    have cold : (mj M' F) D = none := by rw [mj_r nM]; exact nF
    have e1 : ∀ a, mput (mj M' F) D (some .hid) a = none → mput (mj M' F) D (some (.lst ys)) a = none := fun a h => by
      by_cases e : a = D
      · subst e; rw [mput_same] at h; cases h
      · rw [mput_ne e] at h ⊢; exact h
    refine fin (.ref D) _ (.ref D) H' (p D nM) (dj_put dj nF) ⟨ev.keep, fun a o h t n => ?_, ev.dom⟩ ?_ (.ref D)
    · rw [mput_ne (fun e => hD0 o (by rw [← e]; exact h) t)]; exact ev.mono a o h t n
    · rw [mj_put]
      intro a o h
      by_cases e : a = D
      · subst e
        rw [mput_same] at h; cases h
        exact ⟨ws, hD, RpL.less e1 ys r⟩
      · rw [mput_ne e] at h
        exact MoOk.less e1 (mo a o (by rw [mput_ne e]; exact h))
variable {tg iter tg1 iter1 elt : Expr} {ifs ifs1 : List Expr} {scope : Scope} {own : List (Str × Nat)}
theorem d_setLc2H {i : Nat} {y : Str} {py : Pos} {spos : Pos} (hc : X.calm = true) (hN : X.N.Nodup) (hy : X.N[i]? = some y) (hyl : X.env.scope.names.lookup y = some .local)
    (hsw : swapsWith (.ListComp elt [⟨tg, iter, ifs, 0⟩, ⟨tg1, iter1, ifs1, 0⟩] scope pos) (some (.Name y py)) spos.line X.env = pure true) (hi : DI X c tg iter ti) (ok : BlkOk X.N X.env.scope scope own) (hv : ∀ i ∈ vs1, i ∈ own.map (·.2))
    (hg : ∀ (s : Shared) (H : Hp) (C : Addr) (cl : List (Str × Addr)) (fp : List Addr), DG (X.blk s H scope (compEnvC scope cl C X.env) fp) c.mute (own.map (·.2)) tg g) (ht : ∀ (s : Shared) (H : Hp) (C : Addr) (cl : List (Str × Addr)) (fp : List Addr), DTs (X.blk s H scope (compEnvC scope cl C X.env) fp) c.mute ifs tt)
    (hi1 : ∀ (s : Shared) (H : Hp) (C : Addr) (cl : List (Str × Addr)) (fp : List Addr), DI (X.blk s H scope (compEnvC scope cl C X.env) fp) c.mute tg1 iter1 ti1)
    (hg1 : ∀ (s : Shared) (H : Hp) (C : Addr) (cl : List (Str × Addr)) (fp : List Addr), DG (X.blk s H scope (compEnvC scope cl C X.env) fp) c.mute vs1 tg1 g1) (ht1 : ∀ (s : Shared) (H : Hp) (C : Addr) (cl : List (Str × Addr)) (fp : List Addr), DTs (X.blk s H scope (compEnvC scope cl C X.env) fp) c.mute ifs1 tt1)
    (he : ∀ (s : Shared) (H : Hp) (C : Addr) (cl : List (Str × Addr)) (fp : List Addr), DE (X.blk s H scope (compEnvC scope cl C X.env) fp) c.mute elt te) (hs : ∀ x, foldedSetIterable iter X.env x = pure x := by intro _; rfl) (hs1 : ∀ env x, foldedSetIterable iter1 env x = pure x := by intro _ _; rfl) :
    DS X c (.Assign [.Name y py] (.ListComp elt [⟨tg, iter, ifs, 0⟩, ⟨tg1, iter1, ifs1, 0⟩] scope pos) spos) (dSet i (dComp2H (own.map (·.2)) vs1 ti g tt ti1 g1 tt1 te)) := (ps_setLc2 (g := Lg X.K c.mute (own.map fun (x : Str × Nat) => x.2) g) (tt := Lt X.K c.mute tt) (wi1 := Li X.K c.mute ti1) (g1 := Lg X.K c.mute vs1 g1) (tt1 := Lt X.K c.mute tt1) (te := Lf X.K c.mute te) hc hN hy hyl hsw hi ok hv hg ht hi1 hg1 ht1 he hs hs1).imp fun W σ H ⟨ds, M, F, DD, at', ht, f⟩ =>
  lc2_hot (Q := fun v H' => W.nx (σ.set i (some v)) H') ⟨ds, M, F, fun d M1 => DD.nx (ds.set i (some d)) M1, at', ht, fun d M' v H' p dj ev mo rp => f.nx _ M' _ H' p dj ev mo ((at'.sl.kp ev.kpF).set i rp)⟩
end
end DL

set_option Elab.async false
set_option linter.all false
set_option maxRecDepth 100000
set_option maxHeartbeats 4000000
namespace DL
open PySem PySem.Spec PyProof.Rows L2
/-! ### sets of tuples of keys: small questions -/
abbrev KyAt (P : Program) (w : World) (h : Heap) (b : Addr) (ks : List Key) : Prop := IsTupleKey (mixKind P w) h ks b
abbrev kyH (P : Program) (w : World) (ks : List Key) : Int := tupleKeyHash (mixKind P w) ks
section
variable {P : Program} {w : World} {A : Around} {E : Value → Shared → Prop} {s : Shared}
/-- a loop whose every turn leaves its state -/
theorem forIn_still {S : Type} {g : Value → S → Sem (ForInStep S)} {r : S} {Q : S → Shared → Prop} : ∀ {l : List Value}, (∀ v ∈ l, ∀ R : ForInStep S → Shared → Prop, R (.yield r) s → wpAny (model P w) A (g v r) R E s) → Q r s →
    wpAny (model P w) A (forIn l r g) Q E s
  | [], _, h => by rw [List.forIn_nil]; exact wpAny_pure h
  | v :: l, hg, h => by
    rw [List.forIn_cons]
    exact wpAny_bind (hg v List.mem_cons_self _ (forIn_still (fun u hu => hg u (List.mem_cons_of_mem _ hu)) h))
theorem kyItems : ∀ {ks : List Key} {vs : List Value}, ItemsAre (mixKind P w) ks vs → ∀ v ∈ vs, (∃ i t, v = Value.int i t) ∨ ∃ x t, v = Value.str x t
  | _, _, .nil, _, hv => by cases hv
  | _, _, .cons h r, v, hv => by
    rcases List.mem_cons.mp hv with e | e
    · subst e
      rcases keyIs_shape h with ⟨i, t, _, q⟩ | ⟨x, t, _, q⟩
      · exact .inl ⟨i, t, q⟩
      · exact .inr ⟨x, t, q⟩
    · exact kyItems r v e
theorem noClass {v : Value} (h : (∃ i t, v = Value.int i t) ∨ ∃ x t, v = Value.str x t) (n : Nat) : ofAClassStatement n v = pure false := by
  rcases h with ⟨i, t, rfl⟩ | ⟨x, t, rfl⟩ <;> cases n <;> rfl
theorem byVal {v : Value} (h : (∃ i t, v = Value.int i t) ∨ ∃ x t, v = Value.str x t) (n : Nat) : hashByValue n v = pure true ∨ hashByValue n v = pure false := by
  rcases h with ⟨i, t, rfl⟩ | ⟨x, t, rfl⟩
  · exact .inl (by cases n <;> rfl)
  · exact .inr (by cases n <;> rfl)
/-- a loop whose every turn leaves its state, or ends it with one other -/
theorem forIn_out {S : Type} {g : Value → S → Sem (ForInStep S)} {r r1 : S} {Q : S → Shared → Prop} (h1 : Q r1 s) : ∀ {l : List Value},
    (∀ v ∈ l, ∀ R : ForInStep S → Shared → Prop, R (.yield r) s → R (.done r1) s → wpAny (model P w) A (g v r) R E s) → Q r s → wpAny (model P w) A (forIn l r g) Q E s
  | [], _, h => by rw [List.forIn_nil]; exact wpAny_pure h
  | v :: l, hg, h => by
    rw [List.forIn_cons]
    exact wpAny_bind (hg v List.mem_cons_self _ (forIn_out h1 (fun u hu => hg u (List.mem_cons_of_mem _ hu)) h) (wpAny_pure h1))
theorem ky_noClass {b : Addr} {ks : List Key} {Q : Bool → Shared → Prop} (hk : KyAt P w s.heap b ks) (q : Q false s) : wpAny (model P w) A (ofAClassStatement 8 (.ref b)) Q E s := by
  have ty := hk.typeIs
  obtain ⟨o, vs, n, at0, _, dt, its⟩ := hk
  unfold ofAClassStatement
  refine wpAny_bind (wpAny_typeOf ty ?_)
  simp only [show (("tuple" : String) == "tuple") = true from by decide, if_true, Bool.not_true, Bool.false_eq_true, if_false]
  try refine wpAny_bind (wpAny_pure ?_)
  show wpAny _ _ (seqItems? (.ref b) >>= _) _ _ s
  refine wpAny_bind (wpAny_seqItems at0 dt (wpAny_bind ?_))
  show wpAny _ _ (forIn vs _ _) _ _ s
  rw [← Array.forIn_toList]
  refine forIn_still (fun v hv R hR => ?_) (wpAny_pure q)
  rw [noClass (kyItems its v hv)]
  exact wpAny_bind (wpAny_pure (by simp only [Bool.false_eq_true, if_false]; exact wpAny_pure hR))
theorem ky_byVal {b : Addr} {ks : List Key} {Q : Bool → Shared → Prop} (hk : KyAt P w s.heap b ks) (q : ∀ z, Q z s) : wpAny (model P w) A (hashByValue 8 (.ref b)) Q E s := by
  have ty := hk.typeIs
  obtain ⟨o, vs, n, at0, _, dt, its⟩ := hk
  unfold hashByValue
  refine wpAny_bind (wpAny_specialOf ty F.slot_tuple_hash.lookup ?_)
  show wpAny _ _ (seqItems? (.ref b) >>= _) _ _ s
  refine wpAny_bind (wpAny_seqItems at0 dt (wpAny_bind ?_))
  show wpAny _ _ (forIn vs _ _) _ _ s
  rw [← Array.forIn_toList]
  refine forIn_out (r1 := (some false, ())) (wpAny_pure (q _)) (fun v hv R hR hR1 => ?_) (wpAny_pure (q _))
  rcases byVal (kyItems its v hv) 7 with e | e
  · rw [e]
    exact wpAny_bind (wpAny_pure (by simp only [Bool.not_true, Bool.false_eq_true, if_false]; exact wpAny_pure hR))
  · rw [e]
    exact wpAny_bind (wpAny_pure (by simp only [Bool.not_false, if_true]; exact wpAny_pure hR1))
theorem ky_unseen {b : Addr} {ks : List Key} {ys : List Value} {Q : Bool → Shared → Prop} (hk : KyAt P w s.heap b ks) (hy : ∀ y ∈ ys, ∃ c ls, y = Value.ref c ∧ KyAt P w s.heap c ls) (q : Q false s) :
    wpAny (model P w) A (searchCouldBeSeen (.ref b) ys) Q E s := by
  unfold searchCouldBeSeen
  refine wpAny_bind (forIn_still (fun v hv R hR => ?_) (wpAny_pure q))
  obtain ⟨c, ls, rfl, hc⟩ := hy v hv
  dsimp only
  split
  · exact wpAny_pure hR
  · refine wpAny_bind (wpAny_eqIsQuiet_tuple hk ?_)
    simp only [Bool.not_true, Bool.false_eq_true, if_false]
    refine wpAny_bind (wpAny_eqIsQuiet_tuple hc ?_)
    simp only [Bool.not_true, Bool.false_eq_true, if_false]
    refine wpAny_bind (ky_noClass hk ?_)
    simp only [Bool.false_eq_true, if_false]
    refine wpAny_bind (ky_noClass hc ?_)
    simp only [Bool.false_eq_true, if_false]
    exact wpAny_pure hR
end
end DL

set_option Elab.async false
set_option linter.all false
set_option maxRecDepth 100000
set_option maxHeartbeats 4000000
namespace DL
open PySem PySem.Spec PyProof.Rows L2
/-! ### sets of tuples of keys: looking one up -/
abbrev prb (t : SetTable) (h : Int) (c : Nat) : SetTable.Probe := nth t.mask (runAt t.mask (SetTable.bits h % (t.mask + 1)) (SetTable.bits h)) c
theorem prb_none (t : SetTable) (h : Int) : ∀ c, (prb t h c).dummy = none
  | 0 => rfl
  | c + 1 => by
    have ih := prb_none t h c
    unfold prb at ih ⊢
    rw [nth_succ]
    unfold adv
    split <;> exact ih
theorem prb_add (t : SetTable) (h : Int) (c q : Nat) : nth t.mask (prb t h c) q = prb t h (c + q) := (nth_add t.mask c _ q).symm
/-- what the next probe meets -/
theorem meets_next {t : SetTable} {hs : List Int} (T : TabOk t hs) {hat : Nat → Int} (ha : ∀ (i : Nat) (g : Int), hs[i]? = some g → hat i = g) {h : Int} {K c : Nat} (hK : way t.mask h K ∉ t.place.toList)
    (hb : ∀ d, d < K → way t.mask h d ∈ t.place.toList) (hc : c ≤ K) (hf : K < 10 * SetTable.turns t.mask) :
    (∃ d i : Nat, c ≤ d ∧ d < K ∧ t.place.toList[i]? = some (way t.mask h d) ∧ (∀ d' i' : Nat, c ≤ d' → d' < d → t.place.toList[i']? = some (way t.mask h d') → hs[i']? ≠ some h) ∧
      t.probe hat h (prb t h c) = some (.candidate (way t.mask h d) i (prb t h (d + 1)))) ∨
    ((∀ d i : Nat, c ≤ d → d < K → t.place.toList[i]? = some (way t.mask h d) → hs[i]? ≠ some h) ∧ t.probe hat h (prb t h c) = some (.empty (way t.mask h K) none)) := by
  have wq : ∀ q, (nth t.mask (prb t h c) q).j = way t.mask h (c + q) := fun q => congrArg SetTable.Probe.j (prb_add t h c q)
  have back : ∀ d, c ≤ d → way t.mask h d = (nth t.mask (prb t h c) (d - c)).j := fun d hd => by rw [wq, Nat.add_sub_cancel' hd]
  rcases go_spec t T.ris T.dm hat h (10 * SetTable.turns t.mask) (K - c) (prb t h c) (prb_none t h c) (by omega) (fun q hq => by rw [wq]; exact hb _ (by omega)) (by rw [← back K hc]; exact hK) with ⟨q, i, h1, h2, _, h4, h5⟩ | ⟨h1, h2⟩
  · refine .inl ⟨c + q, i, by omega, by omega, by rw [← wq]; exact h2, fun d' i' u1 u2 u3 u4 => h4 (d' - c) i' (by omega) (by rw [← back d' u1]; exact u3) (ha i' h u4), ?_⟩
    rw [← wq, show c + q + 1 = c + (q + 1) from rfl, ← prb_add]
    exact h5
  · refine .inr ⟨fun d i u1 u2 u3 u4 => h1 (d - c) i (by omega) (by rw [← back d u1]; exact u3) (ha i h u4), ?_⟩
    rw [back K hc]
    exact h2
/-- the set at a has the tuples L -/
structure KSet (P : Program) (w : World) (h : Heap) (a : Addr) (L : List (Addr × List Key)) (es : Array (Int × Value)) (ep : Nat) (t : SetTable) (o : Obj) : Prop where
  at0 : h.get? a = some o
  ex : o.ExactSet
  dt : o.data = .set es ep t
  rows : es.toList = L.map fun p => (kyH P w p.2, Value.ref p.1)
  tab : TabOk t (L.map fun p => kyH P w p.2)
  nd : (L.map (·.2)).Nodup
  all : ∀ p ∈ L, KyAt P w h p.1 p.2
  led : w.params.followText "set-order" = true ∨ t.led = true
  room : L.length * 5 < t.mask * 3
  few : L.length ≤ 70
section
variable {P : Program} {w : World} {A : Around} {E : Value → Shared → Prop} {s : Shared} {a : Addr} {L : List (Addr × List Key)} {es : Array (Int × Value)} {ep : Nat} {t : SetTable} {o : Obj}
theorem KSet.len {h : Heap} (R : KSet P w h a L es ep t o) : es.size = L.length := by rw [← Array.length_toList, R.rows, List.length_map]
theorem KSet.fit {h : Heap} (R : KSet P w h a L es ep t o) : t.fits es.size = true := by
  have h1 := R.tab.sz
  have h3 := R.room
  rw [List.length_map] at h1
  unfold SetTable.fits SetTable.fill
  rw [R.tab.dm, R.len, Bool.and_eq_true, beq_iff_eq, decide_eq_true_eq]
  exact ⟨h1, by show t.place.size + 0 ≤ t.mask; omega⟩
theorem KSet.row {h : Heap} (R : KSet P w h a L es ep t o) {i : Nat} {p : Addr × List Key} (e : L[i]? = some p) : es[i]? = some (kyH P w p.2, Value.ref p.1) := by
  rw [← Array.getElem?_toList, R.rows, List.getElem?_map, e]; rfl
theorem KSet.stays {h : Heap} (R : KSet P w h a L es ep t o) : ¬ t.gaveWay = true := by
  unfold SetTable.gaveWay
  rw [mask_odd R.tab.mok]
  decide
theorem seek {ad : Bool} (R : KSet P w s.heap a L es ep t o) {x : Addr} {k : List Key} (hx : KyAt P w s.heap x k) (hu : A.units < cLine) {K : Nat} (hf : K < 10 * SetTable.turns t.mask)
    (hK : way t.mask (kyH P w k) K ∉ t.place.toList) (hb : ∀ d, d < K → way t.mask (kyH P w k) d ∈ t.place.toList) {Q : SetFound → Shared → Prop}
    (yes : k ∈ L.map (·.2) → ∀ r : Option Nat, (ad = false → r.isSome = true) → Q (.there r) s) (no : k ∉ L.map (·.2) → Q (.free (way t.mask (kyH P w k) K) false) s) :
    ∀ (f c : Nat) (st : Option SetTable.Probe), st.getD (t.probeStart (kyH P w k)) = prb t (kyH P w k) c → c ≤ K → K < c + f →
      (∀ (i : Nat) p, L[i]? = some p → p.2 = k → ∃ d, c ≤ d ∧ d < K ∧ t.place.toList[i]? = some (way t.mask (kyH P w k) d)) →
      wpAny (model P w) A (setSearchFrom a (.ref x) (kyH P w k) ad f st) Q E s
  | 0, c, _, _, h1, h2, _ => absurd h2 (by omega)
  | f + 1, c, st, e0, h1, h2, late => by
    rw [setSearchFrom_succ]
    refine wpAny_bind (wpAny_setState_of R.at0 R.dt R.fit ?_)
    dsimp only
    refine wp_if_neg R.stays ?_
    try refine wpAny_bind (wpAny_pure ?_)
    have hs : ∀ (i : Nat) (p : Addr × List Key), L[i]? = some p → (L.map fun p => kyH P w p.2)[i]? = some (kyH P w p.2) := fun i p e => by rw [List.getElem?_map, e]; rfl
    have ha : ∀ (i : Nat) (g : Int), (L.map fun p => kyH P w p.2)[i]? = some g → (fun i => (es[i]?.map (·.1)).getD 0) i = g := fun i g e => by
      rw [List.getElem?_map] at e
      cases e2 : L[i]? with
      | none => rw [e2] at e; cases e
      | some p => rw [e2] at e; cases e; dsimp only; rw [R.row e2]; rfl
    rw [e0]
    rcases meets_next R.tab ha hK hb h1 hf with ⟨d, i, u1, u2, u3, u4, u5⟩ | ⟨u1, u2⟩
    · rw [u5]
      dsimp only
      have il : i < L.length := by
        have q := (List.getElem?_eq_some_iff.mp u3).1
        have z := R.tab.sz
        rw [List.length_map] at z
        rw [Array.length_toList] at q
        omega
      obtain ⟨p, ep'⟩ : ∃ p, L[i]? = some p := ⟨_, List.getElem?_eq_getElem il⟩
      have pm : p ∈ L := List.mem_of_getElem? ep'
      have live : t.slot (way t.mask (kyH P w k) d) = .live i := slot_live R.tab.ris u3
      have rest : wpAny (model P w) A (searchRest a (.ref x) (kyH P w k) ad f es t (way t.mask (kyH P w k) d) i (prb t (kyH P w k) (d + 1))) Q E s := by
        unfold searchRest
        rw [R.row ep']
        dsimp only
        refine wpAny_bind (wpAny_holding (wpAny_eqBool_tuple hu (R.all p pm) hx (wpAny_bind (wpAny_setState_of R.at0 R.dt R.fit ?_))))
        dsimp only
        have mem : p.2 = k → k ∈ L.map (·.2) := fun same => List.mem_map.mpr ⟨p, pm, same⟩
        by_cases early : ad = true ∧ p.2 = k
        · exact wp_if_pos (by simp [early.1, early.2]) (wpAny_pure (yes (mem early.2) none (fun z => by rw [early.1] at z; cases z)))
        refine wp_if_neg (by simp; exact fun u1 u2 => early ⟨u1, u2⟩) ?_
        try refine wpAny_bind (wpAny_pure ?_)
        rw [sameMem]
        dsimp only
        simp only [if_true, live, R.row ep']
        refine wpAny_bind (wpAny_isSame_ref_self (wpAny_bind (wpAny_pure ?_)))
        simp only [if_true]
        by_cases same : p.2 = k
        · exact wp_if_pos (by simp [same]) (wpAny_pure (yes (mem same) _ (fun _ => rfl)))
        · refine wp_if_neg (by simp [same]) (seek R hx hu hf hK hb yes no f (d + 1) _ rfl u2 (by omega) fun i2 p2 q1 q2 => ?_)
          obtain ⟨d2, z1, z2, z3⟩ := late i2 p2 q1 q2
          refine ⟨d2, ?_, z2, z3⟩
          rcases Nat.lt_trichotomy d2 d with y | y | y
          · exact absurd ((hs i2 p2 q1).trans (by rw [q2])) (u4 d2 i2 z1 y z3)
          · subst y
            have l2 := slot_live R.tab.ris z3
            rw [live] at l2
            injection l2 with l2
            subst l2
            rw [ep'] at q1
            cases q1
            exact absurd q2 same
          · exact y
      by_cases hl : t.led = true
      · refine wp_if_neg (by simp [hl]) ?_
        try refine wpAny_bind (wpAny_pure ?_)
        exact rest
      · refine wp_if_pos (by simp [hl]) (wpAny_bind (ky_unseen hx (fun y hy => ?_) ?_))
        · obtain ⟨e, he, ee⟩ := List.mem_map.mp hy
          have he2 : e ∈ es.toList := by
            have q : e ∈ es ∧ e.1 = kyH P w k := by simpa using he
            exact q.1.val
          rw [R.rows] at he2
          obtain ⟨p2, m2, e2⟩ := List.mem_map.mp he2
          exact ⟨p2.1, p2.2, by rw [← ee, ← e2], R.all p2 m2⟩
        · refine wp_if_neg (by decide) ?_
          try refine wpAny_bind (wpAny_pure ?_)
          exact rest
    · rw [u2]
      dsimp only
      refine wpAny_pure (no fun m => ?_)
      obtain ⟨p, pm, pk⟩ := List.mem_map.mp m
      obtain ⟨i, il, e⟩ := List.getElem_of_mem pm
      have q1 : L[i]? = some p := by rw [List.getElem?_eq_getElem il, e]
      obtain ⟨d, z1, z2, z3⟩ := late i p q1 pk
      exact u1 d i z1 z2 z3 ((hs i p q1).trans (by rw [pk]))
end
end DL

set_option Elab.async false
set_option linter.all false
set_option maxRecDepth 100000
set_option maxHeartbeats 4000000
namespace DL
open PySem PySem.Spec PyProof.Rows L2
/-! ### sets of tuples of keys: adding -/
theorem pick_map {α β : Type} (f : α → β) (L : List α) (l : List Nat) : (l.filterMap fun i => (L.map f)[i]?) = (l.filterMap fun i => L[i]?).map f := by
  rw [List.map_filterMap]
  congr 1
  funext i
  rw [List.getElem?_map]
theorem pick_all {α : Type} : ∀ L : List α, ((List.range L.length).filterMap fun i => L[i]?) = L
  | [] => rfl
  | x :: L => by
    rw [List.length_cons, List.range_succ_eq_map, List.filterMap_cons_some (by rfl : (x :: L)[0]? = some x), List.filterMap_map]
    exact congrArg (x :: ·) (pick_all L)
theorem pick_get {α : Type} (L : List α) (g : α → Int) (d : Nat → Int) (hd : ∀ i x, L[i]? = some x → d i = g x) : ∀ l : List Nat, (∀ i ∈ l, i < L.length) → (l.filterMap fun i => L[i]?).map g = l.map d
  | [], _ => rfl
  | i :: l, h => by
    have e := List.getElem?_eq_getElem (h i List.mem_cons_self)
    rw [List.filterMap_cons_some e, List.map_cons, List.map_cons, pick_get L g d hd l fun j hj => h j (List.mem_cons_of_mem _ hj), hd i _ e]
section
variable {P : Program} {w : World} {A : Around} {E : Value → Shared → Prop} {s : Shared} {a : Addr} {L : List (Addr × List Key)} {es : Array (Int × Value)} {ep : Nat} {t : SetTable} {o : Obj}
theorem KyAt.same {h h' : Heap} {b : Addr} {k : List Key} (q : KyAt P w h b k) (at0 : h.get? a = some o) (dt : o.data = .set es ep t) (sb : Heap.SameBut a h h') : KyAt P w h' b k := by
  obtain ⟨o2, vs, n, e1, e2, e3, e4⟩ := q
  by_cases ab : b = a
  · subst ab
    rw [at0] at e1
    cases e1
    rw [dt] at e3
    cases e3
  · exact ⟨o2, vs, n, (sb.2 b ab).trans e1, e2, e3, e4⟩
def KSetAt (P : Program) (w : World) (h : Heap) (a : Addr) (L : List (Addr × List Key)) : Prop := ∃ es ep t o, KSet P w h a L es ep t o
/-- the table laid anew -/
theorem relayed (at0 : s.heap.get? a = some o) (ex : o.ExactSet) (dt : o.data = .set es ep t) (rows : es.toList = L.map fun p => (kyH P w p.2, Value.ref p.1)) (sz : t.place.size = es.size) (dm : t.dummies = #[])
    (low : es.size ≤ t.mask) (nd : (L.map (·.2)).Nodup) (all : ∀ p ∈ L, KyAt P w s.heap p.1 p.2) (led : w.params.followText "set-order" = true ∨ t.led = true) (few : L.length ≤ 70) {wanted M : Nat}
    (hM : SetTable.sizeAbove wanted - 1 = M) (ok : MaskOk M) (big : SetTable.sizeAbove wanted ≤ 128) (room : L.length * 5 < M * 3) {Q : Unit → Shared → Prop}
    (q : ∀ hp L', Heap.SameBut a s.heap hp → KSetAt P w hp a L' → L'.Perm L → Q () { s with heap := hp }) : wpAny (model P w) A (setRelay a wanted) Q E s := by
  have n1 : es.size = L.length := by rw [← Array.length_toList, rows, List.length_map]
  have fit : t.fits es.size = true := by
    unfold SetTable.fits SetTable.fill
    rw [dm, Bool.and_eq_true, beq_iff_eq, decide_eq_true_eq]
    exact ⟨sz, by show t.place.size + 0 ≤ t.mask; omega⟩
  obtain ⟨t', od, e, pm, T, m1, m2, _, _⟩ := relaid_ok t (hs := es.map (·.1)) (wanted := wanted) hM ok (by rw [Array.size_map, n1]; omega)
  rw [Array.size_map, n1] at pm
  have inr : ∀ i ∈ od.toList, i < L.length := fun i hi => List.mem_range.mp (pm.mem_iff.mp hi)
  have pL : (od.toList.filterMap fun i => L[i]?).Perm L := by
    have z := pm.filterMap fun i => L[i]?
    rw [pick_all] at z
    exact z
  have r1 : (od.filterMap (es[·]?)).toList = (od.toList.filterMap fun i => L[i]?).map fun p => (kyH P w p.2, Value.ref p.1) := by
    rw [Array.toList_filterMap, ← pick_map, ← rows]
    congr 1
    funext i
    rw [Array.getElem?_toList]
  have r2 : (od.toList.filterMap fun i => L[i]?).map (fun p => kyH P w p.2) = od.toList.map fun i => (es.map (·.1)).getD i 0 := pick_get L _ _ (fun i p e => by
    have z : (es.map (·.1))[i]? = some (kyH P w p.2) := by rw [Array.getElem?_map, ← Array.getElem?_toList, rows, List.getElem?_map, e]; rfl
    rw [Array.getD_eq_getD_getElem?, z]; rfl) _ inr
  rw [← r2] at T
  generalize (od.toList.filterMap fun i => L[i]?) = L' at pL r1 r2 T
  have n2 : (od.filterMap (es[·]?)).size = es.size := by rw [← Array.length_toList, r1, List.length_map, pL.length_eq, n1]
  rw [setRelay_eq]
  refine wpAny_bind (wpAny_setState_of at0 dt fit ?_)
  dsimp only
  refine wp_if_neg (by rw [sizeLine_eq]; omega) ?_
  try refine wpAny_bind (wpAny_pure ?_)
  rw [e]
  dsimp only
  refine wpAny_bind (wp_if_neg (by rw [n2]; simp) ?_)
  try refine wpAny_bind (wpAny_pure ?_)
  refine wpAny_pure ?_
  dsimp only
  refine wpAny_storeSet_of at0 dt ?_ (by rw [n2, n1, sizeLine_eq]; omega)
  have sb := Heap.SameBut.update s.heap a (Obj.putSet (od.filterMap (es[·]?)) t')
  refine q _ L' sb ⟨_, _, _, _, { at0 := store_at at0 dt, ex := ⟨ex.1, ex.2.1, ex.2.2⟩, dt := rfl, rows := r1, tab := T, nd := (pL.map (·.2)).nodup_iff.mpr nd, all := fun p hp => (all p (pL.mem_iff.mp hp)).same at0 dt sb, led := by rw [m2]; exact led, room := by rw [pL.length_eq, m1]; exact room, few := by rw [pL.length_eq]; exact few }⟩ pL
theorem addK (R : KSet P w s.heap a L es ep t o) {x : Addr} {k : List Key} (hx : KyAt P w s.heap x k) (hu : A.units < cLine) (few : L.length + 1 ≤ 70) {Q : Bool → Shared → Prop}
    (q : ∀ b hp L', Heap.SameBut a s.heap hp → KSetAt P w hp a L' → (k ∈ L.map (·.2) → L' = L) → (k ∉ L.map (·.2) → L'.Perm ((x, k) :: L)) → Q b { s with heap := hp }) :
    wpAny (model P w) A (setAddHashed a (.ref x) (kyH P w k)) Q E s := by
  have n1 := R.len
  have room := R.room
  obtain ⟨K, k1, k2, k3⟩ := R.tab.first (by rw [List.length_map]; omega) (kyH P w k)
  unfold setAddHashed
  refine wpAny_holding ?_
  rw [show (100000 : Nat) = 99999 + 1 from rfl, setAddHashedIn_succ]
  refine wpAny_bind (wpAny_setState_of R.at0 R.dt R.fit ?_)
  dsimp only
  refine wp_if_neg (by simp [byScan, Value.scannable]) ?_
  try refine wpAny_bind (wpAny_pure ?_)
  have big : K < 100000 := by
    have z : 10 * SetTable.turns t.mask ≤ 1420 := by
      unfold SetTable.turns
      rcases R.tab.mok with e | e | e <;> omega
    omega
  refine wpAny_bind ?_
  unfold setSearch
  refine seek R hx hu k1 k2 k3 (fun m _ _ => ?_) (fun m => ?_) 100000 0 none rfl (Nat.zero_le _) (by omega) fun i p e1 e2 => ?_
  · dsimp only
    exact wpAny_pure (q false s.heap L (Heap.SameBut.refl a s.heap) ⟨_, _, _, _, R⟩ (fun _ => rfl) fun z => absurd m z)
  · dsimp only
    refine wpAny_bind (wpAny_setState_of R.at0 R.dt R.fit ?_)
    dsimp only
    obtain ⟨q1, q2, q3, q4, q5, q6, q7, q8, q9⟩ := R.tab.put k2 k3
    generalize ez : t.put (way t.mask (kyH P w k) K) = z at q1 q3 q4 q5 q6 q7 q8 q9 ⊢
    obtain ⟨t1, j⟩ := z
    dsimp only at q1 q3 q4 q5 q6 q7 q8 q9 ⊢
    subst q1
    generalize SetTable.below t.place (way t.mask (kyH P w k) K) = j at q2 q3 ⊢
    have rows1 : (SetTable.insertAt es j (kyH P w k, Value.ref x)).toList = (L.take j ++ (x, k) :: L.drop j).map fun p => (kyH P w p.2, Value.ref p.1) := by
      rw [SetTable.toList_insertAt, R.rows, List.map_append, List.map_cons, List.map_take, List.map_drop]
    have tab1 : TabOk t1 ((L.take j ++ (x, k) :: L.drop j).map fun p => kyH P w p.2) := by
      rw [List.map_append, List.map_cons, List.map_take, List.map_drop]
      exact q3
    have pm : (L.take j ++ (x, k) :: L.drop j).Perm ((x, k) :: L) := put_perm L j (x, k)
    generalize SetTable.insertAt es j (kyH P w k, Value.ref x) = es1 at rows1 ⊢
    generalize L.take j ++ (x, k) :: L.drop j = L1 at pm rows1 tab1
    have n2 : L1.length = L.length + 1 := pm.length_eq
    have n3 : es1.size = L.length + 1 := by rw [← Array.length_toList, rows1, List.length_map, n2]
    have nd1 : (L1.map (·.2)).Nodup := (pm.map (·.2)).nodup_iff.mpr (List.nodup_cons.mpr ⟨m, R.nd⟩)
    rw [List.length_map] at q9
    have go : ∀ (t2 : SetTable), TabOk t2 (L1.map fun p => kyH P w p.2) → t2.mask = t.mask → t2.led = t.led → t2.fill = L.length + 1 → wpAny (model P w) A (do
        storeSet a es1 t2
        if (!false && t2.tooFull) = true then do
            setRelay a (SetTable.grown (es.size + 1))
            pure true
          else pure true) Q E s := fun t2 T2 mk2 ld2 fl2 => by
      refine wpAny_bind (wpAny_storeSet_of R.at0 R.dt ?_ (by rw [n3, sizeLine_eq]; omega))
      have sb := Heap.SameBut.update s.heap a (Obj.putSet es1 t2)
      have at1 := store_at (es' := es1) (t' := t2) R.at0 R.dt
      generalize s.heap.update a (Obj.putSet es1 t2) = h1 at sb at1 ⊢
      have all1 : ∀ p ∈ L1, KyAt P w h1 p.1 p.2 := fun p hp => by
        rcases List.mem_cons.mp (pm.mem_iff.mp hp) with e | e
        · rw [e]; exact KyAt.same hx R.at0 R.dt sb
        · exact KyAt.same (R.all p e) R.at0 R.dt sb
      have led1 : w.params.followText "set-order" = true ∨ t2.led = true := by rw [ld2]; exact R.led
      by_cases full : t2.tooFull = true
      · refine wp_if_pos (by simp [full]) (wpAny_bind ?_)
        have f2 : (L.length + 1) * 5 ≥ t.mask * 3 := by
          have z := full
          unfold SetTable.tooFull at z
          rw [decide_eq_true_eq, fl2, mk2] at z
          exact z
        have which : (t.mask = 7 ∧ L.length = 4) ∨ (t.mask = 31 ∧ L.length = 18) := by
          rcases R.tab.mok with e | e | e <;> rw [e] at f2 room
          · exact .inl ⟨e, by omega⟩
          · exact .inr ⟨e, by omega⟩
          · omega
        have sz2 : t2.place.size = es1.size := by
          have z := T2.sz
          rw [List.length_map, n2] at z
          rw [z, n3]
        have low2 : es1.size ≤ t2.mask := by rw [n3, mk2]; rcases which with ⟨e, e2⟩ | ⟨e, e2⟩ <;> omega
        have fin : ∀ M, SetTable.sizeAbove (SetTable.grown (L.length + 1)) - 1 = M → MaskOk M → SetTable.sizeAbove (SetTable.grown (L.length + 1)) ≤ 128 → (L.length + 1) * 5 < M * 3 →
            wpAny (model P w) A (setRelay a (SetTable.grown (es.size + 1))) (fun _ s' => wpAny (model P w) A (pure true) Q E s') E { s with heap := h1 } := fun M u1 u2 u3 u4 => by
          rw [n1]
          refine relayed (s := { s with heap := h1 }) at1 ⟨R.ex.1, R.ex.2.1, R.ex.2.2⟩ rfl rows1 sz2 T2.dm low2 nd1 all1 led1 (by rw [n2]; exact few) u1 u2 u3 (by rw [n2]; exact u4) ?_
          intro hp L2 sb2 K2 pm2
          exact wpAny_pure (q true hp L2 (sb.trans sb2) K2 (fun z => absurd z m) fun _ => pm2.trans pm)
        rcases which with ⟨_, e⟩ | ⟨_, e⟩
        · exact fin 31 (by rw [e, size_20]) (.inr (.inl rfl)) (by rw [e, size_20]; decide) (by omega)
        · exact fin 127 (by rw [e, size_76]) (.inr (.inr rfl)) (by rw [e, size_76]; decide) (by omega)
      · refine wp_if_neg (by simp [full]) (wpAny_pure (q true h1 L1 sb ⟨_, _, _, _, { at0 := at1, ex := ⟨R.ex.1, R.ex.2.1, R.ex.2.2⟩, dt := rfl, rows := rows1, tab := T2, nd := nd1, all := all1, led := led1, room := ?_, few := by rw [n2]; exact few }⟩ (fun z => absurd z m) fun _ => pm))
        have z := full
        unfold SetTable.tooFull at z
        rw [decide_eq_true_eq, fl2] at z
        rw [n2]
        omega
    have off : TabOk { t1 with plain := false } (L1.map fun p => kyH P w p.2) := ⟨tab1.ris, tab1.dm, tab1.sz, tab1.mok, tab1.bd, tab1.reach⟩
    by_cases pl : t1.plain = true
    · first
        | (refine wpAny_bind ?_; refine wp_if_pos pl ?_; refine ky_byVal hx fun z => ?_)
        | refine wp_if_pos pl (wpAny_bind (ky_byVal hx fun z => ?_))
      cases z
      · exact go { t1 with plain := false } off q4 q5 q9
      · exact go t1 tab1 q4 q5 q9
    · first
        | (refine wpAny_bind ?_; refine wp_if_neg pl ?_; refine wpAny_pure ?_)
        | (refine wp_if_neg pl ?_)
      exact go t1 tab1 q4 q5 q9
  · have hi : (L.map fun p => kyH P w p.2)[i]? = some (kyH P w k) := by rw [List.getElem?_map, e1, ← e2]; rfl
    have il : i < t.place.toList.length := by
      have y := (List.getElem?_eq_some_iff.mp e1).1
      have z := R.tab.sz
      rw [List.length_map] at z
      rw [Array.length_toList]
      omega
    obtain ⟨d, d1, d2⟩ := R.tab.before k2 hi (List.getElem?_eq_getElem il)
    exact ⟨d, Nat.zero_le _, d1, by rw [List.getElem?_eq_getElem il, d2]⟩
end
end DL

set_option Elab.async false
set_option linter.all false
set_option maxRecDepth 100000
set_option maxHeartbeats 4000000
namespace DL
open PySem PySem.Spec PyProof.Rows L2
/-! ### sets of tuples of keys: made of an iterable -/
section
variable {α : Type} [DecidableEq α]
def addA (l : List α) (x : α) : List α := if x ∈ l then l else l ++ [x]
/-- the different ones -/
def setA (xs : List α) : List α := xs.foldl addA []
theorem mem_foldA : ∀ (xs l : List α) (y : α), y ∈ xs.foldl addA l ↔ y ∈ l ∨ y ∈ xs
  | [], l, y => by simp
  | x :: xs, l, y => by
    rw [List.foldl_cons, mem_foldA xs, List.mem_cons]
    unfold addA
    split
    · rename_i h
      exact ⟨fun z => z.elim .inl (fun z => .inr (.inr z)), fun z => z.elim .inl (fun z => z.elim (fun z => .inl (z ▸ h)) .inr)⟩
    · rw [List.mem_append, List.mem_singleton]
      exact ⟨fun z => z.elim (fun z => z.elim .inl fun z => .inr (.inl z)) (fun z => .inr (.inr z)), fun z => z.elim (fun z => .inl (.inl z)) fun z => z.elim (fun z => .inl (.inr z)) .inr⟩
theorem nodup_foldA : ∀ (xs l : List α), l.Nodup → (xs.foldl addA l).Nodup
  | [], l, h => h
  | x :: xs, l, h => by
    rw [List.foldl_cons]
    refine nodup_foldA xs _ ?_
    unfold addA; split
    · exact h
    · rename_i z
      exact (List.perm_append_singleton x l).nodup_iff.mpr (List.nodup_cons.mpr ⟨z, h⟩)
theorem mem_setA {xs : List α} {y : α} : y ∈ setA xs ↔ y ∈ xs := by unfold setA; rw [mem_foldA]; simp
theorem nodup_setA (xs : List α) : (setA xs).Nodup := nodup_foldA xs [] List.nodup_nil
end
theorem nodup_sub {α : Type} [DecidableEq α] : ∀ (l m : List α), l.Nodup → (∀ x ∈ l, x ∈ m) → l.length ≤ m.length
  | [], m, _, _ => by simp
  | x :: l, m, nd, h => by
    rw [List.nodup_cons] at nd
    have hx := h x List.mem_cons_self
    have ih := nodup_sub l (m.erase x) nd.2 fun y hy => by
      have yx : y ≠ x := fun e => nd.1 (e ▸ hy)
      exact (List.mem_erase_of_ne yx).mpr (h y (List.mem_cons_of_mem _ hy))
    rw [List.length_erase_of_mem hx] at ih
    have := List.length_pos_of_mem hx
    rw [List.length_cons]
    omega
/-- L holds just what the tuples l hold, once each -/
structure Once (l L : List (Addr × List Key)) : Prop where
  sub : ∀ p ∈ L, p ∈ l
  cov : ∀ p ∈ l, p.2 ∈ L.map (·.2)
  len : L.length ≤ l.length
theorem Once.more {l L L' : List (Addr × List Key)} (g : Once l L) {p : Addr × List Key} (c1 : p.2 ∈ L.map (·.2) → L' = L) (c2 : p.2 ∉ L.map (·.2) → L'.Perm (p :: L)) : Once (l ++ [p]) L' := by
  by_cases m : p.2 ∈ L.map (·.2)
  · rw [c1 m]
    refine ⟨fun q hq => List.mem_append_left _ (g.sub q hq), fun q hq => ?_, by rw [List.length_append]; exact Nat.le_add_right_of_le g.len⟩
    rcases List.mem_append.mp hq with z | z
    · exact g.cov q z
    · rw [List.mem_singleton.mp z]; exact m
  · have pm := c2 m
    refine ⟨fun q hq => ?_, fun q hq => ?_, by rw [pm.length_eq, List.length_append]; exact Nat.succ_le_succ g.len⟩
    · rcases List.mem_cons.mp (pm.mem_iff.mp hq) with z | z
      · rw [z]; exact List.mem_append_right _ (List.mem_singleton.mpr rfl)
      · exact List.mem_append_left _ (g.sub q z)
    · refine (pm.map (·.2)).mem_iff.mpr ?_
      rw [List.map_cons]
      rcases List.mem_append.mp hq with z | z
      · exact List.mem_cons_of_mem _ (g.cov q z)
      · rw [List.mem_singleton.mp z]; exact List.mem_cons_self
def SetK (P : Program) (w : World) (h : Heap) (a : Addr) (l : List (Addr × List Key)) : Prop := ∃ L, KSetAt P w h a L ∧ Once l L
theorem KyAt.keep {P : Program} {w : World} {h h' : Heap} {b : Addr} {k : List Key} (q : KyAt P w h b k) (kp : ∀ c o, h.get? c = some o → h'.get? c = some o) : KyAt P w h' b k :=
  let ⟨o, vs, n, e1, r⟩ := q
  ⟨o, vs, n, kp b o e1, r⟩
theorem SetK.keep {P : Program} {w : World} {h h' : Heap} {a : Addr} {l : List (Addr × List Key)} (q : SetK P w h a l) (kp : ∀ o, h.get? a = some o → h'.get? a = some o) (all : ∀ p ∈ l, KyAt P w h' p.1 p.2) : SetK P w h' a l := by
  obtain ⟨L, ⟨es, ep, t, o, R⟩, g⟩ := q
  exact ⟨L, ⟨es, ep, t, o, { R with at0 := kp o R.at0, all := fun p hp => all p (g.sub p hp) }⟩, g⟩
theorem setK_fresh {P : Program} (w : World) {h : Heap} : SetK P w (h.push (mtSet w)) h.objs.size [] := by
  refine ⟨[], ⟨#[], 0, .fresh 0 0 (!w.params.followText "set-order"), mtSet w, ?_⟩, ⟨fun p hp => (by cases hp), fun p hp => (by cases hp), Nat.le_refl _⟩⟩
  refine { at0 := Heap.get?_push_size _ rfl, ex := ⟨rfl, rfl, rfl⟩, dt := rfl, rows := rfl, tab := ⟨List.Pairwise.nil, rfl, rfl, .inl rfl, fun x hx => (by cases hx), fun i h j hi => (by simp at hi)⟩, nd := List.nodup_nil, all := fun p hp => (by cases hp), led := ?_, room := (by show 0 * 5 < 7 * 3; decide), few := Nat.zero_le _ }
  show _ ∨ (!w.params.followText "set-order") = true
  cases w.params.followText "set-order"
  · exact .inr rfl
  · exact .inl rfl
section
variable {P : Program} {w : World} {A : Around} {R : Result → Shared → Prop} {I : Addr} {fp wr : List Addr} {G : Array GenState → Array GenState → Prop} {n : Nat} {Pv : Nat → Value → Prop} {St : Nat → Shared → Prop}
theorem loopK (W : WalksS P w A.in1 I fp wr G n Pv St) (S : Addr) (hSf : S ∉ fp) (ks : List (Addr × List Key)) (hsz : ks.length = n) (hb : (setA (ks.map (·.2))).length ≤ 69) (hu : A.in1.units < cLine)
    (hval : ∀ i v, Pv i v → ∃ p, ks[i]? = some p ∧ v = .ref p.1) (h0 : Heap) (hk : ∀ p ∈ ks, KyAt P w h0 p.1 p.2) (hS0 : h0.get? S = none) (hw0 : ∀ b ∈ wr, h0.get? b = none) :
    ∀ (k i : Nat) (s : Shared), n - i = k → i ≤ n → St i s → (∀ b o, h0.get? b = some o → s.heap.get? b = some o) → SetK P w s.heap S (ks.take i) →
      (∀ s', Moved (S :: wr) G s s' → SetK P w s'.heap S ks → R (.ok (.ret .none)) s') →
      codeAny (model P w) A (.builtin "set.update.loop" ⟨[.ref S, .ref I], []⟩) R s := by
  have hSw : S ∉ wr := fun h => hSf (W.sub _ h)
  have hsub : ∀ b ∈ wr, b ∈ S :: wr := fun b hb => List.mem_cons_of_mem _ hb
  have on : ∀ {s s' : Shared}, Moved wr G s s' → (∀ b o, h0.get? b = some o → s.heap.get? b = some o) → ∀ b o, h0.get? b = some o → s'.heap.get? b = some o := fun hm kp b o e =>
    hm.heap b o (fun z => by rw [hw0 b z] at e; cases e) (kp b o e)
  have up : ∀ {i : Nat} {s s' : Shared}, Moved wr G s s' → (∀ b o, h0.get? b = some o → s.heap.get? b = some o) → SetK P w s.heap S (ks.take i) → SetK P w s'.heap S (ks.take i) := fun hm kp q =>
    q.keep (fun o e => hm.heap S o hSw e) fun p hp => (hk p (List.mem_of_mem_take hp)).keep (on hm kp)
  intro k
  induction k with
  | zero =>
    intro i s hk' hi hst kp hS hR
    obtain rfl : i = n := by omega
    refine codeAny_builtin PyProof.Rows.F.entry_set_update_loop ?_
    rw [Around.under_plainId PyProof.Rows.F.plain_set_update_loop _]
    show wpAny _ A.in1 (pyNext (.ref I) >>= _) _ _ s
    refine wpAny_bind (W.done s _ _ hst fun s' hm => ?_)
    show wpAny _ A.in1 (ret Value.none) _ _ s'
    have q := up hm kp hS
    rw [List.take_of_length_le (Nat.le_of_eq hsz)] at q
    exact wpAny_pure (hR s' (hm.mono hsub) q)
  | succ k ih =>
    intro i s hk' hi hst kp hS hR
    have hlt : i < n := by omega
    refine codeAny_builtin PyProof.Rows.F.entry_set_update_loop ?_
    rw [Around.under_plainId PyProof.Rows.F.plain_set_update_loop _]
    show wpAny _ A.in1 (pyNext (.ref I) >>= _) _ _ s
    refine wpAny_bind (W.item i s _ _ hlt hst fun v s' hP hst' hm => ?_)
    obtain ⟨p, hp, rfl⟩ := hval i v hP
    obtain ⟨L, ⟨es, ep, t, o, Rk⟩, g⟩ := up hm kp hS
    have kp' := on hm kp
    have hx : KyAt P w s'.heap p.1 p.2 := (hk p (List.mem_of_getElem? hp)).keep kp'
    show wpAny _ A.in1 (holding [Value.ref p.1] (setAdd S (.ref p.1)) >>= _) _ _ s'
    refine wpAny_bind (wpAny_holding ?_)
    unfold setAdd
    refine wpAny_holding (wpAny_bind (wpAny_pyHash_tuple hu hx ?_))
    have few : L.length + 1 ≤ 70 := by
      have z := nodup_sub (L.map (·.2)) (setA (ks.map (·.2))) Rk.nd fun x hx => by
        obtain ⟨q, hq, eq⟩ := List.mem_map.mp hx
        exact mem_setA.mpr (List.mem_map.mpr ⟨q, List.mem_of_mem_take (g.sub q hq), eq⟩)
      rw [List.length_map] at z
      omega
    refine addK (s := { s' with toks := s'.toks + (p.2.length + 1) }) Rk hx hu few fun b hq L' sb K2 c1 c2 => ?_
    have t2 : ks.take (i + 1) = ks.take i ++ [p] := by rw [List.take_succ, hp]; rfl
    have S2 : SetK P w hq S (ks.take (i + 1)) := ⟨L', K2, by rw [t2]; exact g.more c1 c2⟩
    have kp2 : ∀ b o, h0.get? b = some o → hq.get? b = some o := fun b o e => (sb.2 b fun z => by rw [z, hS0] at e; cases e).trans (kp' b o e)
    refine wpAny_pure ⟨plainId_quiet PyProof.Rows.F.plain_set_update_loop _, ih (i + 1) _ (by omega) hlt (W.frame _ s' _ _ hst' (Nat.le_add_right _ _) fun b hb o e => ?_) kp2 S2 fun s'' hm'' hS'' => ?_⟩
    · rw [sb.2 b (fun h : b = S => hSf (by rw [← h]; exact hb))]; exact e
    · refine hR s'' (Moved.trans W.gtrans ((hm.mono hsub).then_heap (Nat.le_add_right _ _) fun b o hb e => ?_) hm'') hS''
      rw [sb.2 b (fun h : b = S => hb (by rw [h]; exact List.mem_cons_self))]; exact e
end
/-- an iterator over tuples of keys, made ahead of nothing -/
structure ItK (P : Program) (w : World) (s s2 : Shared) (I S : Addr) (ks : List (Addr × List Key)) : Prop where
  keep : ∀ b o, s.heap.get? b = some o → s2.heap.get? b = some o
  gens : s2.gens = s.gens
  drawn : s2.drawn = s.drawn
  os : s2.os = s.os
  new : s.heap.objs.size ≤ I
  go : ∃ fp St Pv, S ∉ fp ∧ (∀ A' : Around, A'.handled = none → Walks P w A' I fp [I] ks.length Pv St) ∧ (∀ i v, Pv i v → ∃ p, ks[i]? = some p ∧ v = .ref p.1) ∧ St 0 s2.heap
section
variable {P : Program} {w : World} {A : Around} {E : Value → Shared → Prop} {s : Shared}
theorem updK {u : Value} {T : String} {S : Addr} {ks : List (Addr × List Key)} {A : Around} {s : Shared} {Q : Unit → Shared → Prop} (hh : A.handled = none) (hT : s.TypeIs u T) (h1 : isSubtype (.type T) (.type "set") = pure false) (h2 : isSubtype (.type T) (.type "frozenset") = pure false) (h3 : (Value.type T == Value.type "dict") = false)
    (hit : ∀ (A' : Around) (Q' : Value → Shared → Prop), A'.handled = none → (∀ s2 I, ItK P w s s2 I S ks → Q' (.ref I) s2) → wpAny (model P w) A' (pyIter u) Q' E s)
    (hs : SetK P w s.heap S []) (hb : (setA (ks.map (·.2))).length ≤ 69) (hu : A.in1.units < cLine) (hlt : S < s.heap.objs.size) (h0 : Heap) (hk : ∀ p ∈ ks, KyAt P w h0 p.1 p.2) (hS0 : h0.get? S = none) (k0 : ∀ b o, h0.get? b = some o → s.heap.get? b = some o)
    (hQ : ∀ hp tk, SetK P w hp S ks → (∀ b o, b ≠ S → s.heap.get? b = some o → hp.get? b = some o) → Q () { s with heap := hp, toks := tk }) :
    wpAny (model P w) A (Builtin.Frozenset.updateFrom "set.__init__" S u) Q E s := by
  unfold Builtin.Frozenset.updateFrom
  refine wpAny_bind (m := Builtin.Frozenset.isAnySet u) ?_
  unfold Builtin.Frozenset.isAnySet
  have hd : ∀ {Q' : Bool → Shared → Prop} {n : String} (hn : isSubtype (.type T) (.type n) = pure false), Q' false s → wpAny (model P w) A (isInstance u (.type n)) Q' E s := fun hn q => wpAny_isInstance hT hn q
  unfold orM
  refine wpAny_bind (hd h1 ?_)
  refine hd h2 ?_
  refine wpAny_bind (wpAny_typeOf hT ?_)
  rw [h3]
  show wpAny (model P w) A (pyIter u >>= _) _ _ _
  refine wpAny_bind (hit A _ hh fun s2 I it => ?_)
  obtain ⟨fp, St, Pv, hSf, hW, hval, hst⟩ := it.go
  refine wpAny_bind (wpAny_runValue ?_)
  have k2 : ∀ b o, h0.get? b = some o → s2.heap.get? b = some o := fun b o e => it.keep b o (k0 b o e)
  have hs2 : SetK P w s2.heap S (ks.take 0) := hs.keep (fun o e => it.keep S o e) fun p hp => by cases hp
  have hw0 : ∀ b ∈ [I], h0.get? b = none := fun b hb => by
    rw [List.mem_singleton.mp hb]
    cases q : h0.get? I with
    | none => rfl
    | some o => exact absurd (Nat.lt_of_lt_of_le (Heap.lt_size (k0 I o q)) it.new) (Nat.lt_irrefl _)
  refine loopK ((hW A.in1 hh).toS) S hSf ks rfl hb hu hval h0 hk hS0 hw0 ks.length 0 s2 (by omega) (Nat.zero_le _) hst k2 hs2 fun s' hm hS' => ?_
  obtain ⟨hp, g', d', tk', os'⟩ := s'
  have eg : g' = s.gens := Eq.trans hm.gens it.gens
  have ed : d' = s.drawn := Eq.trans hm.drawn it.drawn
  have eo : os' = s.os := Eq.trans hm.os it.os
  subst eg; subst ed; subst eo
  refine wpAny_pure (hQ hp tk' hS' fun b o hb e => ?_)
  have hbI : b ≠ I := fun z => Nat.lt_irrefl _ (Nat.lt_of_lt_of_le (Heap.lt_size e) (z ▸ it.new))
  refine hm.heap b o (fun z => ?_) (it.keep b o e)
  rcases List.mem_cons.mp z with z | z
  · exact hb z
  · exact hbI (List.mem_singleton.mp z)
theorem call_setK {u : Value} {T : String} {ks : List (Addr × List Key)} {Q : Value → Shared → Prop} (hh : A.handled = none) (hT : s.TypeIs u T) (h1 : isSubtype (.type T) (.type "set") = pure false) (h2 : isSubtype (.type T) (.type "frozenset") = pure false) (h3 : (Value.type T == Value.type "dict") = false)
    (hit : ∀ (A' : Around) (E' : Value → Shared → Prop) (s1 : Shared) (Q' : Value → Shared → Prop), A'.handled = none → (∀ b o, s.heap.get? b = some o → s1.heap.get? b = some o) → s.heap.objs.size < s1.heap.objs.size → (∀ s2 I, ItK P w s1 s2 I s.heap.objs.size ks → Q' (.ref I) s2) → wpAny (model P w) A' (pyIter u) Q' E' s1)
    (hb : (setA (ks.map (·.2))).length ≤ 69) (hu : A.units + 3 < cLine) (hk : ∀ p ∈ ks, KyAt P w s.heap p.1 p.2)
    (hQ : ∀ hp tk, SetK P w hp s.heap.objs.size ks → (∀ b o, s.heap.get? b = some o → hp.get? b = some o) → Q (.ref s.heap.objs.size) { s with heap := hp, toks := tk }) :
    wpAny (model P w) A (call (.type "set") [u]) Q E s := by
  obtain ⟨c, tl, hmro⟩ := PySem.F.called_set.mro
  have hmade := PySem.F.called_set.made
  have hsub := PySem.F.called_set.sub
  refine wpAny_call (codeAny_of_tree ?_)
  show wpAny _ _ (callAny (.type "set") _) _ _ _
  refine wpAny_pure ⟨Code.quiet_builtin _ (by decide +kernel), codeAny_builtin PySem.F.entry_type_call ?_⟩
  rw [Around.under_plain (weight_type_call_type "set" [u] []) rfl]
  have g1 := PySem.F.called_set.notType
  have g2 := PySem.F.called_set.canCreate
  have hct := PySem.F.typeCall_set_1 u
  repeat (any_goals (first | assumption | wp_step))
  refine codeAny_mono (code_led1 u (E := E) (Q1 := fun obj s1 => obj = .ref s.heap.objs.size ∧ s1 = { s with heap := s.heap.push (mtSet w) }) ⟨rfl, rfl⟩) fun r s1 hr => ?_
  cases r with
  | error e => exact hr
  | ok fl =>
    cases fl with
    | ret obj =>
      obtain ⟨rfl, rfl⟩ := hr
      have hS : (s.heap.push (mtSet w)).get? s.heap.objs.size = some (mtSet w) := Heap.get?_push_size _ rfl
      have hTs : Shared.TypeIs { s with heap := s.heap.push (mtSet w) } (.ref s.heap.objs.size) "set" := ⟨_, hS, rfl⟩
      have hTu : Shared.TypeIs { s with heap := s.heap.push (mtSet w) } u T := by
        cases u
        all_goals first
          | exact hT
          | exact (let ⟨o, e, c⟩ := hT; ⟨o, Heap.get?_push_of_some _ e, c⟩)
      have hli := PySem.F.called_set.init.lookup
      have hbi := PySem.F.called_set.init.bind (.ref s.heap.objs.size)
      repeat (any_goals (first | assumption | wp_step))
      refine codeAny_mono (codeAny_call_builtin (R := wants (fun r s2 => r = .none ∧ Q (.ref s.heap.objs.size) s2) E) PySem.F.called_set.init.plain PySem.F.entry_set_init (check_set_init_1 hTs ?_)) fun r2 s2 hr2 => ?_
      · unfold Builtin.«set.__init__» noKeywords
        generalize hU : Builtin.Frozenset.updateFrom = U
        wp_walk
        subst hU
        have hS0 : s.heap.get? s.heap.objs.size = none := by
          cases q : s.heap.get? s.heap.objs.size with
          | none => rfl
          | some o => exact absurd (Heap.lt_size q) (Nat.lt_irrefl _)
        refine updK (s := { s with heap := s.heap.push (mtSet w) }) hh hTu h1 h2 h3 (fun A' Q' hA' q => hit A' _ _ Q' hA' (fun b o e => Heap.get?_push_of_some _ e) (by show _ < (s.heap.push (mtSet w)).objs.size; rw [Heap.size_push]; exact Nat.lt_succ_self _) q) (setK_fresh w) hb hu (by show _ < (s.heap.push (mtSet w)).objs.size; rw [Heap.size_push]; exact Nat.lt_succ_self _) s.heap hk hS0 (fun b o e => Heap.get?_push_of_some _ e) fun hp tk r k => ?_
        wp_walk
        exact ⟨rfl, hQ hp tk r fun b o e => k b o (fun z => Nat.lt_irrefl _ (z ▸ Heap.lt_size e)) (Heap.get?_push_of_some _ e)⟩
      · cases r2 with
        | error e => exact hr2
        | ok fl2 =>
          cases fl2 with
          | ret r =>
            obtain ⟨rfl, hq⟩ := hr2
            repeat (any_goals (first | assumption | wp_step))
          | _ => exact hr2.elim
    | _ => exact hr.elim
end
end DL

set_option Elab.async false
set_option linter.all false
set_option maxRecDepth 100000
set_option maxHeartbeats 4000000
namespace DL
open PySem PySem.Spec PyProof.Rows L2
/-! ### len(set(e)), e a list of tuples of keys -/
theorem once_len {ks L : List (Addr × List Key)} (g : Once ks L) (nd : (L.map (·.2)).Nodup) : L.length = (setA (ks.map (·.2))).length := by
  have pm : (L.map (·.2)).Perm (setA (ks.map (·.2))) := (List.perm_ext_iff_of_nodup nd (nodup_setA _)).mpr fun k => by
    rw [mem_setA]
    constructor
    · intro h
      obtain ⟨p, hp, e⟩ := List.mem_map.mp h
      exact List.mem_map.mpr ⟨p, g.sub p hp, e⟩
    · intro h
      obtain ⟨p, hp, e⟩ := List.mem_map.mp h
      rw [← e]; exact g.cov p hp
  have z := pm.length_eq
  rw [List.length_map] at z
  exact z
def Sized (h : Heap) (a : Addr) (n : Nat) : Prop := ∃ es ep t o, h.get? a = some o ∧ o.ExactSet ∧ o.data = .set es ep t ∧ t.fits es.size = true ∧ es.size = n ∧ n ≤ 70
def LenO (a : Addr) (n : Nat) : HO := .ext fun h => Sized h a n
theorem Sized.keep {h h' : Heap} {a : Addr} {n : Nat} (p : Sized h a n) (k : ∀ o, h.get? a = some o → h'.get? a = some o) : Sized h' a n :=
  let ⟨es, ep, t, o, e, r⟩ := p
  ⟨es, ep, t, o, k o e, r⟩
theorem lenO_ok {P : Program} {w : World} {H : Hp} {h : Heap} {a : Addr} {n : Nat} (R : Sized h a n) : ObjOk P w H h a (LenO a n) :=
  ⟨R, let ⟨_, _, _, o, r⟩ := R; ⟨o, r.1⟩, fun _ _ p k => Sized.keep p k⟩
theorem refsK : ∀ {ks : List (Addr × List Key)} {us : List Value}, Vals (ks.map fun p => V.ref p.1) us → us = ks.map fun p => Value.ref p.1
  | [], _, .nil => rfl
  | p :: ks, _, .cons r t => by
    cases r
    rw [refsK t]; rfl
def rSetK (K : Fg) : List V → Hp → VK → Prop := fun vs H Q => ∃ (l : Addr) (ks : List (Addr × List Key)), vs = [V.ref l] ∧ SqL K H l (ks.map fun p => V.ref p.1) ∧ (∀ p ∈ ks, SqT K H p.1 (p.2.map kV)) ∧ (setA (ks.map (·.2))).length ≤ 69 ∧
  ∀ p, H p = none → Q (.ref p) (upd H p (LenO p (setA (ks.map (·.2))).length))
section
variable {X : Cx}
theorem cr_setK (hc : X.calm = true) (hu : X.A.units + 64 < cLine) : CallR X (.type "set") (rSetK X.K) := by
  intro pins s σ H vs us Q I r h
  obtain ⟨a, ks, rfl, hs, hk, hb, q⟩ := h
  obtain ⟨its, rv, hl, _⟩ := I.list hs
  rw [Vals.ref1 r]
  have ei : its = ks.map fun p => Value.ref p.1 := refsK rv
  have hl0 : s.heap.IsList a its.toArray := hl.isList
  have hn : its.length = ks.length := by rw [ei, List.length_map]
  have ky : ∀ p ∈ ks, KyAt X.prog X.w s.heap p.1 p.2 := fun p hp => by
    obtain ⟨us, r, ⟨o, ho, hc, n, hd⟩, _⟩ := I.tuple (hk p hp)
    exact ⟨o, us.toArray, n, ho, hc, hd, by simpa using items_are r⟩
  refine call_setK (T := "list") (ks := ks) (I.ok.hd hc) hl0.typeIs PySem.F.sub_list_set PySem.F.sub_list_frozenset (by decide) (fun A' E' s1 Q' hA' k hlt q' => ?_) hb (by omega) ky fun hp tk R k => ?_
  · have hl1 : s1.heap.IsList a its.toArray := let ⟨o, e, r⟩ := hl0; ⟨o, k _ _ e, r⟩
    have haS : a < s.heap.objs.size := by
      obtain ⟨o, e, _⟩ := hl0
      exact Heap.lt_size e
    have hne : a ≠ s1.heap.objs.size := Nat.ne_of_lt (Nat.lt_trans haS hlt)
    refine wpAny_pyIter_list hl1 (q' _ _ ⟨fun b o e => Heap.get?_push_of_some _ e, rfl, rfl, rfl, Nat.le_refl _, ?_⟩)
    have hsz : its.toArray.size = ks.length := by rw [List.size_toArray, hn]
    refine ⟨[s1.heap.objs.size, a], _, _, ?_, fun A2 hA2 => hsz ▸ Walks.list hA2 s1.heap.objs.size a hne its.toArray, fun i v e => ?_, ⟨_, Heap.get?_push_size _ rfl, rfl, rfl⟩, hl1.push _⟩
    · simp only [List.mem_cons, List.not_mem_nil, or_false, not_or]
      exact ⟨Nat.ne_of_lt hlt, Nat.ne_of_gt haS⟩
    · have z : its[i]? = some v := by simpa using e
      rw [ei, List.getElem?_map] at z
      cases y : ks[i]? with
      | none => rw [y] at z; cases z
      | some p => rw [y] at z; exact ⟨p, rfl, (Option.some.inj z).symm⟩
  · obtain ⟨L, ⟨es, ep, t, o, R⟩, g⟩ := R
    have e := once_len g R.nd
    have S : Sized hp s.heap.objs.size (setA (ks.map (·.2))).length := ⟨es, ep, t, o, R.at0, R.ex, R.dt, R.fit, R.len.trans e, by rw [← e]; exact R.few⟩
    exact ⟨.ref _, upd H s.heap.objs.size (LenO s.heap.objs.size _), I.laid k (Nat.le_refl _) (lenO_ok S), rfl, q _ (I.hok.fresh (Nat.le_refl _))⟩
def rLenK : List V → Hp → VK → Prop := fun vs H Q => ∃ a n, vs = [.ref a] ∧ H a = some (LenO a n) ∧ Q (.int n) H
theorem cr_lenK : CallR X (.builtin "len") rLenK := by
  intro pins s σ H vs us Q I r h
  obtain ⟨a, n, rfl, ha, q⟩ := h
  rw [Vals.ref1 r]
  obtain ⟨es, ep, t, o, e1, e2, e3, e4, e5, e6⟩ : Sized s.heap a n := (I.hok a _ ha).1
  refine PySem.call_len_set e1 e2 e3 e4 (by omega) ⟨.int _, H, I.tok _, ⟨_, rfl⟩, ?_⟩
  rw [e5]
  exact q
end
end DL

set_option Elab.async false
set_option linter.all false
set_option maxRecDepth 100000
set_option maxHeartbeats 4000000
namespace DL
open PySem PySem.Spec PyProof.Rows L2
/-! ### len(set(e)), e a list of tuples of keys: the reading -/
def tupK : D → Option (List Key)
  | .tup ds => keysD ds
  | _ => none
def tupsK : List D → Option (List (List Key))
  | [] => some []
  | d :: r => match tupK d, tupsK r with | some k, some ks => some (k :: ks) | _, _ => none
def lstK : D → Option (List (List Key))
  | .lst ds => tupsK ds
  | _ => none
def dLenSetK (te : DTE) : DTE := fun ds M P => te ds M fun d M1 => match lstK d with | some ks => (setA ks).length ≤ 69 ∧ P (.int (setA ks).length) M1 | none => False
theorem tupK_rp {K : Fg} {A : Mem} {H : Hp} {d : D} {v : V} {k : List Key} (e : tupK d = some k) (r : Rp K A H v d) : ∃ a, v = .ref a ∧ SqT K H a (k.map kV) := by
  cases r with
  | tup hs hl =>
    simp only [tupK] at e
    have q := keysD_rp e hl
    subst q
    exact ⟨_, rfl, hs⟩
  | _ => simp [tupK] at e
theorem tupsK_rp {K : Fg} {A : Mem} {H : Hp} : ∀ {ds : List D} {vs : List V} {ks : List (List Key)}, tupsK ds = some ks → RpL K A H vs ds → ∃ l : List (Addr × List Key), vs = l.map (fun p => V.ref p.1) ∧ (∀ p ∈ l, SqT K H p.1 (p.2.map kV)) ∧ l.map (·.2) = ks
  | [], _, _, e, .nil => by cases e; exact ⟨[], rfl, (fun p hp => nomatch hp), rfl⟩
  | d :: r, _, _, e, .cons h1 h2 => by
    unfold tupsK at e
    cases q : tupK d with
    | none => rw [q] at e; cases e
    | some k =>
      cases q2 : tupsK r with
      | none => rw [q, q2] at e; cases e
      | some l =>
        rw [q, q2] at e
        cases e
        obtain ⟨a, e1, e2⟩ := tupK_rp q h1
        obtain ⟨l2, f1, f2, f3⟩ := tupsK_rp q2 h2
        refine ⟨(a, k) :: l2, by rw [List.map_cons, ← f1, e1], fun p hp => ?_, by rw [List.map_cons, f3]⟩
        rcases List.mem_cons.mp hp with z | z
        · rw [z]; exact e2
        · exact f2 p z
section
variable {X : Cx} {c : DC} {x y : Str} {p pos p2 pos2 : Pos} {e : Expr} {te : DTE}
theorem set_preK {M F : Mem} {d : D} {v : V} {H : Hp} {ks : List (List Key)} {Q : VK} (rp : Rp X.K (mj M F) H v d) (ex : lstK d = some ks) (hb : (setA ks).length ≤ 69) (q : ∀ p, H p = none → Q (.ref p) (upd H p (LenO p (setA ks).length))) : rSetK X.K [v] H Q := by
  cases rp with
  | lst hs hn hl =>
    simp only [lstK] at ex
    obtain ⟨l, f1, f2, f3⟩ := tupsK_rp ex hl
    subst f1
    refine ⟨_, l, rfl, .of hs, f2, by rw [f3]; exact hb, ?_⟩
    rw [f3]
    exact q
  | _ => simp [lstK] at ex
theorem d_lenSetK (hc : X.calm = true) (hu : X.A.units + 64 < cLine) (he : DE X c e te) (hg : Gl X x) (hm : X.mg x = none) (hv : bootBuiltins x = some (.builtin "len")) (hg2 : Gl X y) (hm2 : X.mg y = none) (hv2 : bootBuiltins y = some (.type "set"))
    (hn : x ≠ "__name__" := by decide) (hdb : (x == ("__debug__" : Str)) = false := by decide) (hn2 : y ≠ "__name__" := by decide) (hdb2 : (y == ("__debug__" : Str)) = false := by decide)
    (na : starEach [Expr.Call (.Name y p2) [e] [] pos2] X.env = (false, eval (.Call (.Name y p2) [e] [] pos2) X.env) :: starEach [] X.env := by rfl) (na2 : starEach [e] X.env = (false, eval e X.env) :: starEach [] X.env := by rfl) :
    DE X c (.Call (.Name x p) [.Call (.Name y p2) [e] [] pos2] [] pos) (dLenSetK te) :=
  (pe_callB cr_lenK hg hm hv (pa_cons (pe_callTy (cr_setK hc hu) hg2 hm2 hv2 (pa_cons he pa_nil na2) hn2 hdb2 na2 (by rfl)) pa_nil na) hn hdb na (by rfl)).imp fun σ H Q ⟨ds, M, F, P, at', ht, fin⟩ => by
    refine ⟨ds, M, F, _, at', ht, fun d M1 v H1 q dj ev mo rp => ?_⟩
    split at q
    · rename_i ks ex
      show rSetK X.K [v] H1 fun z H2 => rLenK [z] H2 Q
      refine set_preK rp ex q.1 fun p1 n1 => ?_
      refine ⟨p1, (setA ks).length, rfl, upd_same, ?_⟩
      exact (fin.ev (ev.trans (Ev.new n1))).val dj (mo.new n1) q.2 (.int _)
    · exact q.elim
end
end DL

set_option Elab.async false
set_option linter.all false
set_option maxRecDepth 100000
set_option maxHeartbeats 4000000
namespace DL
open PySem PySem.Spec PyProof.Rows L2
/-! ### x += e, both whole numbers -/
def dAugI (i : Nat) (te : DTE) : DTS := fun W ds M => match ds[i]? with
  | some (some (.int x)) => te ds M fun d M1 => match d with
    | .int y => W.nx (ds.set i (some (.int (x + y)))) M1
    | _ => False
  | _ => False
section
variable {X : Cx} {c : DC} {e : Expr} {te : DTE} {pos : Pos}
theorem d_augI {i : Nat} {x : Str} {pos' : Pos} (hN : X.N.Nodup) (hi : X.N[i]? = some x) (hx : Loc X.env.scope x) (he : DE X c e te) (hf : X.fn x = true ∨ X.env.scope.names.lookup x = some .local := by first | exact .inl rfl | exact .inr rfl | assumption) :
    DS X c (.AugAssign (.Name x pos') .Add e pos) (dAugI i te) := (ps_aug hN hi hx he ip_add hf).imp fun W σ H ⟨ds, M, F, DD, at', ht, f⟩ => by
  unfold dAugI at ht
  split at ht
  · rename_i n e1
    obtain ⟨v, e2, r⟩ := at'.sl.2 i _ e1
    cases r
    refine ⟨_, e2, ds, M, F, _, at', ht, fun d M' v H' p dj ev mo rp => ?_⟩
    split at p
    · rename_i y
      cases rp
      exact ⟨_, _, rfl, rfl, f.nx _ M' _ H' p dj ev mo ((at'.sl.kp ev.kpF).set i (.int _))⟩
    · exact p.elim
  · exact ht.elim
end
end DL

set_option Elab.async false
set_option linter.all false
set_option maxRecDepth 100000
set_option maxHeartbeats 4000000
namespace DL
open PySem PySem.Spec PyProof.Rows L2
/-! ### sets of tuples of keys that are kept: their own object, and x in s -/
structure KOwn (P : Program) (w : World) (h : Heap) (a : Addr) (L : List (Addr × List Key)) (es : Array (Int × Value)) (ep : Nat) (t : SetTable) (o : Obj) : Prop where
  at0 : h.get? a = some o
  ex : o.ExactSet
  dt : o.data = .set es ep t
  rows : es.toList = L.map fun p => (kyH P w p.2, Value.ref p.1)
  tab : TabOk t (L.map fun p => kyH P w p.2)
  nd : (L.map (·.2)).Nodup
  led : w.params.followText "set-order" = true ∨ t.led = true
  room : L.length * 5 < t.mask * 3
  few : L.length ≤ 70
theorem KSet.own {P : Program} {w : World} {h : Heap} {a : Addr} {L : List (Addr × List Key)} {es : Array (Int × Value)} {ep : Nat} {t : SetTable} {o : Obj} (R : KSet P w h a L es ep t o) : KOwn P w h a L es ep t o := ⟨R.at0, R.ex, R.dt, R.rows, R.tab, R.nd, R.led, R.room, R.few⟩
theorem KOwn.set {P : Program} {w : World} {h : Heap} {a : Addr} {L : List (Addr × List Key)} {es : Array (Int × Value)} {ep : Nat} {t : SetTable} {o : Obj} (R : KOwn P w h a L es ep t o) (all : ∀ p ∈ L, KyAt P w h p.1 p.2) : KSet P w h a L es ep t o := ⟨R.at0, R.ex, R.dt, R.rows, R.tab, R.nd, all, R.led, R.room, R.few⟩
def OwnP (P : Program) (w : World) (a : Addr) (L : List (Addr × List Key)) : Heap → Prop := fun h => ∃ es ep t o, KOwn P w h a L es ep t o
theorem OwnP.keep {P : Program} {w : World} {a : Addr} {L : List (Addr × List Key)} {h h' : Heap} (p : OwnP P w a L h) (k : ∀ o, h.get? a = some o → h'.get? a = some o) : OwnP P w a L h' :=
  let ⟨es, ep, t, o, R⟩ := p
  ⟨es, ep, t, o, { R with at0 := k o R.at0 }⟩
theorem ownP_ok {P : Program} {w : World} {H : Hp} {h : Heap} {a : Addr} {L : List (Addr × List Key)} (R : OwnP P w a L h) : ObjOk P w H h a (.ext (OwnP P w a L)) :=
  ⟨R, let ⟨_, _, _, o, r⟩ := R; ⟨o, r.at0⟩, fun _ _ p k => OwnP.keep p k⟩
section
variable {P : Program} {w : World} {A : Around} {E : Value → Shared → Prop} {s : Shared} {a : Addr} {L : List (Addr × List Key)} {es : Array (Int × Value)} {ep : Nat} {t : SetTable} {o : Obj}
def hasKs (l : List (List Key)) (k : List Key) : Bool := l.any fun x => decide (x = k)
theorem hasKs_iff {l : List (List Key)} {k : List Key} : hasKs l k = true ↔ k ∈ l := by
  unfold hasKs
  rw [List.any_eq_true]
  exact ⟨fun ⟨x, hx, e⟩ => by rw [← of_decide_eq_true e]; exact hx, fun h => ⟨k, h, decide_eq_true rfl⟩⟩
theorem findK (R : KSet P w s.heap a L es ep t o) {x : Addr} {k : List Key} (hx : KyAt P w s.heap x k) (hu : A.units < cLine) {Q : Option Nat → Shared → Prop}
    (q : ∀ r : Option Nat, r.isSome = hasKs (L.map (·.2)) k → Q r s) : wpAny (model P w) A (setFind a (.ref x) (kyH P w k)) Q E s := by
  have n1 := R.len
  have room := R.room
  obtain ⟨K, k1, k2, k3⟩ := R.tab.first (by rw [List.length_map]; omega) (kyH P w k)
  have big : K < 100000 := by
    have z : 10 * SetTable.turns t.mask ≤ 1420 := by
      unfold SetTable.turns
      rcases R.tab.mok with e | e | e <;> omega
    omega
  have late : ∀ (i : Nat) (p : Addr × List Key), L[i]? = some p → p.2 = k → ∃ d, 0 ≤ d ∧ d < K ∧ t.place.toList[i]? = some (way t.mask (kyH P w k) d) := fun i p e1 e2 => by
    have hi : (L.map fun p => kyH P w p.2)[i]? = some (kyH P w k) := by rw [List.getElem?_map, e1, ← e2]; rfl
    have il : i < t.place.toList.length := by
      have y := (List.getElem?_eq_some_iff.mp e1).1
      have z := R.tab.sz
      rw [List.length_map] at z
      rw [Array.length_toList]
      omega
    obtain ⟨d, d1, d2⟩ := R.tab.before k2 hi (List.getElem?_eq_getElem il)
    exact ⟨d, Nat.zero_le _, d1, by rw [List.getElem?_eq_getElem il, d2]⟩
  unfold setFind setFindIn
  refine wpAny_bind (wpAny_setState_of R.at0 R.dt R.fit ?_)
  dsimp only
  refine wp_if_neg (by simp [byScan, Value.scannable]) ?_
  try refine wpAny_bind (wpAny_pure ?_)
  refine wpAny_bind ?_
  unfold setSearch
  refine seek R hx hu k1 k2 k3 (fun m r hr => ?_) (fun m => ?_) 100000 0 none rfl (Nat.zero_le _) (by omega) late
  · dsimp only
    refine wpAny_pure (q r ?_)
    rw [hasKs_iff.mpr m]
    exact hr rfl
  · dsimp only
    refine wpAny_pure (q none ?_)
    cases z : hasKs (L.map (·.2)) k with
    | false => rfl
    | true => exact absurd (hasKs_iff.mp z) m
theorem containsK {x : Addr} {k : List Key} {Q : Bool → Shared → Prop} (R : KSet P w s.heap a L es ep t o) (hx : KyAt P w s.heap x k) (hu : A.units + 4 < cLine) (h : ∀ tk, Q (hasKs (L.map (·.2)) k) { s with toks := tk }) :
    wpAny (model P w) A (contains (.ref a) (.ref x)) Q E s := by
  have hT : s.TypeIs (.ref a) "set" := ⟨_, R.at0, R.ex.1⟩
  unfold contains
  first | refine wpAny_holding (wpAny_bind (wpAny_specialOf hT PySem.F.slot_set_contains.lookup ?_)) | refine wpAny_bind (wpAny_specialOf hT PySem.F.slot_set_contains.lookup ?_)
  show wpAny _ _ (if (some (Value.builtin "set.__contains__") == some Value.none) = true then _ else _) _ E s
  refine wp_if_neg (by rw [beq_builtin_none]; exact Bool.false_ne_true) ?_
  refine wpAny_bind (wpAny_callSpecialUnlessNone?_slot (name := Str.ofString "__contains__") hT PySem.F.slot_set_contains (wpAny_call_entry PySem.F.slot_set_contains hT entry_set_contains ?_ (PySem.F.args_set_contains_2 _ _)))
  unfold Builtin.«frozenset.__contains__» Builtin.Frozenset.oneOther
  simp only [List.isEmpty_nil, bind_assoc]
  unfold Builtin.Frozenset.addrOf Builtin.Frozenset.withSetAsKey setContains
  refine wpAny_bind (wpAny_pure ?_); try dsimp only
  refine wpAny_bind (wpAny_pure ?_); try dsimp only
  refine wpAny_bind (wpAny_tryCatch (wpAny_holding (wpAny_bind (wpAny_pyHash_tuple (by first | exact hu | omega | (simp; omega)) hx (wpAny_bind ?_)))))
  refine findK (s := { s with toks := s.toks + (k.length + 1) }) R hx (by first | omega | (simp; omega)) fun r hr => wpAny_pure ?_
  show wpAny _ _ (ret (Value.bool r.isSome)) _ _ _
  rw [hr]
  exact wpAny_pure ⟨_, rfl, wpAny_truthy_bool (h _)⟩
end
/-- set(..) that is kept -/
def rSetP (X : Cx) : List V → Hp → VK → Prop := fun vs H Q => ∃ (l : Addr) (ks : List (Addr × List Key)), vs = [V.ref l] ∧ SqL X.K H l (ks.map fun p => V.ref p.1) ∧ (∀ p ∈ ks, SqT X.K H p.1 (p.2.map kV)) ∧ (setA (ks.map (·.2))).length ≤ 69 ∧
  ∀ p L, H p = none → Once ks L → Q (.ref p) (upd H p (.ext (OwnP X.prog X.w p L)))
/-- x in s, x not in s -/
def rInP (X : Cx) (neg : Bool) : R2 := fun x y H Q => ∃ b a k L, x = .ref b ∧ y = .ref a ∧ SqT X.K H b (k.map kV) ∧ H a = some (.ext (OwnP X.prog X.w a L)) ∧ (∀ p ∈ L, SqT X.K H p.1 (p.2.map kV)) ∧ Q (.bl (neg != hasKs (L.map (·.2)) k)) H
section
variable {X : Cx}
theorem cr_setP (hc : X.calm = true) (hu : X.A.units + 64 < cLine) : CallR X (.type "set") (rSetP X) := by
  intro pins s σ H vs us Q I r h
  obtain ⟨a, ks, rfl, hs, hk, hb, q⟩ := h
  obtain ⟨its, rv, hl, _⟩ := I.list hs
  rw [Vals.ref1 r]
  have ei : its = ks.map fun p => Value.ref p.1 := refsK rv
  have hl0 : s.heap.IsList a its.toArray := hl.isList
  have hn : its.length = ks.length := by rw [ei, List.length_map]
  have ky : ∀ p ∈ ks, KyAt X.prog X.w s.heap p.1 p.2 := fun p hp => by
    obtain ⟨us, r, ⟨o, ho, hc, n, hd⟩, _⟩ := I.tuple (hk p hp)
    exact ⟨o, us.toArray, n, ho, hc, hd, by simpa using items_are r⟩
  refine call_setK (T := "list") (ks := ks) (I.ok.hd hc) hl0.typeIs PySem.F.sub_list_set PySem.F.sub_list_frozenset (by decide) (fun A' E' s1 Q' hA' k hlt q' => ?_) hb (by omega) ky fun hp tk R k => ?_
  · have hl1 : s1.heap.IsList a its.toArray := let ⟨o, e, r⟩ := hl0; ⟨o, k _ _ e, r⟩
    have haS : a < s.heap.objs.size := by
      obtain ⟨o, e, _⟩ := hl0
      exact Heap.lt_size e
    have hne : a ≠ s1.heap.objs.size := Nat.ne_of_lt (Nat.lt_trans haS hlt)
    refine wpAny_pyIter_list hl1 (q' _ _ ⟨fun b o e => Heap.get?_push_of_some _ e, rfl, rfl, rfl, Nat.le_refl _, ?_⟩)
    have hsz : its.toArray.size = ks.length := by rw [List.size_toArray, hn]
    refine ⟨[s1.heap.objs.size, a], _, _, ?_, fun A2 hA2 => hsz ▸ Walks.list hA2 s1.heap.objs.size a hne its.toArray, fun i v e => ?_, ⟨_, Heap.get?_push_size _ rfl, rfl, rfl⟩, hl1.push _⟩
    · simp only [List.mem_cons, List.not_mem_nil, or_false, not_or]
      exact ⟨Nat.ne_of_lt hlt, Nat.ne_of_gt haS⟩
    · have z : its[i]? = some v := by simpa using e
      rw [ei, List.getElem?_map] at z
      cases y : ks[i]? with
      | none => rw [y] at z; cases z
      | some p => rw [y] at z; exact ⟨p, rfl, (Option.some.inj z).symm⟩
  · obtain ⟨L, ⟨es, ep, t, o, R⟩, g⟩ := R
    exact ⟨.ref _, upd H s.heap.objs.size (.ext (OwnP X.prog X.w s.heap.objs.size L)), I.laid k (Nat.le_refl _) (ownP_ok ⟨es, ep, t, o, R.own⟩), rfl, q _ L (I.hok.fresh (Nat.le_refl _)) g⟩
theorem inP_core {b a : Addr} {k : List Key} {L : List (Addr × List Key)} (hu : X.A.units + 64 < cLine) {pins : List (Addr × Obj)} {s : Shared} {σ : L2.St} {H : Hp} {Q : Bool → Shared → Prop} {E : Value → Shared → Prop} (I : L2.Inv X pins σ H s)
    (hb : SqT X.K H b (k.map kV)) (ha : H a = some (.ext (OwnP X.prog X.w a L))) (hk : ∀ p ∈ L, SqT X.K H p.1 (p.2.map kV)) (q : ∀ tk, Q (hasKs (L.map (·.2)) k) { s with toks := tk }) : wpAny (model X.prog X.w) X.A (contains (.ref a) (.ref b)) Q E s := by
  have ky : ∀ p : Addr × List Key, SqT X.K H p.1 (p.2.map kV) → KyAt X.prog X.w s.heap p.1 p.2 := fun p hp => by
    obtain ⟨us, r, ⟨o, ho, hc, n, hd⟩, _⟩ := I.tuple hp
    exact ⟨o, us.toArray, n, ho, hc, hd, by simpa using items_are r⟩
  obtain ⟨es, ep, t, o, R⟩ : OwnP X.prog X.w a L s.heap := (I.hok a _ ha).1
  exact containsK (R.set fun p hp => ky p (hk p hp)) (ky (b, k) hb) (by omega) q
theorem op_inP (hu : X.A.units + 64 < cLine) : OpR X (compareOp .In) (rInP X false) := by
  intro pins s σ H x y v u Q I rx ry h
  obtain ⟨b, a, k, L, rfl, rfl, hb, ha, hk, q⟩ := h
  cases rx; cases ry
  show wpAny _ _ (contains (.ref a) (.ref b) >>= fun z => pure (Value.bool z)) _ _ s
  refine wpAny_bind (inP_core hu I hb ha hk fun tk => wpAny_pure ⟨.bl _, H, I.tok _, rfl, ?_⟩)
  simpa using q
theorem op_ninP (hu : X.A.units + 64 < cLine) : OpR X (compareOp .NotIn) (rInP X true) := by
  intro pins s σ H x y v u Q I rx ry h
  obtain ⟨b, a, k, L, rfl, rfl, hb, ha, hk, q⟩ := h
  cases rx; cases ry
  show wpAny _ _ (contains (.ref a) (.ref b) >>= fun z => pure (Value.bool (!z))) _ _ s
  refine wpAny_bind (inP_core hu I hb ha hk fun tk => wpAny_pure ⟨.bl _, H, I.tok _, rfl, ?_⟩)
  simpa using q
end
/-! readings -/
def dSetP (pw : Program × World) (te : DTE) : DTE := fun ds M P => te ds M fun d M1 => match lstK d with
  | some ks => (setA ks).length ≤ 69 ∧ ∀ p L, M1 p = none → (∀ k, k ∈ L.map (·.2) ↔ k ∈ ks) → P (.ref p) (mput M1 p (some (.raw (OwnP pw.1 pw.2 p L) L)))
  | none => False
def gInP (pw : Program × World) (neg : Bool) : DO2 := fun x y M P => match tupK x, y with
  | some k, .ref a => ∃ L, M a = some (.raw (OwnP pw.1 pw.2 a L) L) ∧ P (.bl (neg != hasKs (L.map (·.2)) k)) M
  | _, _ => False
section
variable {X : Cx} {c : DC} {y : Str} {p2 pos2 : Pos} {e : Expr} {te : DTE}
theorem og_inP {neg : Bool} : Op2 X.K (rInP X neg) (gInP (X.prog, X.w) neg) := fun M F x y v w H P Q q dj mo rx ry fin => by
  unfold gInP at q
  split at q
  · rename_i k a ek
    obtain ⟨L, hM, q⟩ := q
    obtain ⟨b, rfl, hb⟩ := tupK_rp ek rx
    cases ry
    obtain ⟨z1, z2⟩ := mo _ _ (mj_l hM)
    exact ⟨b, a, k, L, rfl, rfl, hb, z1, z2, fin.val dj mo q (.bl _)⟩
  · exact q.elim
theorem d_setP (hc : X.calm = true) (hu : X.A.units + 64 < cLine) (he : DE X c e te) (hg2 : Gl X y) (hm2 : X.mg y = none) (hv2 : bootBuiltins y = some (.type "set"))
    (hn2 : y ≠ "__name__" := by decide) (hdb2 : (y == ("__debug__" : Str)) = false := by decide) (na2 : starEach [e] X.env = (false, eval e X.env) :: starEach [] X.env := by rfl) :
    DE X c (.Call (.Name y p2) [e] [] pos2) (dSetP (X.prog, X.w) te) :=
  (pe_callTy (cr_setP hc hu) hg2 hm2 hv2 (pa_cons he pa_nil na2) hn2 hdb2 na2 (by rfl)).imp fun σ H Q ⟨ds, M, F, P, at', ht, fin⟩ => by
    refine ⟨ds, M, F, _, at', ht, fun d M1 v H1 q dj ev mo rp => ?_⟩
    show rSetP X [v] H1 Q
    split at q
    · rename_i ks ex
      cases rp with
      | lst hs hn hl =>
        simp only [lstK] at ex
        obtain ⟨l, f1, f2, f3⟩ := tupsK_rp ex hl
        subst f1
        refine ⟨_, l, rfl, .of hs, f2, by rw [f3]; exact q.1, fun p L n1 g => ?_⟩
        obtain ⟨n2, n3⟩ := mj_none (mo.fresh n1)
        refine fin (.ref p) _ (.ref p) _ (q.2 p L n2 fun k => ?_) (dj_put dj n3) (ev.trans (Ev.newHot n1)) ?_ (.ref p)
        · rw [← f3]
          constructor
          · intro h
            obtain ⟨r, hr, e1⟩ := List.mem_map.mp h
            exact List.mem_map.mpr ⟨r, g.sub r hr, e1⟩
          · intro h
            obtain ⟨r, hr, e1⟩ := List.mem_map.mp h
            rw [← e1]; exact g.cov r hr
        · rw [mj_put]
          refine mo.newHot n1 ⟨upd_same, fun r hr => ?_⟩
          exact (Ev.newHot (M := mj M1 F) (u := .raw (OwnP X.prog X.w p L) L) n1).kp.sqT (f2 r (g.sub r hr))
      | _ => simp [lstK] at ex
    · exact q.elim
end
end DL

set_option Elab.async false
set_option linter.all false
set_option maxRecDepth 100000
set_option maxHeartbeats 4000000
namespace DL
open PySem PySem.Spec PyProof.Rows L2
/-! ### instances of own classes: defs that are reached by their address -/
structure CalR (P : Program) (w : World) (K : Fg) (mg : Str → Option Value) (base : Heap) (k : Nat) (f : Addr) (sp : DSp) : Prop where
  run : FnR P w K mg base (L2N.CX P w) k f (lsp K sp)
theorem CalV.toR {P : Program} {w : World} {K : Fg} {mg : Str → Option Value} {base : Heap} {k : Nat} {f : Addr} {sp : DSp} (h : CalV P w K mg base k f sp) : CalR P w K mg base k f sp := by
  obtain ⟨fd, ps, F, _, b⟩ := h.ex
  exact ⟨(F.raw b .nil).imp fun vs H Q E z => by rw [List.append_nil]; exact z⟩
theorem CalR.mono {P : Program} {w : World} {K : Fg} {mg : Str → Option Value} {base : Heap} {j k : Nat} {f : Addr} {sp : DSp} (h : CalR P w K mg base j f sp) (hk : j ≤ k) : CalR P w K mg base k f sp := ⟨h.run.mono hk⟩
theorem FinX.ev {K : Fg} {M F M1 : Mem} {H H1 : Hp} {PX : DX} {E : XK} (f : FinX K M F H PX E) (e : Ev M H M1 H1) : FinX K M1 F H1 PX E :=
  fun cls fs M' d H' p dj ev mo xr => f cls fs M' d H' p dj (e.trans ev) mo xr
/-- what is left over is a tuple -/
def spStar (n : Nat) (sp : DSp) : DSp := fun ds M P PX => n ≤ ds.length ∧ ds.length ≤ sizeLine ∧ sp (ds.take n ++ [.tup (ds.drop n)]) M P PX
theorem lsp_star {K : Fg} {n : Nat} {sp : DSp} {vs : List V} {H : Hp} {Q : VK} {E : XK} (h : lsp K (spStar n sp) vs H Q E) :
    ∃ ws rest, vs = ws ++ rest ∧ ws.length = n ∧ rest.length ≤ sizeLine ∧ ∀ p, H p = none → lsp K sp (ws ++ [V.ref p]) (upd H p (.tup rest)) Q E := by
  obtain ⟨ds, M, F, P, PX, r, mo, dj, ⟨h1, h2, q⟩, fin, finx⟩ := h
  refine ⟨vs.take n, vs.drop n, (List.take_append_drop n vs).symm, by rw [List.length_take, r.length]; omega, by rw [List.length_drop, r.length]; omega, fun p hp => ?_⟩
  have ev : Ev M H M (upd H p (.tup (vs.drop n))) := Ev.new hp
  refine ⟨_, M, F, P, PX, ?_, mo.new hp, dj, q, fin.ev ev, finx.ev ev⟩
  exact RpL.append (RpL.kp ev.kpF _ (r.take n)) (.cons (.tup (.of upd_same) (RpL.kp ev.kpF _ (r.drop n))) .nil)
/-! ### attributes -/
def dFld (C : Addr) (f : Str) (te : DTE) : DTE := fun ds M P => te ds M fun x M1 => match x with
  | .ref a => (match M1 a with
    | some (.ins C' fs) => C' = C ∧ (match fs.lookup f with | some d => P d M1 | none => False)
    | _ => False)
  | _ => False
def putD' (f : Str) (v : D) : List (Str × D) → List (Str × D)
  | [] => [(f, v)]
  | (g, x) :: r => if g = f then (g, v) :: r else (g, x) :: putD' f v r
theorem kv_lookup {K : Fg} {A : Mem} {H : Hp} {f : Str} : ∀ {vs : List (Str × V)} {fs : List (Str × D)} {d : D}, KvR K A H vs fs → fs.lookup f = some d → ∃ v, vs.lookup f = some v ∧ Rp K A H v d
  | _, _, _, .nil, h => by cases h
  | (g, v) :: vs, (g', x) :: fs, d, .cons ⟨e, r⟩ t, h => by
    have e' : g = g' := e
    subst e'
    rw [List.lookup_cons] at h ⊢
    by_cases q : f == g
    · rw [q] at h ⊢; cases h; exact ⟨v, rfl, r⟩
    · have q' : (f == g) = false := by simpa using q
      rw [q'] at h ⊢
      exact kv_lookup t h
theorem kv_none {K : Fg} {A : Mem} {H : Hp} {f : Str} : ∀ {vs : List (Str × V)} {fs : List (Str × D)}, KvR K A H vs fs → fs.lookup f = none → vs.lookup f = none
  | _, _, .nil, _ => rfl
  | (g, v) :: vs, (g', x) :: fs, .cons ⟨e, r⟩ t, h => by
    have e' : g = g' := e
    subst e'
    rw [List.lookup_cons] at h ⊢
    by_cases q : f == g
    · rw [q] at h; cases h
    · have q' : (f == g) = false := by simpa using q
      rw [q'] at h ⊢
      exact kv_none t h
theorem kv_put {K : Fg} {A : Mem} {H : Hp} {f : Str} {v : V} {d : D} (rv : Rp K A H v d) : ∀ {vs : List (Str × V)} {fs : List (Str × D)}, KvR K A H vs fs → KvR K A H (putF f v vs) (putD' f d fs)
  | _, _, .nil => .cons ⟨rfl, rv⟩ .nil
  | (g, x) :: vs, (g', y) :: fs, .cons ⟨e, r⟩ t => by
    have e' : g = g' := e
    subst e'
    unfold putF putD'
    by_cases q : g = f
    · rw [if_pos q, if_pos q]; exact .cons ⟨rfl, rv⟩ t
    · rw [if_neg q, if_neg q]; exact .cons ⟨rfl, r⟩ (kv_put rv t)
def dSetFld (C : Addr) (f : Str) (to tv : DTE) : DTS := fun W ds M => tv ds M fun y M1 => to ds M1 fun x M2 => match x with
  | .ref a => (match M2 a with
    | some (.ins C' fs) => C' = C ∧ fs.length < 1000 ∧ W.nx ds (mput M2 a (some (.ins C (putD' f y fs))))
    | _ => False)
  | _ => False
section
variable {X : Cx} {c : DC} {o e value : Expr} {f : Str} {te to tv : DTE} {pos pos' apos : Pos} {C : Addr}
theorem d_fld (he : DE X c e te) (cl : Cls X.K C) (n : NoAttr X.K C f) (hb : attributeBase e f X.env (eval e X.env) = eval e X.env := by rfl) : DE X c (.Attribute e f pos) (dFld C f te) :=
  (pe_fld he hb).imp fun σ H Q ⟨ds, M, F, P, at', ht, fin⟩ => by
    refine ⟨ds, M, F, _, at', ht, fun x M1 v H1 q dj ev mo rp => ?_⟩
    split at q
    · rename_i a
      cases rp
      split at q
      · rename_i C' fs hM
        obtain ⟨rfl, q⟩ := q
        obtain ⟨dx, vs, e1, r⟩ := mo a _ (mj_l hM)
        split at q
        · rename_i d hl
          obtain ⟨v, hv, rv⟩ := kv_lookup r hl
          exact ⟨a, _, dx, vs, v, rfl, e1, cl, n, hv, fin d M1 v H1 q dj ev mo rv⟩
        · exact q.elim
      · exact q.elim
    · exact q.elim
theorem d_setFld (ho : DE X c o to) (hv : DE X c value tv) (cl : Cls X.K C) (n : NoAttr X.K C f) (hs : swapsWith value (some (.Attribute o f pos')) pos.line X.env = pure false := by rfl) : DS X c (.Assign [.Attribute o f pos'] value pos) (dSetFld C f to tv) :=
  (ps_fld ho hv hs).imp fun W σ H ⟨ds, M, F, DD, at', ht, fw⟩ => by
    refine ⟨ds, M, F, _, at', ht, fun y M1 v H1 q dj ev mo rp => ?_⟩
    refine ⟨ds, M1, F, _, at'.go dj ev mo, q, fun x M2 u H2 q2 dj2 ev2 mo2 rp2 => ?_⟩
    split at q2
    · rename_i a
      cases rp2
      split at q2
      · rename_i C' fs hM
        obtain ⟨rfl, hl, q2⟩ := q2
        obtain ⟨dx, vs, e1, r⟩ := mo2 a _ (mj_l hM)
        have ry := Rp.ev ev2 y rp
        have hd := mo2.domH (mj_l hM)
        have evw : Ev M2 H2 (mput M2 a (some (.ins C' (putD' f y fs)))) (upd H2 a (.ins C' dx (putF f v vs))) := Ev.write hM hd
        have len : vs.length = fs.length := Paired.length r
        refine ⟨a, C', dx, vs, rfl, e1, cl, n, by rw [len]; exact hl, fw.nx ds _ σ _ q2 (dj_put dj2 (dj_here dj2 hM)) ((ev.trans ev2).trans evw) ?_ ((at'.sl.kp (ev.trans ev2).kpF).kp evw.kpF)⟩
        rw [mj_put]
        refine mo2.write (mj_l hM) (fun ps z => by rw [e1] at z; cases z) ?_
        exact ⟨dx, _, upd_same, KvR.kp (Ev.write (M := mj M2 F) (u' := .ins C' (putD' f y fs)) (mj_l hM) hd).kp (kv_put ry r)⟩
      · exact q2.elim
    · exact q2.elim
end
/-! ### an instance is made -/
def dMake (C : Addr) (sp : DSp) (PX : DX) (t : DTA) : DTE := fun ds M P => t ds M fun xs M1 => ∀ p, M1 p = none → sp (.ref p :: xs) (mput M1 p (some (.ins C []))) (fun r M2 => r = .non ∧ P (.ref p) M2) PX
theorem make_fin {K : Fg} {M F : Mem} {H : Hp} {P : D → Mem → Prop} {Q : VK} {PX : DX} {E : XK} {sp : DSp} {C : Addr} {xs : List D} {vs : List V} (dj : Dj M F) (mo : MemOk K (mj M F) H) (r : RpL K (mj M F) H vs xs) (fin : Fin K M F H P Q) (finx : FinX K M F H PX E)
    (q : ∀ p, M p = none → sp (.ref p :: xs) (mput M p (some (.ins C []))) (fun r M2 => r = .non ∧ P (.ref p) M2) PX) (x dx : Addr) (hx : H x = none) (hd : H dx = none) (ne : dx ≠ x) :
    lsp K sp (V.ref x :: vs) (upd (upd H dx (.own x)) x (.ins C dx [])) (fun v H2 => v = .non ∧ Q (.ref x) H2) E := by
  have hx1 : (upd H dx (.own x)) x = none := by rw [upd_ne (Ne.symm ne)]; exact hx
  obtain ⟨n1, n2⟩ := mj_none (mo.fresh hx)
  have e1 : Ev M H M (upd H dx (.own x)) := Ev.new hd
  have e2 : Ev M (upd H dx (.own x)) (mput M x (some (.ins C []))) (upd (upd H dx (.own x)) x (.ins C dx [])) := Ev.newHot hx1
  have ev := e1.trans e2
  refine ⟨.ref x :: xs, mput M x (some (.ins C [])), F, _, PX, .cons (.ref x) (RpL.kp ev.kpF xs r), ?_, dj_put dj n2, q x n1, ?_, finx.ev ev⟩
  · rw [mj_put]
    exact (mo.new hd).newHot hx1 ⟨dx, [], upd_same, .nil⟩
  · intro d M' v H' ⟨e, p⟩ dj' ev' mo' rp
    subst e
    cases rp
    exact ⟨rfl, fin (.ref x) M' (.ref x) H' p dj' (ev.trans ev') mo' (.ref x)⟩
section
variable {X : Cx} {c : DC} {k j : Nat} {x : Str} {C g : Addr} {sp : DSp} {p pos : Pos} {e : Expr} {es : List Expr} {t : DTA}
/-- C(e, ..), stars too -/
theorem d_make (m : Mk X.K C g) (h : CalR X.prog X.w X.K X.mg X.base k g sp) (hr : Room j X.A) (hk : k + 1 ≤ j) (hg : Gl X x) (hm : X.mg x = some (.ref C)) (tk : L2N.Takes X (WD X.K c)) (ha : DA X c (e :: es) t)
    (hdb : (x == ("__debug__" : Str)) = false := by decide) (he : starEach (e :: es) X.env = (false, eval e X.env) :: starEach es X.env := by rfl) (hpl : (backTo pos (starEach es X.env)).any (·.1) = false := by rfl) :
    DE X c (.Call (.Name x p) (e :: es) [] pos) (dMake C sp c.PX t) :=
  (StX.pe_makeR m h.run (hr.mono hk) hg hm (L2N.passes_call (E := xed X.K c) tk fun _ _ _ _ h => h) ha hdb he hpl).imp fun σ H Q ⟨ds, M, F, P, at', ht, fin⟩ =>
    ⟨ds, M, F, _, at', ht, fun xs M1 vs H1 q dj ev mo rp => fun x dx hx hd ne => make_fin dj mo rp (fin.ev ev) (finx_here (at'.go dj ev mo)) q x dx hx hd ne⟩
theorem d_makeS (m : Mk X.K C g) (h : CalR X.prog X.w X.K X.mg X.base k g sp) (hr : Room j X.A) (hk : k + 1 ≤ j) (hg : Gl X x) (hm : X.mg x = some (.ref C)) (tk : L2N.Takes X (WD X.K c)) (ha : DA X c (e :: es) t)
    (hdb : (x == ("__debug__" : Str)) = false := by decide) (he : starEach (e :: es) X.env = (false, eval e X.env) :: starEach es X.env := by rfl) (hst : (backTo pos (starEach es X.env)).any (·.1) = true := by rfl) :
    DE X c (.Call (.Name x p) (e :: es) [] pos) (dMake C sp c.PX t) := by
  refine ⟨fun pins s σ H Q I ⟨ds, M, F, P, at', ht, fin⟩ => ?_⟩
  refine wpAny_Call_Name_kw (ld_glob I hg hm ?_ hdb)
  refine PySem.W.callWith_S2 (h₀ := X.base) I.ok.mod.kin m.kp (thn (ha.run pos pins s σ H (fun vs H1 => ∀ x dx, H1 x = none → H1 dx = none → dx ≠ x → lsp X.K sp (V.ref x :: vs) (upd (upd H1 dx (.own x)) x (.ins C dx [])) (fun v H2 => v = .non ∧ Q (.ref x) H2) (xed X.K c)) I ⟨ds, M, F, _, at', ht, fun xs M1 vs H1 q dj ev mo rp => ?_⟩) fun us s1 ⟨vs, H1, I1, r, q⟩ => ⟨I1.kIn, ?_⟩) he hst
  · exact fun x dx hx hd ne => make_fin dj mo rp (fin.ev ev) (finx_here (at'.go dj ev mo)) q x dx hx hd ne
  · exact StX.run_makeR m h.run (hr.mono hk) (L2N.passes_call (E := xed X.K c) tk fun _ _ _ _ h => h) I1 r q
/-- *e -/
def dStar (te : DTE) (t : DTA) : DTA := fun ds M P => te ds M fun x M1 => match x with
  | .tup xs => t ds M1 fun ys M2 => P (xs ++ ys) M2
  | _ => False
theorem d_star {te : DTE} (he : DE X c e te) (hr : DA X c es t) (hs : starEach (.Starred e p :: es) X.env = (true, eval e X.env) :: starEach es X.env := by rfl) : DA X c (.Starred e p :: es) (dStar te t) :=
  (StX.pa_star he hr hs).imp fun σ H Q ⟨ds, M, F, P, at', ht, fin⟩ => by
    refine ⟨ds, M, F, _, at', ht, fun x M1 v H1 q dj ev mo rp => ?_⟩
    split at q
    · rename_i xs
      cases rp with
      | tup hs hl =>
        refine ⟨_, _, rfl, .inl hs, ds, M1, F, _, at'.go dj ev mo, q, fun ys M2 vs H2 q2 dj2 ev2 mo2 rp2 => ?_⟩
        exact fin _ M2 _ H2 q2 dj2 (ev.trans ev2) mo2 (RpL.append (RpL.ev ev2 xs hl) rp2)
    · exact q.elim
end
/-! ### methods, properties, classmethods -/
def dMeth (C : Addr) (m : Str) (sp : DSp) (PX : DX) (to : DTE) (t : DTA) : DTE := fun ds M P => to ds M fun x M1 => match x with
  | .ref a => (match M1 a with
    | some (.ins C' fs) => C' = C ∧ fs.lookup m = none ∧ t ds M1 fun xs M2 => sp (.ref a :: xs) M2 P PX
    | _ => False)
  | _ => False
def dProp (C : Addr) (sp : DSp) (to : DTE) : DTE := fun ds M P => to ds M fun x M1 => match x with
  | .ref a => (match M1 a with
    | some (.ins C' fs) => C' = C ∧ sp [.ref a] M1 P DX0
    | _ => False)
  | _ => False
def dCMeth (C : Addr) (sp : DSp) (PX : DX) (to : DTE) (t : DTA) : DTE := fun ds M P => to ds M fun x M1 => match x with
  | .ref a => a = C ∧ t ds M1 fun xs M2 => sp (.ref a :: xs) M2 P PX
  | _ => False
section
variable {X : Cx} {c : DC} {k j : Nat} {m : Str} {C g : Addr} {sp : DSp} {p pos apos : Pos} {o e : Expr} {es : List Expr} {to : DTE} {t : DTA} {pl : Sem Bool}
theorem d_meth (ho : DE X c o to) (cl : Cls X.K C) (hm : Meth X.K C m g) (h : CalR X.prog X.w X.K X.mg X.base k g sp) (hr : Room j X.A) (hk : k ≤ j) (tk : L2N.Takes X (WD X.K c)) (ha : DA X c (e :: es) t)
    (hst : starEach (e :: es) X.env = (false, eval e X.env) :: starEach es X.env := by rfl) (hpl : (backTo pos (starEach es X.env)).any (·.1) = false := by rfl)
    (ht : eval (.Call (.Attribute o m apos) (e :: es) [] pos) X.env = (do
      let ov ← eval o X.env
      standAt apos.atName
      let (f, first) ← holding [ov] (getMethod ov m pl)
      callWith pos f first (backTo pos (starEach (e :: es) X.env)) (backToKw pos (keywordEach [] X.env))) := by rfl) :
    DE X c (.Call (.Attribute o m apos) (e :: es) [] pos) (dMeth C m sp c.PX to t) :=
  (pe_methR ho cl hm h.run (hr.mono hk) (L2N.passes_call (E := xed X.K c) tk fun _ _ _ _ h => h) ha hst hpl ht).imp fun σ H Q ⟨ds, M, F, P, at', ht, fin⟩ => by
    refine ⟨ds, M, F, _, at', ht, fun x M1 v H1 q dj ev mo rp => ?_⟩
    split at q
    · rename_i a
      cases rp
      split at q
      · rename_i C' fs hM
        obtain ⟨rfl, hl, q⟩ := q
        obtain ⟨dx, vs, e1, r⟩ := mo a _ (mj_l hM)
        refine ⟨a, dx, vs, rfl, e1, kv_none r hl, ds, M1, F, _, at'.go dj ev mo, q, fun xs M2 us H2 q2 dj2 ev2 mo2 rp2 => ?_⟩
        exact ⟨.ref a :: xs, M2, F, P, c.PX, .cons (.ref a) rp2, mo2, dj2, q2, fin.ev (ev.trans ev2), finx_here ((at'.go dj ev mo).go dj2 ev2 mo2)⟩
      · exact q.elim
    · exact q.elim
theorem d_cmeth {mc : Value} {pc : Addr} (ho : DE X c o to) (r : ClX.CRead X.K C mc) (cm : ClX.CMet X.K C mc m pc g) (h : CalR X.prog X.w X.K X.mg X.base k g sp) (hr : Room j X.A) (hk : k ≤ j) (tk : L2N.Takes X (WD X.K c)) (ha : DA X c (e :: es) t)
    (hst : starEach (e :: es) X.env = (false, eval e X.env) :: starEach es X.env := by rfl) (hpl : (backTo pos (starEach es X.env)).any (·.1) = false := by rfl)
    (ht : eval (.Call (.Attribute o m apos) (e :: es) [] pos) X.env = (do
      let ov ← eval o X.env
      standAt apos.atName
      let (f, first) ← holding [ov] (getMethod ov m pl)
      callWith pos f first (backTo pos (starEach (e :: es) X.env)) (backToKw pos (keywordEach [] X.env))) := by rfl) :
    DE X c (.Call (.Attribute o m apos) (e :: es) [] pos) (dCMeth C sp c.PX to t) :=
  (ClX.pe_cmeth ho r cm h.run (hr.mono hk) (L2N.passes_call (E := xed X.K c) tk fun _ _ _ _ h => h) ha hst hpl ht).imp fun σ H Q ⟨ds, M, F, P, at', ht, fin⟩ => by
    refine ⟨ds, M, F, _, at', ht, fun x M1 v H1 q dj ev mo rp => ?_⟩
    split at q
    · rename_i a
      cases rp
      obtain ⟨rfl, q⟩ := q
      refine ⟨rfl, ds, M1, F, _, at'.go dj ev mo, q, fun xs M2 us H2 q2 dj2 ev2 mo2 rp2 => ?_⟩
      exact ⟨.ref a :: xs, M2, F, P, c.PX, .cons (.ref a) rp2, mo2, dj2, q2, fin.ev (ev.trans ev2), finx_here ((at'.go dj ev mo).go dj2 ev2 mo2)⟩
    · exact q.elim
end
end DL

set_option Elab.async false
set_option linter.all false
set_option maxRecDepth 100000
set_option maxHeartbeats 4000000
namespace DL
open PySem PySem.Spec PyProof.Rows L2
open PySem.W (InstAt Frag selfFirst findIn isFn subIn Looks ksp_first ksp_try ksp_fillsT ksp_inPy fills_K looks_subIn looks_findIn)
/-! ### x + y, x own, y a tuple -/
structure BinO (K : Fg) (C f : Addr) (op : Operator) (T : String) : Prop where
  first : selfFirst K C = true
  at_ : findIn K (.ref C) (PySem.dunder op.info.2) = some (some (.ref f))
  fn : isFn K (.ref f) = true
  rev : ∃ rc, findIn K (.ref C) (dunderR op.info.2) = some rc ∧ (rc = none ∨ ∃ g : Addr, rc = some (.ref g))
  them : ∃ fo ro, findIn K (.type T) (PySem.dunder op.info.2) = some fo ∧ findIn K (.type T) (dunderR op.info.2) = some ro
  sub : subIn K (.type T) (.ref C) = some false
section
variable {prog : Program} {w : World} {A : Around} {E : Value → Shared → Prop} {s : Shared} {K : Fg} {x C L f : Addr} {h₀ : Heap} {m : Str → Option Value} {ox : Obj} {od : Option Obj} {T : String}
theorem bin_own {op : Operator} {b : Value} {Q : Value → Shared → Prop} (Fr0 : Fr h₀ L s.heap m) (X0 : K.In h₀) (J : InstAt s.heap x ox C od) (tb : Looks (model prog w) s.heap (typeOf b) (.type T)) (z : BinO K C f op T)
    (go : wpAny (model prog w) A (call (.ref f) [.ref x, b]) (PySem.W.CmpBack Q) E s) : wpAny (model prog w) A (binaryOp op (.ref x) b) Q E s := by
  have kin := X0.keeps Fr0.keep
  obtain ⟨cd, rest, isC, mro⟩ := ksp_first z.first
  obtain ⟨rc, hrc, hpy⟩ := z.rev
  obtain ⟨fo, ro, hfo, hro⟩ := z.them
  have at1 := z.at_
  rcases hop : op.info with ⟨sym, nm1⟩
  rw [hop] at at1 hrc hfo hro
  dsimp only at at1 hrc hfo hro
  have once := ksp_try kin J at1 z.fn go
  obtain ⟨hh, ge, dr, tt, os⟩ := s
  have K1 : Looks (model prog w) hh (typeOf (.ref x)) (.ref C) := J.type
  have K2 : Looks (model prog w) hh (typeOf b) (.type T) := tb
  have K3 : Looks (model prog w) hh (fillsNumberSlot (.ref C) nm1) true := fills_K kin isC mro at1
  have K4 : Looks (model prog w) hh (fillsNumberSlot (.type T) nm1) ((fo.isSome && !isSeqSlot fo) || (ro.isSome && !isSeqSlot ro)) := ksp_fillsT kin hfo hro
  have K5 : Looks (model prog w) hh (isSubtype (.type T) (.ref C)) false := looks_subIn kin z.sub
  have K6 : Looks (model prog w) hh (numberSlotInPython (.ref C) nm1) true := ksp_inPy kin at1 hrc hpy
  have K7 : Looks (model prog w) hh (numberSlotInPython (.type T) nm1) false := Looks.of_pure rfl
  have K8 : Looks (model prog w) hh (typeLookup (.type T) (dunderR nm1)) ro := looks_findIn kin hro
  generalize ((fo.isSome && !isSeqSlot fo) || (ro.isSome && !isSeqSlot ro)) = rgt at K4
  have other : (Value.ref C == Value.type T) = false := Bool.eq_false_iff.mpr fun q => nomatch beq_iff_eq.mp q
  simp only [binaryOp, hop]
  refine wpAny_holding (wpAny_bind ?_); unfold binaryOp1
  refine wpAny_bind (K1.at (wpAny_bind (K2.at (wpAny_bind (K3.at ?_))))); simp only [other, Bool.false_eq_true, if_false]
  cases rgt
  all_goals
    ksp_lk
    refine wpAny_mono once (fun r1 s1 hr1 => ?_) fun _ _ e1 => e1
    obtain ⟨v1, rfl, hq1⟩ := hr1
    ksp_lk
    exact hq1
end
def rBinO (K : Fg) (C : Addr) (sp : Sp) (E : XK) : R2 := fun x y H Q => ∃ a dx fs b ys, x = .ref a ∧ y = .ref b ∧ H a = some (.ins C dx fs) ∧ SqT K H b ys ∧ sp [x, y] H Q E
section
variable {X : Cx} {CX : CXT} {n : Nat} {C g : Addr} {sp : Sp} {E : XK}
theorem op_binO {op : Operator} (z : BinO X.K C g op "tuple") (F : FnR X.prog X.w X.K X.mg X.base CX n g sp) (hr : Room n X.A) (hx : Passes CX X E) : OpR X (binaryOp op) (rBinO X.K C sp E) := by
  intro pins s σ H x y v u Q I rx ry h
  obtain ⟨a, dx, fs, b, ys, rfl, rfl, ha, hb, q⟩ := h
  cases (show v = Value.ref a from rx)
  cases (show u = Value.ref b from ry)
  obtain ⟨ox, od, J, _⟩ := StX.insC_at (C := C) I (.inr ⟨dx, fs, ha⟩)
  obtain ⟨m, hF⟩ := I.fr
  obtain ⟨its, _, ⟨o, ho, hcl, _⟩, _⟩ := I.tuple hb
  have tb : Looks (model X.prog X.w) s.heap (typeOf (.ref b)) (.type "tuple") := by
    have z1 : Looks (model X.prog X.w) s.heap (typeOf (.ref b)) o.cls := (Looks.ld ho).andThen .now
    rw [hcl] at z1
    exact z1
  refine bin_own hF I.ok.mod.kin J tb z ?_
  refine wpAny_mono (wpAny_call (run_fnR (us := [.ref a, .ref b]) (vs := [.ref a, .ref b]) F hr hx I (.cons rfl (.cons rfl .nil)) q)) (fun w s' z => ?_) fun _ _ x => x
  obtain ⟨z', H', I', rz, qz⟩ := z
  exact SlX.cmpback rz ⟨z', H', I', rz, qz⟩
/-- str(x) of an instance -/
def rStrO (C : Addr) (sp : Sp) (E : XK) : List V → Hp → VK → Prop := fun xs H Q => ∃ a dx fs, xs = [V.ref a] ∧ H a = some (.ins C dx fs) ∧ sp [.ref a] H (fun z H' => ∃ i, z = .str i ∧ Q z H') E
theorem call_strO (hs : findIn X.K (.ref C) "__str__" = some (some (.ref g))) (hf : isFn X.K (.ref g) = true) (F : FnR X.prog X.w X.K X.mg X.base CX n g sp) (hr : Room (n + 2) X.A) (hx : Passes CX X E) : CallR X (.type "str") (rStrO C sp E) := by
  intro pins s σ H xs us Q I r h
  obtain ⟨a, dx, fs, rfl, ha, q⟩ := h
  obtain ⟨u, rfl, ru⟩ := r.one
  cases (show u = Value.ref a from ru)
  obtain ⟨ox, od, J, _⟩ := StX.insC_at (C := C) I (.inr ⟨dx, fs, ha⟩)
  have hr2 : Room n X.A.in1.in1 := (show Room (n + 1) X.A.in1 from Room.in1 hr).in1
  refine PySem.W.kso_call hr2.units0 I.kIn J hs hf (wpAny_mono (wpAny_call (SlX.run_at (us := [.ref a]) (ws := [.ref a]) F hr2 I.env0.in1.in1 hx I (.cons rfl .nil) q)) (fun w s' z => ?_) fun _ _ x => x)
  obtain ⟨z', H', I', rz, i, ei, qz⟩ := z
  subst ei
  obtain ⟨t, e⟩ := (show ∃ t, w = Value.str i t from rz)
  cases e
  exact ⟨.str i, H', I', ⟨t, rfl⟩, qz⟩
end
/-! readings -/
def dBinO (C : Addr) (sp : DSp) (PX : DX) (ta tb : DTE) : DTE := fun ds M P => ta ds M fun x M1 => tb ds M1 fun y M2 => match x, y with
  | .ref a, .tup ys => (match M2 a with
    | some (.ins C' _) => C' = C ∧ sp [.ref a, .tup ys] M2 P PX
    | _ => False)
  | _, _ => False
def dStrO (C : Addr) (sp : DSp) (PX : DX) (te : DTE) : DTE := fun ds M P => te ds M fun x M1 => match x with
  | .ref a => (match M1 a with
    | some (.ins C' _) => C' = C ∧ sp [.ref a] M1 (fun r M2 => (∃ i, r = .str i) ∧ P r M2) PX
    | _ => False)
  | _ => False
section
variable {X : Cx} {c : DC} {k j i : Nat} {x : Str} {C g pc : Addr} {f : Str} {sp : DSp} {p pos : Pos} {a b e : Expr} {es : List Expr} {ta tb te : DTE} {t : DTA}
theorem d_binO {op : Operator} (z : BinO X.K C g op "tuple") (h : CalR X.prog X.w X.K X.mg X.base k g sp) (hr : Room j X.A) (hk : k ≤ j) (tk : L2N.Takes X (WD X.K c)) (ha : DE X c a ta) (hb : DE X c b tb) : DE X c (.BinOp a op b pos) (dBinO C sp c.PX ta tb) :=
  (pe_op (op_binO z h.run (hr.mono hk) (L2N.passes_call (E := xed X.K c) tk fun _ _ _ _ h => h)) ha hb).imp fun σ H Q ⟨ds, M, F, P, at', ht, fin⟩ => by
    refine ⟨ds, M, F, _, at', ht, fun x M1 v H1 q dj ev mo rp => ?_⟩
    refine ⟨ds, M1, F, _, at'.go dj ev mo, q, fun y M2 u H2 q2 dj2 ev2 mo2 rp2 => ?_⟩
    split at q2
    · rename_i a' ys
      cases rp
      split at q2
      · rename_i C' fs hM
        obtain ⟨rfl, q2⟩ := q2
        obtain ⟨dx, vs, e1, r⟩ := mo2 a' _ (mj_l hM)
        cases rp2 with
        | tup hs hl =>
          exact ⟨a', dx, vs, _, _, rfl, rfl, e1, hs, [.ref a', .tup ys], M2, F, P, c.PX, .cons (.ref a') (.cons (.tup hs hl) .nil), mo2, dj2, q2, fin.ev (ev.trans ev2), finx_here ((at'.go dj ev mo).go dj2 ev2 mo2)⟩
      · exact q2.elim
    · exact q2.elim
theorem d_strO (hs : findIn X.K (.ref C) "__str__" = some (some (.ref g))) (hf : isFn X.K (.ref g) = true) (h : CalR X.prog X.w X.K X.mg X.base k g sp) (hr : Room j X.A) (hk : k + 2 ≤ j) (tk : L2N.Takes X (WD X.K c)) (he : DE X c e te)
    (hg : Gl X x) (hm : X.mg x = none) (hv : bootBuiltins x = some (.type "str")) (hn : x ≠ "__name__" := by decide) (hdb : (x == ("__debug__" : Str)) = false := by decide) (na : starEach [e] X.env = (false, eval e X.env) :: starEach [] X.env := by rfl) :
    DE X c (.Call (.Name x p) [e] [] pos) (dStrO C sp c.PX te) :=
  (pe_callTy (call_strO hs hf h.run (hr.mono hk) (L2N.passes_call (E := xed X.K c) tk fun _ _ _ _ h => h)) hg hm hv (pa_cons he pa_nil na) hn hdb na (by rfl)).imp fun σ H Q ⟨ds, M, F, P, at', ht, fin⟩ => by
    refine ⟨ds, M, F, _, at', ht, fun x M1 v H1 q dj ev mo rp => ?_⟩
    split at q
    · rename_i a'
      cases rp
      split at q
      · rename_i C' fs hM
        obtain ⟨rfl, q⟩ := q
        obtain ⟨dx, vs, e1, r⟩ := mo a' _ (mj_l hM)
        refine ⟨a', dx, vs, rfl, e1, [.ref a'], M1, F, _, c.PX, .cons (.ref a') .nil, mo, dj, q, fun d M2 u H2 ⟨⟨s0, es0⟩, q2⟩ dj2 ev2 mo2 rp2 => ?_, finx_here (at'.go dj ev mo)⟩
        subst es0
        cases rp2
        exact ⟨s0, rfl, fin (.str s0) M2 _ H2 q2 dj2 (ev.trans ev2) mo2 (.str s0)⟩
      · exact q.elim
    · exact q.elim
/-- e.f, a property -/
theorem d_prop (he : DE X c e te) (cl : Cls X.K C) (hp : PropOf X.K C f pc g) (h : CalV X.prog X.w X.K X.mg X.base k g sp) (hr : Room j X.A) (hk : k + 1 ≤ j) (hab : attributeBase e f X.env (eval e X.env) = eval e X.env := by rfl) : DE X c (.Attribute e f pos) (dProp C sp te) := by
  obtain ⟨fd, ps, Fn, _, bd⟩ := h.ex
  refine (pe_prop he cl hp Fn (hr.mono hk) bd .nil (L2N.passes_call (E := xed X.K c.mute) takes_mute fun _ _ _ _ h => h) hab).imp fun σ H Q ⟨ds, M, F, P, at', ht, fin⟩ => ?_
  refine ⟨ds, M, F, _, at', ht, fun x M1 v H1 q dj ev mo rp => ?_⟩
  split at q
  · rename_i a'
    cases rp
    split at q
    · rename_i C' fs hM
      obtain ⟨rfl, q⟩ := q
      obtain ⟨dx, vs, e1, r⟩ := mo a' _ (mj_l hM)
      exact ⟨a', dx, vs, rfl, e1, [.ref a'], M1, F, P, DX0, .cons (.ref a') .nil, mo, dj, q, fin.ev ev, fun _ _ _ _ _ z => z.elim⟩
    · exact q.elim
  · exact q.elim
/-- cls(e, .., *y), cls a local name -/
def dMakeL (i : Nat) (C : Addr) (sp : DSp) (PX : DX) (t : DTA) : DTE := fun ds M P => ds[i]? = some (some (.ref C)) ∧ dMake C sp PX t ds M P
theorem d_makeL (m : Mk X.K C g) (h : CalR X.prog X.w X.K X.mg X.base k g sp) (hr : Room j X.A) (hk : k + 1 ≤ j) (hN : X.N[i]? = some x) (hv : Vis X.env.scope x) (tk : L2N.Takes X (WD X.K c)) (ha : DA X c (e :: es) t)
    (hdb : (x == ("__debug__" : Str)) = false := by decide) (hcd : (x == ("__classdict__" : Str)) = false := by decide) (he : starEach (e :: es) X.env = (false, eval e X.env) :: starEach es X.env := by rfl) (hst : (backTo pos (starEach es X.env)).any (·.1) = true := by rfl) :
    DE X c (.Call (.Name x p) (e :: es) [] pos) (dMakeL i C sp c.PX t) := by
  refine ⟨fun pins s σ H Q I ⟨ds, M, F, P, at', ⟨hs, ht⟩, fin⟩ => ?_⟩
  obtain ⟨v0, hv0, rv0⟩ := at'.sl.2 i _ hs
  cases rv0
  refine wpAny_Call_Name_kw (thn ((pe_var (pos := p) hN hv hdb hcd).run pins s σ H (fun v H1 => v = .ref C ∧ H1 = H) I ⟨.ref C, hv0, rfl, rfl⟩) fun u s1 ⟨v, H1, I1, r1, q1⟩ => ?_)
  obtain ⟨rfl, rfl⟩ := q1
  cases r1
  refine PySem.W.callWith_S2 (h₀ := X.base) I1.ok.mod.kin m.kp (thn (ha.run pos pins s1 σ H1 (fun vs H1 => ∀ x dx, H1 x = none → H1 dx = none → dx ≠ x → lsp X.K sp (V.ref x :: vs) (upd (upd H1 dx (.own x)) x (.ins C dx [])) (fun v H2 => v = .non ∧ Q (.ref x) H2) (xed X.K c)) I1 ⟨ds, M, F, _, at', ht, fun xs M1 vs H1 q dj ev mo rp => ?_⟩) fun us s1 ⟨vs, H1, I1, r, q⟩ => ⟨I1.kIn, ?_⟩) he hst
  · exact fun x dx hx hd ne => make_fin dj mo rp (fin.ev ev) (finx_here (at'.go dj ev mo)) q x dx hx hd ne
  · exact StX.run_makeR m h.run (hr.mono hk) (L2N.passes_call (E := xed X.K c) tk fun _ _ _ _ h => h) I1 r q
end
/-! ### defs that are reached by their address -/
section
variable {P : Program} {w : World} {K : Fg} {mg : Str → Option Value} {base : Heap}
/-- where a method stands -/
structure MethAt (K : Fg) (x q : Str) (ps : List Str) (st : Stmt) (f : Addr) : Prop where
  ex : ∃ fd, FunD K x q (defArgs st) (defBody st) (defScope st) [] [] f fd ∧ Binds K fd ps []
theorem dcalM {x q : Str} {st : Stmt} {N ps : List Str} {k : Nat} {sp : DSp} {t : DX → DTS} {f : Addr} (d : MethAt K x q ps st f) (S : FnScope N ps (defScope st)) (len : ∀ ds M P PX, sp ds M P PX → ds.length = ps.length)
    (body : ∀ (cdv : Value) (A : Around) (outer : List Env) (s : Shared) (H : Hp) (E : XK) (c : DC), FCtx (cxOf (L2N.CX P w) P w K mg base N q (defScope st) f cdv A outer s H E) c k → DSs (cxOf (L2N.CX P w) P w K mg base N q (defScope st) f cdv A outer s H E) c (defBody st) (t c.PX))
    (hsp : ∀ ds M P PX, sp ds M P PX → t PX (dEnds P) (dstart N ds) M) : CalV P w K mg base (k + 1) f sp := by
  obtain ⟨fd, F, b⟩ := d.ex
  exact ⟨⟨fd, ps, dfn F S len body hsp, F.kp, b⟩⟩
end
end DL

set_option Elab.async false
set_option linter.all false
set_option maxRecDepth 100000
set_option maxHeartbeats 4000000
namespace DL
open PySem PySem.Spec PyProof.Rows L2
/-! ### def f(a, b, *v) -/
theorem cxUpN {P : Program} {w : World} : StX.CXUp (L2N.CX P w) := by
  intro outer s H s2 H2 E u s3 un kp sameOs hx
  obtain ⟨a, B, H3, cls, dd, eu, fly, hok, below, nh, eo, bare, he⟩ := hx
  have kp2 : ∀ b o, s.heap.get? b = some o → H b = none → H2 b = none := fun b o q n => un.free b o q n (by simp)
  refine ⟨a, B, H3, cls, dd, eu, fly, hok, ?_, nh, eo.trans sameOs, bare, he⟩
  constructor
  · exact fun b o q n hb => below.keep b o (kp b o q) (kp2 b o q n) hb
  · exact fun b o q hb => below.slot b o (kp b o q) hb
  · exact fun b o q n => below.free b o (kp b o q) (kp2 b o q n)
  · exact fun b o q hb => below.there b o (kp b o q) hb
  · exact fun b xs q => below.tups b xs (un.tups b xs q)
  · exact fun b o xs q => below.frzs b o xs (un.frzs b o xs q)
  · intro b ps q
    obtain ⟨m1, e1⟩ := un.tbls b ps q
    obtain ⟨m2, e2⟩ := below.tbls b _ e1
    exact ⟨m1 ++ m2, e2.trans (by rw [Array.append_assoc])⟩
section
variable {P : Program} {w : World} {K : Fg} {mg : Str → Option Value} {base : Heap}
theorem dfn_body {qual : Str} {st : Stmt} {f : Addr} {N : List Str} {k : Nat} {sp : DSp} {t : DX → DTS}
    (body : ∀ (cdv : Value) (A : Around) (outer : List Env) (s : Shared) (H : Hp) (E : XK) (c : DC), FCtx (cxOf (L2N.CX P w) P w K mg base N qual (defScope st) f cdv A outer s H E) c k → DSs (cxOf (L2N.CX P w) P w K mg base N qual (defScope st) f cdv A outer s H E) c (defBody st) (t c.PX))
    (hsp : ∀ ds M P PX, sp ds M P PX → t PX (dEnds P) (dstart N ds) M) (cdv : Value) (A : Around) (outer : List Env) (s : Shared) (H : Hp) (vs : List V) (Q : VK) (E : XK) (hr : Room k (A.deeper (envOfC qual (defScope st) s.heap.objs.size f cdv))) (h : lsp K sp vs H Q E) :
    ∃ t, PSs (cxOf (L2N.CX P w) P w K mg base N qual (defScope st) f cdv A outer s H E) (defBody st) t ∧ t { nx := fun _ H' => Q .non H', rt := Q } (start N vs) H := by
  obtain ⟨ds, M, F, P', PX, r, mo, dj, q, fin, finx⟩ := h
  have tk : L2N.Takes (cxOf (L2N.CX P w) P w K mg base N qual (defScope st) f cdv A outer s H E) (WD K ⟨M, H, F, PX⟩) :=
    (L2N.takes_of rfl rfl rfl rfl).imp fun cls d σ H' ⟨fs, M', F', px, ge, dj', ev, mo', xr⟩ => by
      have lt : ∀ a, F' a = none → F a = none := fun a n => by
        cases e : F a with
        | none => rfl
        | some o => rw [show F' a = some o from ge a o e] at n; cases n
      have sub : ∀ a o, mj M' F a = some o → mj M' F' a = some o := fun a o h => by
        cases e : M' a with
        | none =>
          rw [mj_r e] at h ⊢
          exact ge a o h
        | some u =>
          rw [mj_l e] at h ⊢
          exact h
      have les : ∀ a, mj M' F' a = none → mj M' F a = none := fun a h => by
        obtain ⟨h1, h2⟩ := mj_none h
        rw [mj_r h1]; exact lt a h2
      exact finx cls fs M' d H' px ⟨fun a => (dj'.at_ a).elim .inl fun n => .inr (lt a n), fun a T z => dj'.nt a T (ge a _ z)⟩ ev (mo'.less sub) (xr.less les)
  refine ⟨_, body cdv A outer s H E ⟨M, H, F, PX⟩ ⟨tk, passes_of rfl, hr⟩, ?_⟩
  refine ⟨dstart N ds, M, F, dEnds P', ⟨slr_start r, mo, .refl, dj, fun _ _ h => h⟩, hsp ds M P' PX q, ?_⟩
  exact ⟨fun ds' M' σ' H' p dj ev mo sl => fz_fin fin .non M' .non H' p dj ev mo .non, fz_fin fin, fun ds' M' σ' H' p => p.elim, fun ds' M' σ' H' p => p.elim⟩
structure StarAt (K : Fg) (x q : Str) (st : Stmt) (f : Addr) : Prop where
  ex : ∃ fd, FunD K x q (defArgs st) (defBody st) (defScope st) [] [] f fd
theorem dcalStar {x q pv : Str} {st : Stmt} {N ps : List Str} {k : Nat} {sp : DSp} {t : DX → DTS} {f : Addr} (d : StarAt K x q st f) (S : FnScope N (ps ++ [pv]) (defScope st))
    (hb : ∀ (kV doc pm : Value) (an : Option Addr) (cdv ct : Value) (us rest : List Value), us.length = ps.length →
      bindArgs (PySem.W.fnOf x q (defArgs st) (defBody st) (defScope st) .none kV doc pm an cdv ct) ⟨us ++ rest, []⟩ = (newTuple rest >>= fun t => pure (ps.zip us ++ [(pv, t)])))
    (body : ∀ (cdv : Value) (A : Around) (outer : List Env) (s : Shared) (H : Hp) (E : XK) (c : DC), FCtx (cxOf (L2N.CX P w) P w K mg base N q (defScope st) f cdv A outer s H E) c k → DSs (cxOf (L2N.CX P w) P w K mg base N q (defScope st) f cdv A outer s H E) c (defBody st) (t c.PX))
    (hsp : ∀ ds M P PX, sp ds M P PX → t PX (dEnds P) (dstart N ds) M) : CalR P w K mg base (k + 1) f (spStar ps.length sp) := by
  obtain ⟨fd, F⟩ := d.ex
  obtain ⟨oc, od, dV, kV, doc, pm, an, cdv, ct, osl, rfl, lk, hcd, dd, _⟩ := F.ex
  rcases dd with ⟨_, rfl⟩ | ⟨n, _⟩
  case inr => exact absurd rfl n
  refine ⟨(StX.fn_star (sp := lsp K sp) lk hcd S cxUpN (hb kV doc pm an cdv ct) (fun A outer s H vs Q E hr h => dfn_body body hsp cdv A outer s H vs Q E hr h)).imp fun vs H Q E h => ?_⟩
  obtain ⟨ws, rest, h1, h2, h3, h4⟩ := lsp_star h
  exact ⟨ws, rest, h1, h2, h3, h4⟩
end
/-! ### f"..{e}", e a whole number -/
theorem empty_app (x : Str) : Str.empty ++ x = x := by
  obtain ⟨⟨l⟩⟩ := x
  show (⟨#[] ++ l.toArray⟩ : Str) = _
  simp
def dFmtI (pre : Str) (te : DTE) : DTE := fun ds M P => te ds M fun d M1 => match d with
  | .int i => (i.natAbs.log2 < 1920 ∧ pre.length ≤ sizeLine ∧ (pre ++ (toString i : Str)).length ≤ sizeLine) ∧ P (.str (pre ++ (toString i : Str))) M1
  | _ => False
section
variable {X : Cx} {c : DC} {e : Expr} {te : DTE} {pos p1 p2 apos : Pos} {pre x : Str} {j : Nat}
theorem d_fmtI (he : DE X c e te) (hz : decide (pre.length ≤ 1000) = true := by decide +kernel) : DE X c (.JoinedStr [.Constant (.str pre) j p1, .FormattedValue e (-1) none p2] pos) (dFmtI pre te) :=
  (pe_joined (.cons pe_str (.cons (pe_fmt he) .nil))).imp fun σ H Q ⟨ds, M, F, P, at', ht, fin⟩ => by
    refine ⟨pre, rfl, ?_, ds, M, F, _, at', ht, fun d M1 v H1 q dj ev mo rp => ?_⟩
    · have := of_decide_eq_true hz
      rw [empty_app, sizeLine_eq]; omega
    · split at q
      · rename_i i
        cases rp
        obtain ⟨⟨q1, q2, q3⟩, q⟩ := q
        refine .inr ⟨i, rfl, q1, (toString i : Str), rfl, by rw [empty_app]; exact q3, ?_⟩
        rw [empty_app]
        exact fin.ev ev |>.val dj mo q (.str _)
      · exact q.elim
/-! ### C.index(e), C a written tuple of texts -/
structure TCon (K : Fg) (mg : Str → Option Value) (x : Str) (ys : List Str) : Prop where
  ex : ∃ a o, mg x = some (.ref a) ∧ K.lookup a = some o ∧ o.cls = .type "tuple" ∧ o.dict = none ∧ ∀ H, SqT K H a (ys.map V.str)
def dTIx (ys : List Str) (te : DTE) : DTE := fun ds M P => te ds M fun d M1 => match d with
  | .str z => ∃ i : Nat, ys[i]? = some z ∧ (∀ m, m < i → ys[m]? ≠ some z) ∧ P (.int i) M1
  | _ => False
theorem d_tIx {ys : List Str} (hg : Gl X x) (g : TCon X.K X.mg x ys) (he : DE X c e te) (hd : (x == ("__debug__" : Str)) = false := by decide)
    (hbase : attributeBase (.Name x p1) "index" X.env (eval (.Name x p1) X.env) = eval (.Name x p1) X.env := by rfl)
    (hfew : ((backTo pos (starEach [e] X.env)).all (fun x => !x.1) && (backToKw pos (keywordEach [] X.env)).all (fun x => x.1.isSome)
      && decide (([e] : List Expr).length + ([] : List Keyword).length + (if ([] : List Keyword).isEmpty then 0 else 1) < 30)) = true := by rfl)
    (hline : (apos.endLine == pos.line) = true := by rfl) (hs : starEach [e] X.env = (false, eval e X.env) :: starEach [] X.env := by rfl) :
    DE X c (.Call (.Attribute (.Name x p1) "index" apos) [e] [] pos) (dTIx ys te) := by
  obtain ⟨a, o, h1, h2, h3, h4, h5⟩ := g.ex
  refine (pe_bm PySem.F.plainAttrs_tuple PySem.F.slot_tuple_index PySem.F.type_tuple_index mt_tup_index (pe_glob (v := .ref a) (u := .ref a) hg h1 rfl hd) (pa_cons he pa_nil hs) hbase hfew hline hs (by rfl)).imp fun σ H Q ⟨ds, M, F, P, at', ht, fin⟩ => ?_
  refine ⟨.inr (.inl ⟨rfl, o, h2, h3, h4⟩), ds, M, F, _, at', ht, fun d M1 v H1 q dj ev mo rp => ?_⟩
  split at q
  · rename_i z
    cases rp
    obtain ⟨i, q1, q2, q⟩ := q
    exact ⟨a, ys, z, i, rfl, rfl, h5 H1, q1, q2, fin.ev ev |>.val dj mo q (.int _)⟩
  · exact q.elim
/-! ### the class of boxes -/
structure BoxF (K : Fg) (mg : Str → Option Value) (kB fi fm fs ps_ fr pr_ fa ft : Addr) (mc : Value) : Prop where
  mgB : mg "Box" = some (.ref kB)
  gc : GCon K mg "Box" (.ref kB)
  cls : Cls K kB
  na : NoAttr K kB "whole"
  mkr : Mk K kB fi
  made : Meth K kB "made" fm
  prop : PropOf K kB "source" ps_ fs
  rd : ClX.CRead K kB mc
  cm : ClX.CMet K kB mc "read" pr_ fr
  add : BinO K kB fa .Add "tuple"
  str : PySem.W.findIn K (.ref kB) "__str__" = some (some (.ref ft))
  strf : PySem.W.isFn K (.ref ft) = true
def holdsL : List Str := ["hold 0", "hold 1", "hold 2", "hold 3"]
/-! ### what is never walked -/
def dNo : DTS := fun _ _ _ => False
theorem d_no {st : Stmt} : DS X c st dNo := ⟨fun pins s σ H W I ⟨ds, M, F, DD, at', ht, f⟩ => ht.elim⟩
end
end DL

set_option Elab.async false
set_option linter.all false
set_option maxRecDepth 100000
set_option maxHeartbeats 4000000
namespace DL
open PySem PySem.Spec PyProof.Rows L2
def t_is_within (PX : DX) : DTS :=
  (dRet (dAndV (dApp gIsi (dCons (dVar 0) (dCons (dC (.ty "int")) dNil))) (dAndV (dNotV (dApp gIsi (dCons (dVar 0) (dCons (dC (.ty "bool")) dNil)))) (dChain gLe gLe (dVar 1) (dVar 0) (dVar 2)))))
def t_has_items (PX : DX) : DTS :=
  (dRet (dAndV (dApp gIsi (dCons (dVar 0) (dCons (dC (.ty "tuple")) dNil))) (dChain gLe gLe (dVar 1) (dApp gLen (dCons (dVar 0) dNil)) (dVar 2))))
def t_is_tooth (c_TEETH : D) (PX : DX) : DTS :=
  (dRet (dAndV (dApp gIsi (dCons (dVar 0) (dCons (dC (.ty "str")) dNil))) (dBin (gIn false) (dVar 0) (dC c_TEETH))))
def t_are_teeth (c_TEETH : D) (PX : DX) : DTS :=
  (dRet (dAndV (dApp gIsi (dCons (dVar 0) (dCons (dC (.ty "str")) dNil))) (dBin gEq (dVar 0) (dJoin (dC (.str "")) (dComp [1] (dIter (dC c_TEETH)) (dgN 1) (dB (dBin (gIn false) (dVar 1) (dVar 0))) (dVar 1))))))
def t_is_barrel (s_has_items : DSp) (s_are_teeth : DSp) (PX : DX) : DTS :=
  (dRet (dAndV (dCall s_has_items PX (dCons (dVar 0) (dCons (dC (.int 1)) (dCons (dC (.int 7)) dNil)))) (dApp gAll (dCons (dComp [1] (dIter (dVar 0)) (dgN 1) dYes (dCall s_are_teeth DX0 (dCons (dVar 1) dNil))) dNil))))
def t_is_box_value (s_has_items : DSp) (s_is_within : DSp) (s_is_barrel : DSp) (PX : DX) : DTS :=
  (dSeq (dIf (dOr (dNot (dB (dCall s_has_items PX (dCons (dVar 0) (dCons (dC (.int 2)) (dCons (dC (.int 2)) dNil)))))) (dNot (dB (dCall s_is_within PX (dCons (dBin gIx (dVar 0) (dC (.int 0))) (dCons (dC (.int 0)) (dCons (dC (.int 3)) dNil))))))) (dRet (dC (.bl false))) dSkip) (dRet (dAndV (dCall s_has_items PX (dCons (dBin gIx (dVar 0) (dC (.int 1))) (dCons (dC (.int 1)) (dCons (dC (.int 3)) dNil)))) (dApp gAll (dCons (dComp [1] (dIter (dBin gIx (dVar 0) (dC (.int 1)))) (dgN 1) dYes (dCall s_is_barrel DX0 (dCons (dVar 1) dNil))) dNil)))))
def t_begins (s_has_items : DSp) (s_is_within : DSp) (PX : DX) : DTS :=
  (dSeq (dIf (dNot (dB (dCall s_has_items PX (dCons (dVar 1) (dCons (dApp gLen (dCons (dBin gIx (dVar 0) (dC (.int 1))) dNil)) (dCons (dApp gLen (dCons (dBin gIx (dVar 0) (dC (.int 1))) dNil)) dNil)))))) (dRet (dC (.bl false))) dSkip) (dRet (dApp gAll (dCons (dComp [2, 3] (dZip (dCons (dVar 1) (dCons (dBin gIx (dVar 0) (dC (.int 1))) dNil))) (dgT 2 (dgCons (dgN 2) (dgCons (dgN 3) dgNil))) dYes (dCall s_is_within DX0 (dCons (dVar 2) (dCons (dC (.int 0)) (dCons (dBin gSub (dApp gLen (dCons (dVar 3) dNil)) (dC (.int 1))) dNil))))) dNil))))
def t_need_box (s_is_box_value : DSp) (e_InvalidBox : Addr) (PX : DX) : DTS :=
  (dIf (dNot (dB (dCall s_is_box_value PX (dCons (dVar 0) dNil)))) (dRaise PX (.ref e_InvalidBox)) dSkip)
def t_gcd (PX : DX) : DTS :=
  (dSeq (dWhile (dB (dBin gGt (dVar 1) (dC (.int 0)))) (dPar 0 1 (dCons (dVar 1) (dCons (dBin gMod (dVar 0) (dVar 1)) dNil)))) (dRet (dVar 0)))
def t_period_of (s_gcd : DSp) (PX : DX) : DTS :=
  (dSeq (dSet 1 (dC (.int 1))) (dSeq (dFor (dIter (dBin gIx (dVar 0) (dC (.int 1)))) (dgN 2) (dSet 1 (dBin gDiv (dBin gMul (dVar 1) (dApp gLen (dCons (dVar 2) dNil))) (dCall s_gcd PX (dCons (dVar 1) (dCons (dApp gLen (dCons (dVar 2) dNil)) dNil)))))) (dRet (dVar 1))))
def t_all_beginnings (PX : DX) : DTS :=
  (dSeq (dSet 1 (dLst (dCons (dTup dNil) dNil))) (dSeq (dFor (dIter (dBin gIx (dVar 0) (dC (.int 1)))) (dgN 2) (dSet 1 (dComp2 [3, 4] [4] (dIter (dVar 1)) (dgN 3) dYes (dRng1 (dCons (dApp gLen (dCons (dVar 2) dNil)) dNil)) (dgN 4) dYes (dBin gAdd (dVar 3) (dTup (dCons (dVar 4) dNil)))))) (dRet (dVar 1))))
def t_law_deck (PX : DX) : DTS :=
  (dSeq (dIf (dB (dBin gGe (dVar 0) (dBin gPow (dC (.int 10)) (dC (.int 18))))) (dRet (dLstH (dCons (dBin gSub (dVar 0) (dBin gPow (dC (.int 10)) (dC (.int 18)))) (dCons (dBin gMod (dVar 0) (dC (.int 2147483579))) (dCons (dVar 1) dNil))))) dSkip) (dRet (dLstH (dCons (dC (.int 0)) (dCons (dBin gMod (dVar 0) (dC (.int 2147483579))) (dCons (dVar 1) dNil))))))
def t_law_pick (PX : DX) : DTS :=
  (dSeq (dIf (dB (dBin gGt (dBin gIx (dVar 0) (dC (.int 0))) (dC (.int 1)))) (dSeq (dSet 2 (dBin gMod (dApp gInt1 (dCons (dBin gIx (dVar 0) (dC (.int 0))) dNil)) (dVar 1))) (dSeq (dAsg (dBin gDiv (dBin gIx (dVar 0) (dC (.int 0))) (dVar 1)) (dgSub (dVar 0) (dC (.int 0)))) (dRet (dVar 2)))) dSkip) (dSeq (dAsg (dBin gAdd (dBin gIx (dVar 0) (dC (.int 2))) (dC (.int 1))) (dgSub (dVar 0) (dC (.int 2)))) (dSeq (dSet 3 (dBin gMod (dBin gPow (dBin gAdd (dBin gIx (dVar 0) (dC (.int 1))) (dBin gMul (dC (.int 15485867)) (dBin gIx (dVar 0) (dC (.int 2))))) (dC (.int 5))) (dC (.int 2147483647)))) (dSeq (dSet 2 (dBin gDiv (dBin gMod (dBin gPow (dBin gAdd (dVar 3) (dBin gMul (dC (.int 7919)) (dBin gIx (dVar 0) (dC (.int 2))))) (dC (.int 3))) (dC (.int 2147483629))) (dC (.int 32)))) (dRet (dBin gMod (dApp gInt1 (dCons (dVar 2) dNil)) (dVar 1)))))))
def t_law_one (s_law_pick : DSp) (PX : DX) : DTS :=
  (dRet (dBin gIx (dVar 1) (dCall s_law_pick PX (dCons (dVar 0) (dCons (dApp gLen (dCons (dVar 1) dNil)) dNil)))))
def t_law_sort (PX : DX) : DTS :=
  (dSeq (dIf (dB (dApp gIsi (dCons (dVar 0) (dCons (dC (.ty "bool")) dNil)))) (dRet (dC (.int 1))) dSkip) (dSeq (dIf (dB (dApp gIsi (dCons (dVar 0) (dCons (dC (.ty "int")) dNil)))) (dRet (dC (.int 2))) dSkip) (dSeq (dIf (dB (dApp gIsi (dCons (dVar 0) (dCons (dC (.ty "str")) dNil)))) (dRet (dC (.int 3))) dSkip) (dSeq (dIf (dB (dApp gIsi (dCons (dVar 0) (dCons (dC (.ty "list")) dNil)))) (dRet (dC (.int 4))) dSkip) (dRet (dIfE (dB (dApp gIsi (dCons (dVar 0) (dCons (dC (.ty "tuple")) dNil)))) (dC (.int 5)) (dC (.int 6))))))))
def t_law_same (s_law_sort : DSp) (s_law_same : DSp) (PX : DX) : DTS :=
  (dSeq (dIf (dB (dBin gNe (dCall s_law_sort PX (dCons (dVar 0) dNil)) (dCall s_law_sort PX (dCons (dVar 1) dNil)))) (dRet (dC (.bl false))) dSkip) (dSeq (dIf (dAnd (dB (dBin gGt (dCall s_law_sort PX (dCons (dVar 0) dNil)) (dC (.int 3)))) (dB (dBin gLt (dCall s_law_sort PX (dCons (dVar 0) dNil)) (dC (.int 6))))) (dSeq (dIf (dB (dBin gNe (dApp gLen (dCons (dVar 0) dNil)) (dApp gLen (dCons (dVar 1) dNil)))) (dRet (dC (.bl false))) dSkip) (dRet (dBin gEq (dComp [2, 3] (dEnum (dCons (dVar 0) dNil)) (dgT 2 (dgCons (dgN 2) (dgCons (dgN 3) dgNil))) (dNot (dB (dCall s_law_same DX0 (dCons (dVar 3) (dCons (dBin gIx (dVar 1) (dVar 2)) dNil))))) (dVar 2)) (dLst dNil)))) dSkip) (dRet (dBin gEq (dVar 0) (dVar 1)))))
def t_law_kin (c_InvalidTick : D) (c_InvalidBeginning : D) (c_InvalidBox : D) (c_InvalidNumber : D) (c_InvalidFacts : D) (c_InvalidTooth : D) (c_Unlike : D) (c_NoBeginning : D) (c_InvalidIndex : D) (c_InvalidText : D) (c_TooMany : D) (c_NothingToUndo : D) (gI : DOL) : DTS :=
  (dSeq (dSet 1 (dLst (dCons (dApp gI (dCons (dVar 0) (dCons (dC c_InvalidBox) dNil))) (dCons (dApp gI (dCons (dVar 0) (dCons (dC c_InvalidBeginning) dNil))) (dCons (dApp gI (dCons (dVar 0) (dCons (dC c_InvalidTick) dNil))) dNil))))) (dSeq (dSet 1 (dBin gAdd (dVar 1) (dLst (dCons (dApp gI (dCons (dVar 0) (dCons (dC c_InvalidTooth) dNil))) (dCons (dApp gI (dCons (dVar 0) (dCons (dC c_InvalidFacts) dNil))) (dCons (dApp gI (dCons (dVar 0) (dCons (dC c_InvalidNumber) dNil))) dNil)))))) (dSeq (dSet 1 (dBin gAdd (dVar 1) (dLst (dCons (dApp gI (dCons (dVar 0) (dCons (dC c_InvalidIndex) dNil))) (dCons (dApp gI (dCons (dVar 0) (dCons (dC c_NoBeginning) dNil))) (dCons (dApp gI (dCons (dVar 0) (dCons (dC c_Unlike) dNil))) dNil)))))) (dSeq (dSet 1 (dBin gAdd (dVar 1) (dLst (dCons (dApp gI (dCons (dVar 0) (dCons (dC c_NothingToUndo) dNil))) (dCons (dApp gI (dCons (dVar 0) (dCons (dC c_TooMany) dNil))) (dCons (dApp gI (dCons (dVar 0) (dCons (dC c_InvalidText) dNil))) dNil)))))) (dSeq (dSet 1 (dBin gAdd (dVar 1) (dLst (dCons (dApp gI (dCons (dVar 0) (dCons (dC (.ty "ValueError")) dNil))) dNil)))) (dSeq (dSet 2 (dC (.str "box beginning tick tooth facts number index none unlike undo many text +"))) (dRet (dJoin (dC (.str " ")) (dComp [3, 4] (dZipE (dCons (dSplit (dVar 2) (dC (.str " "))) (dCons (dVar 1) dNil))) (dgT 2 (dgCons (dgN 3) (dgCons (dgN 4) dgNil))) (dB (dVar 4)) (dVar 3))))))))))
def t_law_known (PX : DX) : DTS :=
  (dSeq (dAsg (dTup (dCons (dTup (dCons (dC (.int 0)) (dCons (dTup (dCons (dTup (dCons (dC (.str "a")) (dCons (dC (.str "b")) dNil))) dNil)) dNil))) (dCons (dTup (dCons (dC (.int 1)) (dCons (dTup (dCons (dTup (dCons (dC (.str "a")) (dCons (dC (.str "")) (dCons (dC (.str "b")) dNil)))) (dCons (dTup (dCons (dC (.str "b")) (dCons (dC (.str "")) dNil))) dNil))) dNil))) dNil))) (dgT 2 (dgCons (dgN 0) (dgCons (dgN 1) dgNil)))) (dRet (dTup (dCons (dVar 0) (dCons (dVar 1) (dCons (dTup (dCons (dC (.int 0)) (dCons (dTup (dCons (dTup (dCons (dC (.str "ab")) dNil)) (dCons (dTup (dCons (dC (.str "c")) (dCons (dC (.str "")) (dCons (dC (.str "c")) (dCons (dC (.str "")) dNil))))) dNil))) dNil))) (dCons (dTup (dCons (dC (.int 0)) (dCons (dTup (dCons (dTup (dCons (dC (.str "")) (dCons (dC (.str "")) dNil))) dNil)) dNil))) dNil)))))))
def t_law_some_teeth (s_law_one : DSp) (PX : DX) : DTS :=
  (dSeq (dSet 1 (dCall s_law_one PX (dCons (dVar 0) (dCons (dLst (dCons (dC (.int 0)) (dCons (dC (.int 0)) (dCons (dC (.int 1)) (dCons (dC (.int 1)) (dCons (dC (.int 1)) (dCons (dC (.int 2)) (dCons (dC (.int 3)) dNil)))))))) dNil)))) (dRet (dJoin (dC (.str "")) (dSrtSet (dComp [2] (dRng1 (dCons (dVar 1) dNil)) (dgN 2) dYes (dCall s_law_one DX0 (dCons (dVar 0) (dCons (dLst (dCons (dC (.str "a")) (dCons (dC (.str "b")) (dCons (dC (.str "c")) (dCons (dC (.str "d")) dNil))))) dNil))))))))
def t_law_a_box (s_law_pick : DSp) (s_law_some_teeth : DSp) (s_law_one : DSp) (PX : DX) : DTS :=
  (dSeq (dSet 2 (dLstH dNil)) (dSeq (dFor (dRng1 (dCons (dBin gAdd (dC (.int 1)) (dCall s_law_pick PX (dCons (dVar 0) (dCons (dC (.int 3)) dNil)))) dNil)) (dgN 3) (dSeq (dSet 4 (dApp gTuple (dCons (dComp [5] (dRng1 (dCons (dBin gAdd (dC (.int 1)) (dCall s_law_pick PX (dCons (dVar 0) (dCons (dVar 1) dNil)))) dNil)) (dgN 5) dYes (dCall s_law_some_teeth DX0 (dCons (dVar 0) dNil))) dNil))) (dSeq (dIf (dAnd (dB (dBin gEq (dCall s_law_pick PX (dCons (dVar 0) (dCons (dC (.int 6)) dNil))) (dC (.int 0)))) (dB (dBin gLt (dApp gLen (dCons (dVar 4) dNil)) (dC (.int 4))))) (dSet 4 (dSlice (dBin gAdd (dVar 4) (dVar 4)) dNoPart (dPart (dVar 1)))) dSkip) (dExpr (dAppend (dVar 2) (dVar 4)))))) (dRet (dTup (dCons (dCall s_law_one PX (dCons (dVar 0) (dCons (dLst (dCons (dC (.int 0)) (dCons (dC (.int 0)) (dCons (dC (.int 1)) (dCons (dC (.int 2)) (dCons (dC (.int 3)) dNil)))))) dNil))) (dCons (dApp gTuple (dCons (dVar 2) dNil)) dNil))))))
def t_law_a_start (s_law_pick : DSp) (PX : DX) : DTS :=
  (dRet (dApp gTuple (dCons (dComp [2] (dIter (dBin gIx (dVar 1) (dC (.int 1)))) (dgN 2) dYes (dCall s_law_pick DX0 (dCons (dVar 0) (dCons (dApp gLen (dCons (dVar 2) dNil)) dNil)))) dNil)))
def t_law_k12 (s_law_deck : DSp) (s_law_a_box : DSp) (s_law_writing : DSp) (s_Box_str : DSp) (s_law_value : DSp) (s_Box_read : DSp) (s_Box_source : DSp) (s_read_box : DSp) (s_box_text : DSp) (s_law_same : DSp) (s_law_known : DSp) (kB : Addr) (try_ : (DX → DTE) → DTE) (scr : DTE) (PX : DX) : DTS :=
  (dSeq (dFor (dIter (dSlice scr dNoPart (dPart (dC (.int 10))))) (dgN 1) (dSeq (dSet 2 (dCall s_law_deck PX (dCons (dVar 1) (dCons (dC (.int 12)) dNil)))) (dSeq (dFor (dRng1 (dCons (dC (.int 12)) dNil)) (dgN 3) (dSeq (dSet 4 (dCall s_law_a_box PX (dCons (dVar 2) (dCons (dC (.int 7)) dNil)))) (dSeq (dSet 5 (dCall s_law_writing PX (dCons (dVar 4) dNil))) (dSeq (dSet 6 (dLst (dCons (dCall s_box_text PX (dCons (dVar 4) dNil)) (dCons (dCall s_read_box PX (dCons (dVar 5) dNil)) (dCons (dProp kB s_Box_source (dCMeth kB s_Box_read PX (dC (.ref kB)) (dCons (dVar 5) dNil))) (dCons (dStrO kB s_Box_str PX (dCall s_law_value PX (dCons (dVar 4) dNil))) dNil)))))) (dIf (dNot (dB (dCall s_law_same PX (dCons (dVar 6) (dCons (dLst (dCons (dVar 5) (dCons (dVar 4) (dCons (dVar 4) (dCons (dVar 5) dNil))))) dNil))))) (dRet (dC (.bl false))) dSkip))))) (dFor (dIter (dLst (dCons (dC .non) (dCons (dVar 5) (dCons (dApp gList (dCons (dVar 4) dNil)) (dCons (dSlice (dVar 4) dNoPart (dPart (dC (.int 1)))) dNil)))))) (dgN 7) (dIf (dB (dBin gNe (try_ (fun PX => (dCall s_box_text PX (dCons (dVar 7) dNil)))) (dC (.str "box +")))) (dRet (dC (.bl false))) dSkip))))) (dSeq (dAsg (dCall s_law_known PX dNil) (dgT 4 (dgCons (dgN 8) (dgCons (dgN 9) (dgCons (dgN 10) (dgCons (dgN 11) dgNil)))))) (dSeq (dIf (dOr (dB (dBin gNe (dSplit (dCall s_box_text PX (dCons (dVar 9) dNil)) (dC (.str "\n"))) (dLst (dCons (dC (.str "hold 1")) (dCons (dC (.str "a - b")) (dCons (dC (.str "b -")) dNil)))))) (dB (dBin gNe (dCall s_box_text PX (dCons (dVar 11) dNil)) (dC (.str "hold 0\n- -"))))) (dRet (dC (.bl false))) dSkip) (dSeq (dSet 12 (dTup (dCons (dC (.int 3)) (dCons (dTup (dCons (dTup (dCons (dC (.str "abcd")) dNil)) (dCons (dBin gMul (dTup (dCons (dC (.str "")) dNil)) (dC (.int 7))) (dCons (dTup (dCons (dC (.str "b")) (dCons (dC (.str "ad")) dNil))) dNil)))) dNil)))) (dSeq (dIf (dB (dBin gNe (dBin gIx (dSplit (dCall s_box_text PX (dCons (dVar 12) dNil)) (dC (.str "\n"))) (dC (.int 3))) (dC (.str "b ad")))) (dRet (dC (.bl false))) dSkip) (dRet (dBin gEq (dCall s_read_box PX (dCons (dC (.str "hold 3\nabcd\n- - - - - - -\nb ad")) dNil)) (dVar 12))))))))
def t_need_beginning (s_begins : DSp) (e_InvalidBeginning : Addr) (PX : DX) : DTS :=
  (dIf (dNot (dB (dCall s_begins PX (dCons (dVar 0) (dCons (dVar 1) dNil))))) (dRaise PX (.ref e_InvalidBeginning)) dSkip)
def t_need_tick (s_is_within : DSp) (c_GREAT : D) (e_InvalidTick : Addr) (PX : DX) : DTS :=
  (dIf (dNot (dB (dCall s_is_within PX (dCons (dVar 0) (dCons (dC (.int 0)) (dCons (dC c_GREAT) dNil)))))) (dRaise PX (.ref e_InvalidTick)) dSkip)
def t_items_at (PX : DX) : DTS :=
  (dRet (dComp [3, 4] (dZip (dCons (dVar 1) (dCons (dBin gIx (dVar 0) (dC (.int 1))) dNil))) (dgT 2 (dgCons (dgN 3) (dgCons (dgN 4) dgNil))) dYes (dBin gIx (dVar 4) (dBin gMod (dBin gAdd (dVar 3) (dVar 2)) (dApp gLen (dCons (dVar 4) dNil))))))
def t_chord_at (s_items_at : DSp) (c_TEETH : D) (PX : DX) : DTS :=
  (dSeq (dSet 3 (dJoin (dC (.str "")) (dCall s_items_at PX (dCons (dVar 0) (dCons (dVar 1) (dCons (dVar 2) dNil)))))) (dRet (dJoin (dC (.str "")) (dComp [4] (dIter (dC c_TEETH)) (dgN 4) (dB (dBin (gIn false) (dVar 4) (dVar 3))) (dVar 4)))))
def t_need_number (s_is_within : DSp) (e_InvalidNumber : Addr) (PX : DX) : DTS :=
  (dIf (dNot (dB (dCall s_is_within PX (dCons (dVar 0) (dCons (dC (.int 0)) (dCons (dVar 1) dNil)))))) (dRaise PX (.ref e_InvalidNumber)) dSkip)
def t_chord (s_need_box : DSp) (s_need_beginning : DSp) (s_need_tick : DSp) (s_chord_at : DSp) (PX : DX) : DTS :=
  (dSeq (dExpr (dCall s_need_box PX (dCons (dVar 0) dNil))) (dSeq (dExpr (dCall s_need_beginning PX (dCons (dVar 0) (dCons (dVar 1) dNil)))) (dSeq (dExpr (dCall s_need_tick PX (dCons (dVar 2) dNil))) (dRet (dCall s_chord_at PX (dCons (dVar 0) (dCons (dVar 1) (dCons (dVar 2) dNil))))))))
def t_chords (s_need_box : DSp) (s_need_beginning : DSp) (s_need_tick : DSp) (s_need_number : DSp) (s_chord_at : DSp) (PX : DX) : DTS :=
  (dSeq (dExpr (dCall s_need_box PX (dCons (dVar 0) dNil))) (dSeq (dExpr (dCall s_need_beginning PX (dCons (dVar 0) (dCons (dVar 1) dNil)))) (dSeq (dExpr (dCall s_need_tick PX (dCons (dVar 2) dNil))) (dSeq (dExpr (dCall s_need_number PX (dCons (dVar 3) (dCons (dC (.int 100)) dNil)))) (dRet (dComp [4] (dRng1 (dCons (dVar 3) dNil)) (dgN 4) dYes (dCall s_chord_at DX0 (dCons (dVar 0) (dCons (dVar 1) (dCons (dBin gAdd (dVar 2) (dVar 4)) dNil))))))))))
def t_law_plucks (PX : DX) : DTS :=
  (dSeq (dSet 3 (dLst dNil)) (dSeq (dFor (dRng1 (dCons (dApp gLen (dCons (dVar 1) dNil)) dNil)) (dgN 4) (dSeq (dSet 5 (dBin gIx (dBin gIx (dVar 0) (dC (.int 1))) (dVar 4))) (dSet 3 (dBin gAdd (dVar 3) (dApp gList (dCons (dBin gIx (dVar 5) (dBin gMod (dApp gInt1 (dCons (dBin gAdd (dBin gIx (dVar 1) (dVar 4)) (dVar 2)) dNil)) (dApp gLen (dCons (dVar 5) dNil)))) dNil)))))) (dRet (dApp gSorted (dCons (dVar 3) dNil)))))
def t_law_heard (s_law_plucks : DSp) (PX : DX) : DTS :=
  (dRet (dJoin (dC (.str "")) (dSrtSet (dCall s_law_plucks PX (dCons (dVar 0) (dCons (dVar 1) (dCons (dVar 2) dNil)))))))
def t_need_tooth (s_is_tooth : DSp) (e_InvalidTooth : Addr) (PX : DX) : DTS :=
  (dIf (dNot (dB (dCall s_is_tooth PX (dCons (dVar 0) dNil)))) (dRaise PX (.ref e_InvalidTooth)) dSkip)
def t_tune_of (s_period_of : DSp) (s_chord_at : DSp) (PX : DX) : DTS :=
  (dRet (dApp gTuple (dCons (dComp [2] (dRng1 (dCons (dCall s_period_of PX (dCons (dVar 0) dNil)) dNil)) (dgN 2) dYes (dCall s_chord_at DX0 (dCons (dVar 0) (dCons (dVar 1) (dCons (dVar 2) dNil))))) dNil)))
def t_ticks_of (s_tune_of : DSp) (PX : DX) : DTS :=
  (dRet (dComp [3, 4] (dEnum (dCons (dCall s_tune_of PX (dCons (dVar 0) (dCons (dVar 1) dNil))) dNil)) (dgT 2 (dgCons (dgN 3) (dgCons (dgN 4) dgNil))) (dB (dBin (gIn false) (dVar 2) (dVar 4))) (dVar 3)))
def t_count_sounds (s_need_box : DSp) (s_need_beginning : DSp) (s_need_tooth : DSp) (s_need_number : DSp) (s_period_of : DSp) (s_ticks_of : DSp) (c_GREAT : D) (PX : DX) : DTS :=
  (dSeq (dExpr (dCall s_need_box PX (dCons (dVar 0) dNil))) (dSeq (dExpr (dCall s_need_beginning PX (dCons (dVar 0) (dCons (dVar 1) dNil)))) (dSeq (dExpr (dCall s_need_tooth PX (dCons (dVar 2) dNil))) (dSeq (dExpr (dCall s_need_number PX (dCons (dVar 3) (dCons (dC c_GREAT) dNil)))) (dSeq (dAsg (dTup (dCons (dCall s_ticks_of PX (dCons (dVar 0) (dCons (dVar 1) (dCons (dVar 2) dNil)))) (dCons (dCall s_period_of PX (dCons (dVar 0) dNil)) dNil))) (dgT 2 (dgCons (dgN 4) (dgCons (dgN 5) dgNil)))) (dRet (dBin gAdd (dBin gMul (dBin gDiv (dVar 3) (dVar 5)) (dApp gLen (dCons (dVar 4) dNil))) (dApp gLen (dCons (dComp [6] (dIter (dVar 4)) (dgN 6) (dB (dBin gLt (dVar 6) (dBin gMod (dVar 3) (dVar 5)))) (dVar 6)) dNil)))))))))
def t_nth_sound (s_need_box : DSp) (s_need_beginning : DSp) (s_need_tooth : DSp) (s_need_number : DSp) (s_ticks_of : DSp) (s_period_of : DSp) (c_GREAT : D) (PX : DX) : DTS :=
  (dSeq (dExpr (dCall s_need_box PX (dCons (dVar 0) dNil))) (dSeq (dExpr (dCall s_need_beginning PX (dCons (dVar 0) (dCons (dVar 1) dNil)))) (dSeq (dExpr (dCall s_need_tooth PX (dCons (dVar 2) dNil))) (dSeq (dExpr (dCall s_need_number PX (dCons (dVar 3) (dCons (dC c_GREAT) dNil)))) (dSeq (dSet 4 (dCall s_ticks_of PX (dCons (dVar 0) (dCons (dVar 1) (dCons (dVar 2) dNil))))) (dSeq (dIf (dB (dBin gEq (dVar 4) (dLst dNil))) (dRet (dC .non)) dSkip) (dRet (dBin gAdd (dBin gMul (dBin gDiv (dVar 3) (dApp gLen (dCons (dVar 4) dNil))) (dCall s_period_of PX (dCons (dVar 0) dNil))) (dBin gIx (dVar 4) (dBin gMod (dVar 3) (dApp gLen (dCons (dVar 4) dNil))))))))))))
def t_is_clash (s_items_at : DSp) (s_chord_at : DSp) (PX : DX) : DTS :=
  (dSeq (dSet 3 (dJoin (dC (.str "")) (dCall s_items_at PX (dCons (dVar 0) (dCons (dVar 1) (dCons (dVar 2) dNil)))))) (dSeq (dIf (dB (dBin gGt (dApp gLen (dCons (dVar 3) dNil)) (dLenSet (dVar 3)))) (dRet (dC (.bl true))) dSkip) (dSeq (dSet 4 (dComp [5] (dRng2 (dCons (dApp gMax2 (dCons (dC (.int 0)) (dCons (dBin gSub (dVar 2) (dBin gIx (dVar 0) (dC (.int 0)))) dNil))) (dCons (dVar 2) dNil))) (dgN 5) dYes (dCall s_chord_at DX0 (dCons (dVar 0) (dCons (dVar 1) (dCons (dVar 5) dNil)))))) (dRet (dApp gAny (dCons (dComp2 [6, 7] [7] (dIter (dVar 3)) (dgN 6) dYes (dIter (dVar 4)) (dgN 7) dYes (dBin (gIn false) (dVar 6) (dVar 7))) dNil))))))
def t_first_of (s_period_of : DSp) (s_is_clash : DSp) (PX : DX) : DTS :=
  (dSeq (dFor (dRng1 (dCons (dBin gAdd (dCall s_period_of PX (dCons (dVar 0) dNil)) (dBin gIx (dVar 0) (dC (.int 0)))) dNil)) (dgN 2) (dIf (dB (dCall s_is_clash PX (dCons (dVar 0) (dCons (dVar 1) (dCons (dVar 2) dNil))))) (dRet (dVar 2)) dSkip)) (dRet (dC .non)))
def t_clean_ones (s_all_beginnings : DSp) (s_first_of : DSp) (PX : DX) : DTS :=
  (dRet (dComp [1] (dIter (dCall s_all_beginnings PX (dCons (dVar 0) dNil))) (dgN 1) (dB (dBin gIsN (dCall s_first_of DX0 (dCons (dVar 0) (dCons (dVar 1) dNil))) (dC .non))) (dVar 1)))
def t_wall (PX : DX) : DTS :=
  (dWhile (dB (dC (.bl true))) dSkip)
def t_word_of (PX : DX) : DTS :=
  (dRet (dIfE (dB (dBin gEq (dVar 0) (dC (.str "")))) (dC (.str "-")) (dVar 0)))
def t_lines_of (s_word_of : DSp) (PX : DX) : DTS :=
  (dRet (dBin gAdd (dLst (dCons (dFmtI "hold " (dBin gIx (dVar 0) (dC (.int 0)))) dNil)) (dComp [1] (dIter (dBin gIx (dVar 0) (dC (.int 1)))) (dgN 1) dYes (dJoin (dC (.str " ")) (dComp [2] (dIter (dVar 1)) (dgN 2) dYes (dCall s_word_of DX0 (dCons (dVar 2) dNil)))))))
def t_teeth_in (s_are_teeth : DSp) (PX : DX) : DTS :=
  (dSeq (dIf (dB (dBin gEq (dVar 0) (dC (.str "-")))) (dRet (dC (.str ""))) dSkip) (dRet (dIfE (dAnd (dB (dBin gNe (dVar 0) (dC (.str "")))) (dB (dCall s_are_teeth PX (dCons (dVar 0) dNil)))) (dVar 0) (dC .non))))
def t_barrel_in (s_teeth_in : DSp) (s_is_barrel : DSp) (PX : DX) : DTS :=
  (dSeq (dSet 1 (dApp gTuple (dCons (dComp [2] (dIter (dSplit (dVar 0) (dC (.str " ")))) (dgN 2) dYes (dCall s_teeth_in DX0 (dCons (dVar 2) dNil))) dNil))) (dRet (dIfE (dAnd (dB (dBin (gIn true) (dC .non) (dVar 1))) (dB (dCall s_is_barrel PX (dCons (dVar 1) dNil)))) (dVar 1) (dC .non))))
def t_box_in (s_barrel_in : DSp) (s_is_box_value : DSp) (c_HOLDS : D) (PX : DX) : DTS :=
  (dSeq (dIf (dNot (dB (dApp gIsi (dCons (dVar 0) (dCons (dC (.ty "str")) dNil))))) dNo dSkip) (dSeq (dSet 1 (dSplit (dVar 0) (dC (.str "\n")))) (dSeq (dIf (dB (dBin (gIn true) (dBin gIx (dVar 1) (dC (.int 0))) (dC c_HOLDS))) dNo dSkip) (dSeq (dSet 2 (dLstH dNil)) (dSeq (dFor (dEnum (dCons (dSlice (dVar 1) (dPart (dC (.int 1))) dNoPart) dNil)) (dgT 2 (dgCons (dgN 3) (dgCons (dgN 4) dgNil))) (dSeq (dSet 5 (dCall s_barrel_in PX (dCons (dVar 4) dNil))) (dSeq (dIf (dB (dBin gIsN (dVar 5) (dC .non))) dNo dSkip) (dExpr (dAppend (dVar 2) (dVar 5)))))) (dSeq (dFrz 2 (dSet 6 (dTup (dCons (dTIx holdsL (dBin gIx (dVar 1) (dC (.int 0)))) (dCons (dApp gTuple (dCons (dVar 2) dNil)) dNil))))) (dSeq (dIf (dNot (dB (dCall s_is_box_value PX (dCons (dVar 6) dNil)))) dNo dSkip) (dRet (dVar 6)))))))))
def t_box_text (s_need_box : DSp) (s_lines_of : DSp) (PX : DX) : DTS :=
  (dSeq (dExpr (dCall s_need_box PX (dCons (dVar 0) dNil))) (dRet (dJoin (dC (.str "\n")) (dCall s_lines_of PX (dCons (dVar 0) dNil)))))
def t_read_box (s_box_in : DSp) (PX : DX) : DTS :=
  (dRet (dCall s_box_in PX (dCons (dVar 0) dNil)))
def t_checked (s_is_box_value : DSp) (e_InvalidBox : Addr) (PX : DX) : DTS :=
  (dSeq (dIf (dNot (dB (dCall s_is_box_value PX (dCons (dVar 0) dNil)))) (dRaise PX (.ref e_InvalidBox)) dSkip) (dRet (dVar 0)))
def t_law_writing (PX : DX) : DTS :=
  (dSeq (dSet 1 (dLstH (dCons (dBin gAdd (dC (.str "hold ")) (dApp gStr1 (dCons (dBin gIx (dVar 0) (dC (.int 0))) dNil))) dNil))) (dSeq (dFor (dIter (dBin gIx (dVar 0) (dC (.int 1)))) (dgN 2) (dExpr (dAppend (dVar 1) (dJoin (dC (.str " ")) (dComp [3] (dIter (dVar 2)) (dgN 3) dYes (dIfE (dB (dBin gNe (dVar 3) (dC (.str "")))) (dVar 3) (dC (.str "-")))))))) (dFrz 1 (dRet (dJoin (dC (.str "\n")) (dVar 1))))))
def t_law_value (s_Box_init : DSp) (s_Box_add : DSp) (kB : Addr) (PX : DX) : DTS :=
  (dSeq (dSet 1 (dMake kB s_Box_init PX (dCons (dBin gIx (dVar 0) (dC (.int 0))) (dCons (dBin gIx (dBin gIx (dVar 0) (dC (.int 1))) (dC (.int 0))) dNil)))) (dSeq (dFor (dIter (dSlice (dBin gIx (dVar 0) (dC (.int 1))) (dPart (dC (.int 1))) dNoPart)) (dgN 2) (dSet 1 (dBinO kB s_Box_add PX (dVar 1) (dVar 2)))) (dRet (dVar 1))))
def t_Box_init (s_need_box : DSp) (kB : Addr) (PX : DX) : DTS :=
  (dSeq (dExpr (dCall s_need_box PX (dCons (dTup (dCons (dVar 1) (dCons (dVar 2) dNil))) dNil))) (dSetFld kB "whole" (dVar 0) (dTup (dCons (dVar 1) (dCons (dVar 2) dNil)))))
def t_Box_read (s_box_in : DSp) (s_Box_init : DSp) (kB : Addr) (PX : DX) : DTS :=
  (dSeq (dAsg (dCall s_box_in PX (dCons (dVar 1) dNil)) (dgT 2 (dgCons (dgN 2) (dgCons (dgN 3) dgNil)))) (dRet (dMakeL 0 kB s_Box_init PX (dCons (dVar 2) (dStar (dVar 3) dNil)))))
def t_Box_source_k12 (kB : Addr) (PX : DX) : DTS :=
  (dRet (dFld kB "whole" (dVar 0)))
def t_Box_made (s_checked : DSp) (s_Box_init : DSp) (kB : Addr) (PX : DX) : DTS :=
  (dSeq (dAsg (dCall s_checked PX (dCons (dTup (dCons (dBin gIx (dFld kB "whole" (dVar 0)) (dC (.int 0))) (dCons (dVar 1) dNil))) dNil)) (dgT 2 (dgCons (dgN 2) (dgCons (dgN 3) dgNil)))) (dRet (dMake kB s_Box_init PX (dCons (dVar 2) (dStar (dVar 3) dNil)))))
def t_Box_add (s_Box_made : DSp) (kB : Addr) (PX : DX) : DTS :=
  (dRet (dMeth kB "made" s_Box_made PX (dVar 0) (dCons (dBin gAdd (dBin gIx (dFld kB "whole" (dVar 0)) (dC (.int 1))) (dTup (dCons (dVar 1) dNil))) dNil)))
def t_Box_str (s_lines_of : DSp) (kB : Addr) (PX : DX) : DTS :=
  (dRet (dJoin (dC (.str "\n")) (dCall s_lines_of PX (dCons (dFld kB "whole" (dVar 0)) dNil))))
end DL

set_option Elab.async false
set_option linter.all false
set_option maxRecDepth 100000
set_option maxHeartbeats 4000000
namespace DL
open PySem PySem.Spec PyProof.Rows L2
def topS (i : Nat) : Stmt := PySem.Challenge.pw_barrelsuntold_k12_boxes_written_and_read.main.body.getD i (.Pass ⟨0, 0, 0, 0⟩)
def clsS (s : Stmt) (j : Nat) : Stmt := match s with
  | .ClassDef (body := b) .. => b.getD j (.Pass ⟨0, 0, 0, 0⟩)
  | _ => .Pass ⟨0, 0, 0, 0⟩
section
variable {P : Program} {w : World} {K : Fg} {mg : Str → Option Value} {base : Heap}
abbrev st_wall : Stmt := topS 0
theorem sc_wall : FnScope ["k"] ["k"] (defScope st_wall) := ⟨rfl, rfl, rfl, by decide +kernel, rfl, by decide +kernel, by decide +kernel⟩
theorem ok_wall {sp : DSp} (df : DefAt K mg "_wall" ["k"] st_wall)  (len : ∀ ds M P PX, sp ds M P PX → ds.length = 1)
    (law : ∀ ds M P1 PX, sp ds M P1 PX → t_wall PX (dEnds P1) (dst 1 ds) M) : Cal P w K mg base 1 "_wall" ["k"] sp :=
  have sc := sc_wall
  dcal (t := t_wall) df sc len (fun f cdv A outer s H E c cx => by
    exact (d_last (d_while cx.hp (d_tval d_bl) (d_last d_pass)))) law
abbrev st_is_within : Stmt := topS 18
theorem sc_is_within : FnScope ["value", "low", "high"] ["value", "low", "high"] (defScope st_is_within) := ⟨rfl, rfl, rfl, by decide +kernel, rfl, by decide +kernel, by decide +kernel⟩
theorem ok_is_within {sp : DSp} (df : DefAt K mg "is_within" ["value", "low", "high"] st_is_within) (B : Blt mg) (len : ∀ ds M P PX, sp ds M P PX → ds.length = 3)
    (law : ∀ ds M P1 PX, sp ds M P1 PX → t_is_within PX (dEnds P1) (dst 3 ds) M) : Cal P w K mg base 1 "is_within" ["value", "low", "high"] sp :=
  have sc := sc_is_within
  dcal (t := t_is_within) df sc len (fun f cdv A outer s H E c cx => by
    exact (d_last (d_ret (d_andV (d_fn call_isi ol_isi (by rfl) B.b_isinstance (by decide +kernel) (d_acons (d_var 0 (pv 0)) (d_acons (d_tyname "int" (by rfl) B.b_int (by decide +kernel) (by decide)) d_anil))) (d_andV (d_notV (d_fn call_isi ol_isi (by rfl) B.b_isinstance (by decide +kernel) (d_acons (d_var 0 (pv 0)) (d_acons (d_tyname "bool" (by rfl) B.b_bool (by decide +kernel) (by decide)) d_anil)))) (d_one (d_chain op_le op_le og_le og_le (d_var 1 (pv 1)) (d_var 0 (pv 0)) (d_var 2 (pv 2)) (fun a b e => pe_chain op_le op_le a b e)))))))) law
abbrev st_has_items : Stmt := topS 19
theorem sc_has_items : FnScope ["value", "low", "high"] ["value", "low", "high"] (defScope st_has_items) := ⟨rfl, rfl, rfl, by decide +kernel, rfl, by decide +kernel, by decide +kernel⟩
theorem ok_has_items {sp : DSp} (df : DefAt K mg "has_items" ["value", "low", "high"] st_has_items) (B : Blt mg) (len : ∀ ds M P PX, sp ds M P PX → ds.length = 3)
    (law : ∀ ds M P1 PX, sp ds M P1 PX → t_has_items PX (dEnds P1) (dst 3 ds) M) : Cal P w K mg base 1 "has_items" ["value", "low", "high"] sp :=
  have sc := sc_has_items
  dcal (t := t_has_items) df sc len (fun f cdv A outer s H E c cx => by
    exact (d_last (d_ret (d_andV (d_fn call_isi ol_isi (by rfl) B.b_isinstance (by decide +kernel) (d_acons (d_var 0 (pv 0)) (d_acons (d_tyname "tuple" (by rfl) B.b_tuple (by decide +kernel) (by decide)) d_anil))) (d_one (d_chain op_le op_le og_le og_le (d_var 1 (pv 1)) (d_fn call_len ol_len (by rfl) B.b_len (by decide +kernel) (d_acons (d_var 0 (pv 0)) d_anil)) (d_var 2 (pv 2)) (fun a b e => pe_chain op_le op_le a b e))))))) law
abbrev st_is_tooth : Stmt := topS 20
theorem sc_is_tooth : FnScope ["value"] ["value"] (defScope st_is_tooth) := ⟨rfl, rfl, rfl, by decide +kernel, rfl, by decide +kernel, by decide +kernel⟩
theorem ok_is_tooth {c_TEETH : D} {sp : DSp} (df : DefAt K mg "is_tooth" ["value"] st_is_tooth) (g_TEETH : GCon K mg "TEETH" c_TEETH) (B : Blt mg) (len : ∀ ds M P PX, sp ds M P PX → ds.length = 1)
    (law : ∀ ds M P1 PX, sp ds M P1 PX → t_is_tooth c_TEETH PX (dEnds P1) (dst 1 ds) M) : Cal P w K mg base 1 "is_tooth" ["value"] sp :=
  have sc := sc_is_tooth
  dcal (t := t_is_tooth c_TEETH) df sc len (fun f cdv A outer s H E c cx => by
    exact (d_last (d_ret (d_andV (d_fn call_isi ol_isi (by rfl) B.b_isinstance (by decide +kernel) (d_acons (d_var 0 (pv 0)) (d_acons (d_tyname "str" (by rfl) B.b_str (by decide +kernel) (by decide)) d_anil))) (d_one (d_cmp (op_inA (hu65 cx.hr)) og_in (d_var 0 (pv 0)) (d_glob (by rfl) g_TEETH) (by rfl))))))) law
abbrev st_are_teeth : Stmt := topS 21
theorem sc_are_teeth : FnScope ["value", "tooth"] ["value"] (defScope st_are_teeth) := ⟨rfl, rfl, rfl, by decide +kernel, rfl, by decide +kernel, by decide +kernel⟩
theorem ok_are_teeth {c_TEETH : D} {sp : DSp} (df : DefAt K mg "are_teeth" ["value"] st_are_teeth) (g_TEETH : GCon K mg "TEETH" c_TEETH) (B : Blt mg) (len : ∀ ds M P PX, sp ds M P PX → ds.length = 1)
    (law : ∀ ds M P1 PX, sp ds M P1 PX → t_are_teeth c_TEETH PX (dEnds P1) (dst 2 ds) M) : Cal P w K mg base 1 "are_teeth" ["value"] sp :=
  have sc := sc_are_teeth
  dcal (t := t_are_teeth c_TEETH) df sc len (fun f cdv A outer s H E c cx => by
    exact (d_last (d_ret (d_andV (d_fn call_isi ol_isi (by rfl) B.b_isinstance (by decide +kernel) (d_acons (d_var 0 (pv 0)) (d_acons (d_tyname "str" (by rfl) B.b_str (by decide +kernel) (by decide)) d_anil))) (d_one (d_cmp (op_eqD cx.hr.units) og_eq (d_var 0 (pv 0)) (d_join d_str (d_lc (own := [("tooth", 1)]) rfl sc.nd (d_iter (d_glob (by rfl) g_TEETH)) (blkOk_by (N := ["value", "tooth"]) (sc := (defScope st_are_teeth)) (by decide +kernel)) (fun _ _ _ _ _ => (d_gn (i := 1) sc.nd rfl (.inl rfl) (by decide))) (fun _ _ _ _ _ => (d_tsone (d_tcmp (op_inA (hu65 cx.hr)) og_in (d_var 1 (pv 1)) (d_var 0 (pv 0)) (by rfl)))) (fun _ _ _ _ _ => (d_var 1 (pv 1))))) (nomark _))))))) law
abbrev st_is_barrel : Stmt := topS 22
theorem sc_is_barrel : FnScope ["value", "item"] ["value"] (defScope st_is_barrel) := ⟨rfl, rfl, rfl, by decide +kernel, rfl, by decide +kernel, by decide +kernel⟩
theorem ok_is_barrel {s_has_items : DSp} {s_are_teeth : DSp} {sp : DSp} (df : DefAt K mg "is_barrel" ["value"] st_is_barrel) (h_has_items : Cal P w K mg base 1 "has_items" ["value", "low", "high"] s_has_items) (h_are_teeth : Cal P w K mg base 1 "are_teeth" ["value"] s_are_teeth) (B : Blt mg) (len : ∀ ds M P PX, sp ds M P PX → ds.length = 1)
    (law : ∀ ds M P1 PX, sp ds M P1 PX → t_is_barrel s_has_items s_are_teeth PX (dEnds P1) (dst 2 ds) M) : Cal P w K mg base 2 "is_barrel" ["value"] sp :=
  have sc := sc_is_barrel
  dcal (t := t_is_barrel s_has_items s_are_teeth) df sc len (fun f cdv A outer s H E c cx => by
    exact (d_last (d_ret (d_andV (d_call h_has_items cx.hr (by omega) (by rfl) cx.tk (d_acons (d_var 0 (pv 0)) (d_acons d_int (d_acons d_int d_anil)))) (d_one (d_fn (cr_all rfl) ol_all (by rfl) B.b_all (by decide +kernel) (d_acons (d_lc (own := [("item", 1)]) rfl sc.nd (d_iter (d_var 0 (pv 0))) (blkOk_by (N := ["value", "item"]) (sc := (defScope st_is_barrel)) (by decide +kernel)) (fun _ _ _ _ _ => (d_gn (i := 1) sc.nd rfl (.inl rfl) (by decide))) (fun _ _ _ _ _ => d_tsnil) (fun _ _ _ _ _ => (d_call h_are_teeth cx.hr (by omega) (by rfl) takes_mute (d_acons (d_var 1 (pv 1)) d_anil)))) d_anil))))))) law
abbrev st_is_box_value : Stmt := topS 23
theorem sc_is_box_value : FnScope ["value", "barrel"] ["value"] (defScope st_is_box_value) := ⟨rfl, rfl, rfl, by decide +kernel, rfl, by decide +kernel, by decide +kernel⟩
theorem ok_is_box_value {s_has_items : DSp} {s_is_within : DSp} {s_is_barrel : DSp} {sp : DSp} (df : DefAt K mg "is_box_value" ["value"] st_is_box_value) (h_has_items : Cal P w K mg base 1 "has_items" ["value", "low", "high"] s_has_items) (h_is_within : Cal P w K mg base 1 "is_within" ["value", "low", "high"] s_is_within) (h_is_barrel : Cal P w K mg base 2 "is_barrel" ["value"] s_is_barrel) (B : Blt mg) (len : ∀ ds M P PX, sp ds M P PX → ds.length = 1)
    (law : ∀ ds M P1 PX, sp ds M P1 PX → t_is_box_value s_has_items s_is_within s_is_barrel PX (dEnds P1) (dst 2 ds) M) : Cal P w K mg base 3 "is_box_value" ["value"] sp :=
  have sc := sc_is_box_value
  dcal (t := t_is_box_value s_has_items s_is_within s_is_barrel) df sc len (fun f cdv A outer s H E c cx => by
    exact (d_seq (d_if (d_wt (d_or (d_not (d_tval (d_call h_has_items cx.hr (by omega) (by rfl) cx.tk (d_acons (d_var 0 (pv 0)) (d_acons d_int (d_acons d_int d_anil)))))) (d_or1 (d_not (d_tval (d_call h_is_within cx.hr (by omega) (by rfl) cx.tk (d_acons (d_index (d_var 0 (pv 0)) d_int (fun _ _ => rfl)) (d_acons d_int (d_acons d_int d_anil))))))))) (d_last (d_ret d_bl)) d_nil) (d_last (d_ret (d_andV (d_call h_has_items cx.hr (by omega) (by rfl) cx.tk (d_acons (d_index (d_var 0 (pv 0)) d_int (fun _ _ => rfl)) (d_acons d_int (d_acons d_int d_anil)))) (d_one (d_fn (cr_all rfl) ol_all (by rfl) B.b_all (by decide +kernel) (d_acons (d_lc (own := [("barrel", 1)]) rfl sc.nd (d_iter (d_index (d_var 0 (pv 0)) d_int (fun _ _ => rfl))) (blkOk_by (N := ["value", "barrel"]) (sc := (defScope st_is_box_value)) (by decide +kernel)) (fun _ _ _ _ _ => (d_gn (i := 1) sc.nd rfl (.inl rfl) (by decide))) (fun _ _ _ _ _ => d_tsnil) (fun _ _ _ _ _ => (d_call h_is_barrel cx.hr (by omega) (by rfl) takes_mute (d_acons (d_var 1 (pv 1)) d_anil)))) d_anil)))))))) law
abbrev st_begins : Stmt := topS 24
theorem sc_begins : FnScope ["box", "value", "number", "barrel"] ["box", "value"] (defScope st_begins) := ⟨rfl, rfl, rfl, by decide +kernel, rfl, by decide +kernel, by decide +kernel⟩
theorem ok_begins {s_has_items : DSp} {s_is_within : DSp} {sp : DSp} (df : DefAt K mg "begins" ["box", "value"] st_begins) (h_has_items : Cal P w K mg base 1 "has_items" ["value", "low", "high"] s_has_items) (h_is_within : Cal P w K mg base 1 "is_within" ["value", "low", "high"] s_is_within) (B : Blt mg) (len : ∀ ds M P PX, sp ds M P PX → ds.length = 2)
    (law : ∀ ds M P1 PX, sp ds M P1 PX → t_begins s_has_items s_is_within PX (dEnds P1) (dst 4 ds) M) : Cal P w K mg base 2 "begins" ["box", "value"] sp :=
  have sc := sc_begins
  dcal (t := t_begins s_has_items s_is_within) df sc len (fun f cdv A outer s H E c cx => by
    exact (d_seq (d_if (d_not (d_tval (d_call h_has_items cx.hr (by omega) (by rfl) cx.tk (d_acons (d_var 1 (pv 1)) (d_acons (d_fn call_len ol_len (by rfl) B.b_len (by decide +kernel) (d_acons (d_index (d_var 0 (pv 0)) d_int (fun _ _ => rfl)) d_anil)) (d_acons (d_fn call_len ol_len (by rfl) B.b_len (by decide +kernel) (d_acons (d_index (d_var 0 (pv 0)) d_int (fun _ _ => rfl)) d_anil)) d_anil)))))) (d_last (d_ret d_bl)) d_nil) (d_last (d_ret (d_fn (cr_all rfl) ol_all (by rfl) B.b_all (by decide +kernel) (d_acons (d_lc (own := [("number", 2), ("barrel", 3)]) rfl sc.nd (d_zip (by rfl) B.b_zip (d_acons (d_var 1 (pv 1)) (d_acons (d_index (d_var 0 (pv 0)) d_int (fun _ _ => rfl)) d_anil))) (blkOk_by (N := ["box", "value", "number", "barrel"]) (sc := (defScope st_begins)) (by decide +kernel)) (fun _ _ _ _ _ => (d_gt rfl (d_gcons (d_gn (i := 2) sc.nd rfl (.inl rfl) (by decide)) (d_gcons (d_gn (i := 3) sc.nd rfl (.inl rfl) (by decide)) d_gnil)))) (fun _ _ _ _ _ => d_tsnil) (fun _ _ _ _ _ => (d_call h_is_within cx.hr (by omega) (by rfl) takes_mute (d_acons (d_var 2 (pv 2)) (d_acons d_int (d_acons (d_sub (d_fn call_len ol_len (by rfl) B.b_len (by decide +kernel) (d_acons (d_var 3 (pv 3)) d_anil)) d_int) d_anil)))))) d_anil)))))) law
abbrev st_need_box : Stmt := topS 25
theorem sc_need_box : FnScope ["value"] ["value"] (defScope st_need_box) := ⟨rfl, rfl, rfl, by decide +kernel, rfl, by decide +kernel, by decide +kernel⟩
theorem ok_need_box {s_is_box_value : DSp} {e_InvalidBox : Addr} {sp : DSp} (df : DefAt K mg "need_box" ["value"] st_need_box) (h_is_box_value : Cal P w K mg base 3 "is_box_value" ["value"] s_is_box_value) (x_InvalidBox : ErrAt K mg "InvalidBox" e_InvalidBox) (len : ∀ ds M P PX, sp ds M P PX → ds.length = 1)
    (law : ∀ ds M P1 PX, sp ds M P1 PX → t_need_box s_is_box_value e_InvalidBox PX (dEnds P1) (dst 1 ds) M) : Cal P w K mg base 4 "need_box" ["value"] sp :=
  have sc := sc_need_box
  dcal (t := t_need_box s_is_box_value e_InvalidBox) df sc len (fun f cdv A outer s H E c cx => by
    exact (d_last (d_if (d_not (d_tval (d_call h_is_box_value cx.hr (by omega) (by rfl) cx.tk (d_acons (d_var 0 (pv 0)) d_anil)))) (d_last (d_raiseE rfl cx.tk x_InvalidBox (by rfl))) d_nil))) law
abbrev st_need_beginning : Stmt := topS 26
theorem sc_need_beginning : FnScope ["box", "value"] ["box", "value"] (defScope st_need_beginning) := ⟨rfl, rfl, rfl, by decide +kernel, rfl, by decide +kernel, by decide +kernel⟩
theorem ok_need_beginning {s_begins : DSp} {e_InvalidBeginning : Addr} {sp : DSp} (df : DefAt K mg "need_beginning" ["box", "value"] st_need_beginning) (h_begins : Cal P w K mg base 2 "begins" ["box", "value"] s_begins) (x_InvalidBeginning : ErrAt K mg "InvalidBeginning" e_InvalidBeginning) (len : ∀ ds M P PX, sp ds M P PX → ds.length = 2)
    (law : ∀ ds M P1 PX, sp ds M P1 PX → t_need_beginning s_begins e_InvalidBeginning PX (dEnds P1) (dst 2 ds) M) : Cal P w K mg base 3 "need_beginning" ["box", "value"] sp :=
  have sc := sc_need_beginning
  dcal (t := t_need_beginning s_begins e_InvalidBeginning) df sc len (fun f cdv A outer s H E c cx => by
    exact (d_last (d_if (d_not (d_tval (d_call h_begins cx.hr (by omega) (by rfl) cx.tk (d_acons (d_var 0 (pv 0)) (d_acons (d_var 1 (pv 1)) d_anil))))) (d_last (d_raiseE rfl cx.tk x_InvalidBeginning (by rfl))) d_nil))) law
abbrev st_need_tick : Stmt := topS 27
theorem sc_need_tick : FnScope ["value"] ["value"] (defScope st_need_tick) := ⟨rfl, rfl, rfl, by decide +kernel, rfl, by decide +kernel, by decide +kernel⟩
theorem ok_need_tick {s_is_within : DSp} {c_GREAT : D} {e_InvalidTick : Addr} {sp : DSp} (df : DefAt K mg "need_tick" ["value"] st_need_tick) (h_is_within : Cal P w K mg base 1 "is_within" ["value", "low", "high"] s_is_within) (g_GREAT : GCon K mg "GREAT" c_GREAT) (x_InvalidTick : ErrAt K mg "InvalidTick" e_InvalidTick) (len : ∀ ds M P PX, sp ds M P PX → ds.length = 1)
    (law : ∀ ds M P1 PX, sp ds M P1 PX → t_need_tick s_is_within c_GREAT e_InvalidTick PX (dEnds P1) (dst 1 ds) M) : Cal P w K mg base 2 "need_tick" ["value"] sp :=
  have sc := sc_need_tick
  dcal (t := t_need_tick s_is_within c_GREAT e_InvalidTick) df sc len (fun f cdv A outer s H E c cx => by
    exact (d_last (d_if (d_not (d_tval (d_call h_is_within cx.hr (by omega) (by rfl) cx.tk (d_acons (d_var 0 (pv 0)) (d_acons d_int (d_acons (d_glob (by rfl) g_GREAT) d_anil)))))) (d_last (d_raiseE rfl cx.tk x_InvalidTick (by rfl))) d_nil))) law
abbrev st_gcd : Stmt := topS 28
theorem sc_gcd : FnScope ["one", "other"] ["one", "other"] (defScope st_gcd) := ⟨rfl, rfl, rfl, by decide +kernel, rfl, by decide +kernel, by decide +kernel⟩
theorem ok_gcd {sp : DSp} (df : DefAt K mg "gcd" ["one", "other"] st_gcd)  (len : ∀ ds M P PX, sp ds M P PX → ds.length = 2)
    (law : ∀ ds M P1 PX, sp ds M P1 PX → t_gcd PX (dEnds P1) (dst 2 ds) M) : Cal P w K mg base 1 "gcd" ["one", "other"] sp :=
  have sc := sc_gcd
  dcal (t := t_gcd) df sc len (fun f cdv A outer s H E c cx => by
    exact (d_seq (d_while cx.hp (d_tcmp op_gt og_gt (d_var 1 (pv 1)) d_int (nomark _)) (d_last (d_par (i := 0) (j := 1) rfl sc.nd rfl rfl (by decide) rfl rfl (d_acons (d_var 1 (pv 1)) (d_acons (d_mod (d_var 0 (pv 0)) (d_var 1 (pv 1))) d_anil)) (by rfl)))) (d_last (d_ret (d_var 0 (pv 0)))))) law
abbrev st_period_of : Stmt := topS 29
theorem sc_period_of : FnScope ["box", "found", "barrel"] ["box"] (defScope st_period_of) := ⟨rfl, rfl, rfl, by decide +kernel, rfl, by decide +kernel, by decide +kernel⟩
theorem ok_period_of {s_gcd : DSp} {sp : DSp} (df : DefAt K mg "period_of" ["box"] st_period_of) (h_gcd : Cal P w K mg base 1 "gcd" ["one", "other"] s_gcd) (B : Blt mg) (len : ∀ ds M P PX, sp ds M P PX → ds.length = 1)
    (law : ∀ ds M P1 PX, sp ds M P1 PX → t_period_of s_gcd PX (dEnds P1) (dst 3 ds) M) : Cal P w K mg base 2 "period_of" ["box"] sp :=
  have sc := sc_period_of
  dcal (t := t_period_of s_gcd) df sc len (fun f cdv A outer s H E c cx => by
    exact (d_seq (d_set (i := 1) sc.nd rfl (.inl rfl) d_int) (d_seq (d_for (vs := [2]) cx.hp rfl (d_iter (d_index (d_var 0 (pv 0)) d_int (fun _ _ => rfl))) (d_gn (i := 2) sc.nd rfl (.inl rfl) (by decide)) (d_last (d_set (i := 1) sc.nd rfl (.inl rfl) (d_div (d_mul (d_var 1 (pv 1)) (d_fn call_len ol_len (by rfl) B.b_len (by decide +kernel) (d_acons (d_var 2 (pv 2)) d_anil))) (d_call h_gcd cx.hr (by omega) (by rfl) cx.tk (d_acons (d_var 1 (pv 1)) (d_acons (d_fn call_len ol_len (by rfl) B.b_len (by decide +kernel) (d_acons (d_var 2 (pv 2)) d_anil)) d_anil))))))) (d_last (d_ret (d_var 1 (pv 1))))))) law
abbrev st_all_beginnings : Stmt := topS 30
theorem sc_all_beginnings : FnScope ["box", "found", "barrel", "row", "number"] ["box"] (defScope st_all_beginnings) := ⟨rfl, rfl, rfl, by decide +kernel, rfl, by decide +kernel, by decide +kernel⟩
theorem ok_all_beginnings {sp : DSp} (df : DefAt K mg "all_beginnings" ["box"] st_all_beginnings) (B : Blt mg) (len : ∀ ds M P PX, sp ds M P PX → ds.length = 1)
    (law : ∀ ds M P1 PX, sp ds M P1 PX → t_all_beginnings PX (dEnds P1) (dst 5 ds) M) : Cal P w K mg base 1 "all_beginnings" ["box"] sp :=
  have sc := sc_all_beginnings
  dcal (t := t_all_beginnings) df sc len (fun f cdv A outer s H E c cx => by
    exact (d_seq (d_set (i := 1) sc.nd rfl (.inl rfl) (d_lst (d_acons (d_tup d_anil) d_anil))) (d_seq (d_for (vs := [2]) cx.hp rfl (d_iter (d_index (d_var 0 (pv 0)) d_int (fun _ _ => rfl))) (d_gn (i := 2) sc.nd rfl (.inr rfl) (by decide)) (d_last (d_setLc2 (i := 1) (own := [("row", 3), ("number", 4)]) (vs1 := [4]) rfl sc.nd rfl rfl (sw_true rfl rfl rfl (by decide +kernel)) (d_iter (d_var 1 (pv 1))) (blkOk_by (N := ["box", "found", "barrel", "row", "number"]) (sc := (defScope st_all_beginnings)) (by decide +kernel)) (by decide) (fun _ _ _ _ _ => (d_gn (i := 3) sc.nd rfl (.inl rfl) (by decide))) (fun _ _ _ _ _ => d_tsnil) (fun _ _ _ _ _ => (d_rng1 (by rfl) B.b_range (d_acons (d_fn call_len ol_len (by rfl) B.b_len (by decide +kernel) (d_acons (d_var 2 (pv 2)) d_anil)) d_anil))) (fun _ _ _ _ _ => (d_gn (i := 4) sc.nd rfl (.inl rfl) (by decide))) (fun _ _ _ _ _ => d_tsnil) (fun _ _ _ _ _ => (d_add (d_var 3 (pv 3)) (d_tup (d_acons (d_var 4 (pv 4)) d_anil))))))) (d_last (d_ret (d_var 1 (pv 1))))))) law
abbrev st_word_of : Stmt := topS 33
theorem sc_word_of : FnScope ["teeth"] ["teeth"] (defScope st_word_of) := ⟨rfl, rfl, rfl, by decide +kernel, rfl, by decide +kernel, by decide +kernel⟩
theorem ok_word_of {sp : DSp} (df : DefAt K mg "word_of" ["teeth"] st_word_of)  (len : ∀ ds M P PX, sp ds M P PX → ds.length = 1)
    (law : ∀ ds M P1 PX, sp ds M P1 PX → t_word_of PX (dEnds P1) (dst 1 ds) M) : Cal P w K mg base 1 "word_of" ["teeth"] sp :=
  have sc := sc_word_of
  dcal (t := t_word_of) df sc len (fun f cdv A outer s H E c cx => by
    exact (d_last (d_ret (d_ifE (d_tcmp (op_eqD cx.hr.units) og_eq (d_var 0 (pv 0)) d_str (nomark _)) d_str (d_var 0 (pv 0)))))) law
abbrev st_lines_of : Stmt := topS 34
theorem sc_lines_of : FnScope ["box", "barrel", "teeth"] ["box"] (defScope st_lines_of) := ⟨rfl, rfl, rfl, by decide +kernel, rfl, by decide +kernel, by decide +kernel⟩
theorem ok_lines_of {s_word_of : DSp} {sp : DSp} (df : DefAt K mg "lines_of" ["box"] st_lines_of) (h_word_of : Cal P w K mg base 1 "word_of" ["teeth"] s_word_of) (len : ∀ ds M P PX, sp ds M P PX → ds.length = 1)
    (law : ∀ ds M P1 PX, sp ds M P1 PX → t_lines_of s_word_of PX (dEnds P1) (dst 3 ds) M) : Cal P w K mg base 2 "lines_of" ["box"] sp :=
  have sc := sc_lines_of
  dcal (t := t_lines_of s_word_of) df sc len (fun f cdv A outer s H E c cx => by
    exact (d_last (d_ret (d_add (d_lst (d_acons (d_fmtI (d_index (d_var 0 (pv 0)) d_int (fun _ _ => rfl))) d_anil)) (d_lc (own := [("barrel", 1)]) rfl sc.nd (d_iter (d_index (d_var 0 (pv 0)) d_int (fun _ _ => rfl))) (blkOk_by (N := ["box", "barrel", "teeth"]) (sc := (defScope st_lines_of)) (by decide +kernel)) (fun _ _ _ _ _ => (d_gn (i := 1) sc.nd rfl (.inl rfl) (by decide))) (fun _ _ _ _ _ => d_tsnil) (fun _ _ _ _ _ => (d_join d_str (d_lc (own := [("teeth", 2)]) rfl sc.nd (d_iter (d_var 1 (pv 1))) (blkOk_by (N := ["box", "barrel", "teeth"]) (sc := (relS _ (defScope st_lines_of))) (by decide +kernel)) (fun _ _ _ _ _ => (d_gn (i := 2) sc.nd rfl (.inl rfl) (by decide))) (fun _ _ _ _ _ => d_tsnil) (fun _ _ _ _ _ => (d_call h_word_of cx.hr (by omega) (by rfl) takes_mute (d_acons (d_var 2 (pv 2)) d_anil))))))))))) law
abbrev st_teeth_in : Stmt := topS 35
theorem sc_teeth_in : FnScope ["word"] ["word"] (defScope st_teeth_in) := ⟨rfl, rfl, rfl, by decide +kernel, rfl, by decide +kernel, by decide +kernel⟩
theorem ok_teeth_in {s_are_teeth : DSp} {sp : DSp} (df : DefAt K mg "teeth_in" ["word"] st_teeth_in) (h_are_teeth : Cal P w K mg base 1 "are_teeth" ["value"] s_are_teeth) (len : ∀ ds M P PX, sp ds M P PX → ds.length = 1)
    (law : ∀ ds M P1 PX, sp ds M P1 PX → t_teeth_in s_are_teeth PX (dEnds P1) (dst 1 ds) M) : Cal P w K mg base 2 "teeth_in" ["word"] sp :=
  have sc := sc_teeth_in
  dcal (t := t_teeth_in s_are_teeth) df sc len (fun f cdv A outer s H E c cx => by
    exact (d_seq (d_if (d_tcmp (op_eqD cx.hr.units) og_eq (d_var 0 (pv 0)) d_str (nomark _)) (d_last (d_ret d_str)) d_nil) (d_last (d_ret (d_ifE (d_wt (d_and (d_tcmp (op_neD cx.hr.units) og_ne (d_var 0 (pv 0)) d_str (nomark _)) (d_and1 (d_tval (d_call h_are_teeth cx.hr (by omega) (by rfl) cx.tk (d_acons (d_var 0 (pv 0)) d_anil)))))) (d_var 0 (pv 0)) d_non))))) law
abbrev st_barrel_in : Stmt := topS 36
theorem sc_barrel_in : FnScope ["line", "found", "word"] ["line"] (defScope st_barrel_in) := ⟨rfl, rfl, rfl, by decide +kernel, rfl, by decide +kernel, by decide +kernel⟩
theorem ok_barrel_in {s_teeth_in : DSp} {s_is_barrel : DSp} {sp : DSp} (df : DefAt K mg "barrel_in" ["line"] st_barrel_in) (h_teeth_in : Cal P w K mg base 2 "teeth_in" ["word"] s_teeth_in) (h_is_barrel : Cal P w K mg base 2 "is_barrel" ["value"] s_is_barrel) (B : Blt mg) (len : ∀ ds M P PX, sp ds M P PX → ds.length = 1)
    (law : ∀ ds M P1 PX, sp ds M P1 PX → t_barrel_in s_teeth_in s_is_barrel PX (dEnds P1) (dst 3 ds) M) : Cal P w K mg base 3 "barrel_in" ["line"] sp :=
  have sc := sc_barrel_in
  dcal (t := t_barrel_in s_teeth_in s_is_barrel) df sc len (fun f cdv A outer s H E c cx => by
    exact (d_seq (d_set (i := 1) sc.nd rfl (.inl rfl) (d_fty call_tuple_of ol_tuple (by rfl) B.b_tuple (by decide +kernel) (d_acons (d_lc (own := [("word", 2)]) rfl sc.nd (d_iter (d_split (d_var 0 (pv 0)) d_str)) (blkOk_by (N := ["line", "found", "word"]) (sc := (defScope st_barrel_in)) (by decide +kernel)) (fun _ _ _ _ _ => (d_gn (i := 2) sc.nd rfl (.inl rfl) (by decide))) (fun _ _ _ _ _ => d_tsnil) (fun _ _ _ _ _ => (d_call h_teeth_in cx.hr (by omega) (by rfl) takes_mute (d_acons (d_var 2 (pv 2)) d_anil)))) d_anil))) (d_last (d_ret (d_ifE (d_wt (d_and (d_tcmp (op_notinA (hu65 cx.hr)) og_notin d_non (d_var 1 (pv 1)) (by rfl)) (d_and1 (d_tval (d_call h_is_barrel cx.hr (by omega) (by rfl) cx.tk (d_acons (d_var 1 (pv 1)) d_anil)))))) (d_var 1 (pv 1)) d_non))))) law
abbrev st_box_in : Stmt := topS 37
theorem sc_box_in : FnScope ["value", "lines", "found", "number", "line", "barrel", "box"] ["value"] (defScope st_box_in) := ⟨rfl, rfl, rfl, by decide +kernel, rfl, by decide +kernel, by decide +kernel⟩
theorem ok_box_in {s_barrel_in : DSp} {s_is_box_value : DSp} {c_HOLDS : D} {sp : DSp} (df : DefAt K mg "box_in" ["value"] st_box_in) (h_barrel_in : Cal P w K mg base 3 "barrel_in" ["line"] s_barrel_in) (h_is_box_value : Cal P w K mg base 3 "is_box_value" ["value"] s_is_box_value) (g_HOLDS : GCon K mg "HOLDS" c_HOLDS) (gx_HOLDS : TCon K mg "HOLDS" holdsL) (B : Blt mg) (len : ∀ ds M P PX, sp ds M P PX → ds.length = 1)
    (law : ∀ ds M P1 PX, sp ds M P1 PX → t_box_in s_barrel_in s_is_box_value c_HOLDS PX (dEnds P1) (dst 7 ds) M) : Cal P w K mg base 4 "box_in" ["value"] sp :=
  have sc := sc_box_in
  dcal (t := t_box_in s_barrel_in s_is_box_value c_HOLDS) df sc len (fun f cdv A outer s H E c cx => by
    exact (d_seq (d_if (d_not (d_tval (d_fn call_isi ol_isi (by rfl) B.b_isinstance (by decide +kernel) (d_acons (d_var 0 (pv 0)) (d_acons (d_tyname "str" (by rfl) B.b_str (by decide +kernel) (by decide)) d_anil))))) (d_last d_no) d_nil) (d_seq (d_set (i := 1) sc.nd rfl (.inl rfl) (d_split (d_var 0 (pv 0)) d_str)) (d_seq (d_if (d_tcmp (op_notinA (hu65 cx.hr)) og_notin (d_index (d_var 1 (pv 1)) d_int (fun _ _ => rfl)) (d_glob (by rfl) g_HOLDS) (by rfl)) (d_last d_no) d_nil) (d_seq (d_set (i := 2) sc.nd rfl (.inl rfl) (d_lstH d_anil)) (d_seq (d_for (vs := [3, 4]) cx.hp rfl (d_enum (by rfl) B.b_enumerate (d_acons (d_slice (d_var 1 (pv 1)) (d_part d_int) d_nopart) d_anil)) (d_gt rfl (d_gcons (d_gn (i := 3) sc.nd rfl (.inl rfl) (by decide)) (d_gcons (d_gn (i := 4) sc.nd rfl (.inl rfl) (by decide)) d_gnil))) (d_seq (d_set (i := 5) sc.nd rfl (.inl rfl) (d_call h_barrel_in cx.hr (by omega) (by rfl) cx.tk (d_acons (d_var 4 (pv 4)) d_anil))) (d_seq (d_if (d_tcmp op_isN og_isN (d_var 5 (pv 5)) d_non (nomark _)) (d_last d_no) d_nil) (d_last (d_expr (d_append (d_var 2 (pv 2)) (d_var 5 (pv 5)))))))) (d_seq (d_frz 2 (d_set (i := 6) sc.nd rfl (.inl rfl) (d_tup (d_acons (d_tIx (by rfl) gx_HOLDS (d_index (d_var 1 (pv 1)) d_int (fun _ _ => rfl))) (d_acons (d_fty call_tuple_of ol_tuple (by rfl) B.b_tuple (by decide +kernel) (d_acons (d_var 2 (pv 2)) d_anil)) d_anil))))) (d_seq (d_if (d_not (d_tval (d_call h_is_box_value cx.hr (by omega) (by rfl) cx.tk (d_acons (d_var 6 (pv 6)) d_anil)))) (d_last d_no) d_nil) (d_last (d_ret (d_var 6 (pv 6)))))))))))) law
abbrev st_box_text : Stmt := topS 38
theorem sc_box_text : FnScope ["box"] ["box"] (defScope st_box_text) := ⟨rfl, rfl, rfl, by decide +kernel, rfl, by decide +kernel, by decide +kernel⟩
theorem ok_box_text {s_need_box : DSp} {s_lines_of : DSp} {sp : DSp} (df : DefAt K mg "box_text" ["box"] st_box_text) (h_need_box : Cal P w K mg base 4 "need_box" ["value"] s_need_box) (h_lines_of : Cal P w K mg base 2 "lines_of" ["box"] s_lines_of) (len : ∀ ds M P PX, sp ds M P PX → ds.length = 1)
    (law : ∀ ds M P1 PX, sp ds M P1 PX → t_box_text s_need_box s_lines_of PX (dEnds P1) (dst 1 ds) M) : Cal P w K mg base 5 "box_text" ["box"] sp :=
  have sc := sc_box_text
  dcal (t := t_box_text s_need_box s_lines_of) df sc len (fun f cdv A outer s H E c cx => by
    exact (d_seq (d_expr (d_call h_need_box cx.hr (by omega) (by rfl) cx.tk (d_acons (d_var 0 (pv 0)) d_anil))) (d_last (d_ret (d_join d_str (d_call h_lines_of cx.hr (by omega) (by rfl) cx.tk (d_acons (d_var 0 (pv 0)) d_anil))))))) law
abbrev st_read_box : Stmt := topS 39
theorem sc_read_box : FnScope ["value"] ["value"] (defScope st_read_box) := ⟨rfl, rfl, rfl, by decide +kernel, rfl, by decide +kernel, by decide +kernel⟩
theorem ok_read_box {s_box_in : DSp} {sp : DSp} (df : DefAt K mg "read_box" ["value"] st_read_box) (h_box_in : Cal P w K mg base 4 "box_in" ["value"] s_box_in) (len : ∀ ds M P PX, sp ds M P PX → ds.length = 1)
    (law : ∀ ds M P1 PX, sp ds M P1 PX → t_read_box s_box_in PX (dEnds P1) (dst 1 ds) M) : Cal P w K mg base 5 "read_box" ["value"] sp :=
  have sc := sc_read_box
  dcal (t := t_read_box s_box_in) df sc len (fun f cdv A outer s H E c cx => by
    exact (d_last (d_ret (d_call h_box_in cx.hr (by omega) (by rfl) cx.tk (d_acons (d_var 0 (pv 0)) d_anil))))) law
abbrev st_items_at : Stmt := topS 41
theorem sc_items_at : FnScope ["box", "beginning", "tick", "begin", "barrel"] ["box", "beginning", "tick"] (defScope st_items_at) := ⟨rfl, rfl, rfl, by decide +kernel, rfl, by decide +kernel, by decide +kernel⟩
theorem ok_items_at {sp : DSp} (df : DefAt K mg "items_at" ["box", "beginning", "tick"] st_items_at) (B : Blt mg) (len : ∀ ds M P PX, sp ds M P PX → ds.length = 3)
    (law : ∀ ds M P1 PX, sp ds M P1 PX → t_items_at PX (dEnds P1) (dst 5 ds) M) : Cal P w K mg base 1 "items_at" ["box", "beginning", "tick"] sp :=
  have sc := sc_items_at
  dcal (t := t_items_at) df sc len (fun f cdv A outer s H E c cx => by
    exact (d_last (d_ret (d_lc (own := [("begin", 3), ("barrel", 4)]) rfl sc.nd (d_zip (by rfl) B.b_zip (d_acons (d_var 1 (pv 1)) (d_acons (d_index (d_var 0 (pv 0)) d_int (fun _ _ => rfl)) d_anil))) (blkOk_by (N := ["box", "beginning", "tick", "begin", "barrel"]) (sc := (defScope st_items_at)) (by decide +kernel)) (fun _ _ _ _ _ => (d_gt rfl (d_gcons (d_gn (i := 3) sc.nd rfl (.inl rfl) (by decide)) (d_gcons (d_gn (i := 4) sc.nd rfl (.inl rfl) (by decide)) d_gnil)))) (fun _ _ _ _ _ => d_tsnil) (fun _ _ _ _ _ => (d_index (d_var 4 (pv 4)) (d_mod (d_add (d_var 3 (pv 3)) (d_var 2 (pv 2))) (d_fn call_len ol_len (by rfl) B.b_len (by decide +kernel) (d_acons (d_var 4 (pv 4)) d_anil))) (fun _ _ => rfl))))))) law
abbrev st_chord_at : Stmt := topS 42
theorem sc_chord_at : FnScope ["box", "beginning", "tick", "plucked", "tooth"] ["box", "beginning", "tick"] (defScope st_chord_at) := ⟨rfl, rfl, rfl, by decide +kernel, rfl, by decide +kernel, by decide +kernel⟩
theorem ok_chord_at {s_items_at : DSp} {c_TEETH : D} {sp : DSp} (df : DefAt K mg "chord_at" ["box", "beginning", "tick"] st_chord_at) (h_items_at : Cal P w K mg base 1 "items_at" ["box", "beginning", "tick"] s_items_at) (g_TEETH : GCon K mg "TEETH" c_TEETH) (len : ∀ ds M P PX, sp ds M P PX → ds.length = 3)
    (law : ∀ ds M P1 PX, sp ds M P1 PX → t_chord_at s_items_at c_TEETH PX (dEnds P1) (dst 5 ds) M) : Cal P w K mg base 2 "chord_at" ["box", "beginning", "tick"] sp :=
  have sc := sc_chord_at
  dcal (t := t_chord_at s_items_at c_TEETH) df sc len (fun f cdv A outer s H E c cx => by
    exact (d_seq (d_set (i := 3) sc.nd rfl (.inr rfl) (d_join d_str (d_call h_items_at cx.hr (by omega) (by rfl) cx.tk (d_acons (d_var 0 (pv 0)) (d_acons (d_var 1 (pv 1)) (d_acons (d_var 2 (pv 2)) d_anil)))))) (d_last (d_ret (d_join d_str (d_lc (own := [("tooth", 4)]) rfl sc.nd (d_iter (d_glob (by rfl) g_TEETH)) (blkOk_by (N := ["box", "beginning", "tick", "plucked", "tooth"]) (sc := (defScope st_chord_at)) (by decide +kernel)) (fun _ _ _ _ _ => (d_gn (i := 4) sc.nd rfl (.inl rfl) (by decide))) (fun _ _ _ _ _ => (d_tsone (d_tcmp (op_inA (hu65 cx.hr)) og_in (d_var 4 (pv 4)) (d_var 3 (pv 3)) (by rfl)))) (fun _ _ _ _ _ => (d_var 4 (pv 4))))))))) law
abbrev st_is_clash : Stmt := topS 44
theorem sc_is_clash : FnScope ["box", "beginning", "tick", "plucked", "before", "early", "tooth", "teeth"] ["box", "beginning", "tick"] (defScope st_is_clash) := ⟨rfl, rfl, rfl, by decide +kernel, rfl, by decide +kernel, by decide +kernel⟩
theorem ok_is_clash {s_items_at : DSp} {s_chord_at : DSp} {sp : DSp} (df : DefAt K mg "is_clash" ["box", "beginning", "tick"] st_is_clash) (h_items_at : Cal P w K mg base 1 "items_at" ["box", "beginning", "tick"] s_items_at) (h_chord_at : Cal P w K mg base 2 "chord_at" ["box", "beginning", "tick"] s_chord_at) (B : Blt mg) (len : ∀ ds M P PX, sp ds M P PX → ds.length = 3)
    (law : ∀ ds M P1 PX, sp ds M P1 PX → t_is_clash s_items_at s_chord_at PX (dEnds P1) (dst 8 ds) M) : Cal P w K mg base 3 "is_clash" ["box", "beginning", "tick"] sp :=
  have sc := sc_is_clash
  dcal (t := t_is_clash s_items_at s_chord_at) df sc len (fun f cdv A outer s H E c cx => by
    exact (d_seq (d_set (i := 3) sc.nd rfl (.inl rfl) (d_join d_str (d_call h_items_at cx.hr (by omega) (by rfl) cx.tk (d_acons (d_var 0 (pv 0)) (d_acons (d_var 1 (pv 1)) (d_acons (d_var 2 (pv 2)) d_anil)))))) (d_seq (d_if (d_tcmp op_gt og_gt (d_fn call_len ol_len (by rfl) B.b_len (by decide +kernel) (d_acons (d_var 3 (pv 3)) d_anil)) (d_lenSet rfl (d_var 3 (pv 3)) (by rfl) B.b_len (by decide +kernel) (by rfl) B.b_set (by decide +kernel)) (nomark _)) (d_last (d_ret d_bl)) d_nil) (d_seq (d_set (i := 4) sc.nd rfl (.inr rfl) (d_lc (own := [("early", 5)]) rfl sc.nd (d_rng2 (by rfl) B.b_range (d_acons (d_fn (call_max2 rfl) ol_max2 (by rfl) B.b_max (by decide +kernel) (d_acons d_int (d_acons (d_sub (d_var 2 (pv 2)) (d_index (d_var 0 (pv 0)) d_int (fun _ _ => rfl))) d_anil))) (d_acons (d_var 2 (pv 2)) d_anil))) (blkOk_by (N := ["box", "beginning", "tick", "plucked", "before", "early", "tooth", "teeth"]) (sc := (defScope st_is_clash)) (by decide +kernel)) (fun _ _ _ _ _ => (d_gn (i := 5) sc.nd rfl (.inl rfl) (by decide))) (fun _ _ _ _ _ => d_tsnil) (fun _ _ _ _ _ => (d_call h_chord_at cx.hr (by omega) (by rfl) takes_mute (d_acons (d_var 0 (pv 0)) (d_acons (d_var 1 (pv 1)) (d_acons (d_var 5 (pv 5)) d_anil))))))) (d_last (d_ret (d_fn (cr_any rfl) ol_any (by rfl) B.b_any (by decide +kernel) (d_acons (d_lc2 (own := [("tooth", 6), ("teeth", 7)]) (vs1 := [7]) rfl sc.nd (d_iter (d_var 3 (pv 3))) (blkOk_by (N := ["box", "beginning", "tick", "plucked", "before", "early", "tooth", "teeth"]) (sc := (defScope st_is_clash)) (by decide +kernel)) (by decide) (fun _ _ _ _ _ => (d_gn (i := 6) sc.nd rfl (.inl rfl) (by decide))) (fun _ _ _ _ _ => d_tsnil) (fun _ _ _ _ _ => (d_iter (d_var 4 (pv 4)))) (fun _ _ _ _ _ => (d_gn (i := 7) sc.nd rfl (.inl rfl) (by decide))) (fun _ _ _ _ _ => d_tsnil) (fun _ _ _ _ _ => (d_cmp (op_inA (hu65 cx.hr)) og_in (d_var 6 (pv 6)) (d_var 7 (pv 7)) (by rfl)))) d_anil)))))))) law
abbrev st_first_of : Stmt := topS 45
theorem sc_first_of : FnScope ["box", "beginning", "tick"] ["box", "beginning"] (defScope st_first_of) := ⟨rfl, rfl, rfl, by decide +kernel, rfl, by decide +kernel, by decide +kernel⟩
theorem ok_first_of {s_period_of : DSp} {s_is_clash : DSp} {sp : DSp} (df : DefAt K mg "first_of" ["box", "beginning"] st_first_of) (h_period_of : Cal P w K mg base 2 "period_of" ["box"] s_period_of) (h_is_clash : Cal P w K mg base 3 "is_clash" ["box", "beginning", "tick"] s_is_clash) (B : Blt mg) (len : ∀ ds M P PX, sp ds M P PX → ds.length = 2)
    (law : ∀ ds M P1 PX, sp ds M P1 PX → t_first_of s_period_of s_is_clash PX (dEnds P1) (dst 3 ds) M) : Cal P w K mg base 4 "first_of" ["box", "beginning"] sp :=
  have sc := sc_first_of
  dcal (t := t_first_of s_period_of s_is_clash) df sc len (fun f cdv A outer s H E c cx => by
    exact (d_seq (d_for (vs := [2]) cx.hp rfl (d_rng1 (by rfl) B.b_range (d_acons (d_add (d_call h_period_of cx.hr (by omega) (by rfl) cx.tk (d_acons (d_var 0 (pv 0)) d_anil)) (d_index (d_var 0 (pv 0)) d_int (fun _ _ => rfl))) d_anil)) (d_gn (i := 2) sc.nd rfl (.inl rfl) (by decide)) (d_last (d_if (d_tval (d_call h_is_clash cx.hr (by omega) (by rfl) cx.tk (d_acons (d_var 0 (pv 0)) (d_acons (d_var 1 (pv 1)) (d_acons (d_var 2 (pv 2)) d_anil))))) (d_last (d_ret (d_var 2 (pv 2)))) d_nil))) (d_last (d_ret d_non)))) law
abbrev st_clean_ones : Stmt := topS 46
theorem sc_clean_ones : FnScope ["box", "beginning"] ["box"] (defScope st_clean_ones) := ⟨rfl, rfl, rfl, by decide +kernel, rfl, by decide +kernel, by decide +kernel⟩
theorem ok_clean_ones {s_all_beginnings : DSp} {s_first_of : DSp} {sp : DSp} (df : DefAt K mg "clean_ones" ["box"] st_clean_ones) (h_all_beginnings : Cal P w K mg base 1 "all_beginnings" ["box"] s_all_beginnings) (h_first_of : Cal P w K mg base 4 "first_of" ["box", "beginning"] s_first_of) (len : ∀ ds M P PX, sp ds M P PX → ds.length = 1)
    (law : ∀ ds M P1 PX, sp ds M P1 PX → t_clean_ones s_all_beginnings s_first_of PX (dEnds P1) (dst 2 ds) M) : Cal P w K mg base 5 "clean_ones" ["box"] sp :=
  have sc := sc_clean_ones
  dcal (t := t_clean_ones s_all_beginnings s_first_of) df sc len (fun f cdv A outer s H E c cx => by
    exact (d_last (d_ret (d_lc (own := [("beginning", 1)]) rfl sc.nd (d_iter (d_call h_all_beginnings cx.hr (by omega) (by rfl) cx.tk (d_acons (d_var 0 (pv 0)) d_anil))) (blkOk_by (N := ["box", "beginning"]) (sc := (defScope st_clean_ones)) (by decide +kernel)) (fun _ _ _ _ _ => (d_gn (i := 1) sc.nd rfl (.inl rfl) (by decide))) (fun _ _ _ _ _ => (d_tsone (d_tcmp op_isN og_isN (d_call h_first_of cx.hr (by omega) (by rfl) takes_mute (d_acons (d_var 0 (pv 0)) (d_acons (d_var 1 (pv 1)) d_anil))) d_non (nomark _)))) (fun _ _ _ _ _ => (d_var 1 (pv 1))))))) law
abbrev st_checked : Stmt := topS 48
theorem sc_checked : FnScope ["box"] ["box"] (defScope st_checked) := ⟨rfl, rfl, rfl, by decide +kernel, rfl, by decide +kernel, by decide +kernel⟩
theorem ok_checked {s_is_box_value : DSp} {e_InvalidBox : Addr} {sp : DSp} (df : DefAt K mg "checked" ["box"] st_checked) (h_is_box_value : Cal P w K mg base 3 "is_box_value" ["value"] s_is_box_value) (x_InvalidBox : ErrAt K mg "InvalidBox" e_InvalidBox) (len : ∀ ds M P PX, sp ds M P PX → ds.length = 1)
    (law : ∀ ds M P1 PX, sp ds M P1 PX → t_checked s_is_box_value e_InvalidBox PX (dEnds P1) (dst 1 ds) M) : Cal P w K mg base 4 "checked" ["box"] sp :=
  have sc := sc_checked
  dcal (t := t_checked s_is_box_value e_InvalidBox) df sc len (fun f cdv A outer s H E c cx => by
    exact (d_seq (d_if (d_not (d_tval (d_call h_is_box_value cx.hr (by omega) (by rfl) cx.tk (d_acons (d_var 0 (pv 0)) d_anil)))) (d_last (d_raiseE rfl cx.tk x_InvalidBox (by rfl))) d_nil) (d_last (d_ret (d_var 0 (pv 0)))))) law
abbrev st_law_deck : Stmt := topS 52
theorem sc_law_deck : FnScope ["_law_cell", "_law_turn"] ["_law_cell", "_law_turn"] (defScope st_law_deck) := ⟨rfl, rfl, rfl, by decide +kernel, rfl, by decide +kernel, by decide +kernel⟩
theorem ok_law_deck {sp : DSp} (df : DefAt K mg "_law_deck" ["_law_cell", "_law_turn"] st_law_deck)  (len : ∀ ds M P PX, sp ds M P PX → ds.length = 2)
    (law : ∀ ds M P1 PX, sp ds M P1 PX → t_law_deck PX (dEnds P1) (dst 2 ds) M) : Cal P w K mg base 1 "_law_deck" ["_law_cell", "_law_turn"] sp :=
  have sc := sc_law_deck
  dcal (t := t_law_deck) df sc len (fun f cdv A outer s H E c cx => by
    exact (d_seq (d_if (d_tcmp op_ge og_ge (d_var 0 (pv 0)) (d_pow d_int d_int) (nomark _)) (d_last (d_ret (d_lstH (d_acons (d_sub (d_var 0 (pv 0)) (d_pow d_int d_int)) (d_acons (d_mod (d_var 0 (pv 0)) d_int) (d_acons (d_var 1 (pv 1)) d_anil)))))) d_nil) (d_last (d_ret (d_lstH (d_acons d_int (d_acons (d_mod (d_var 0 (pv 0)) d_int) (d_acons (d_var 1 (pv 1)) d_anil)))))))) law
abbrev st_law_pick : Stmt := topS 53
theorem sc_law_pick : FnScope ["_law_deck_here", "_law_size", "_law_found", "_law_number"] ["_law_deck_here", "_law_size"] (defScope st_law_pick) := ⟨rfl, rfl, rfl, by decide +kernel, rfl, by decide +kernel, by decide +kernel⟩
theorem ok_law_pick {sp : DSp} (df : DefAt K mg "_law_pick" ["_law_deck_here", "_law_size"] st_law_pick) (B : Blt mg) (len : ∀ ds M P PX, sp ds M P PX → ds.length = 2)
    (law : ∀ ds M P1 PX, sp ds M P1 PX → t_law_pick PX (dEnds P1) (dst 4 ds) M) : Cal P w K mg base 1 "_law_pick" ["_law_deck_here", "_law_size"] sp :=
  have sc := sc_law_pick
  dcal (t := t_law_pick) df sc len (fun f cdv A outer s H E c cx => by
    exact (d_seq (d_if (d_tcmp op_gt og_gt (d_index (d_var 0 (pv 0)) d_int (fun _ _ => rfl)) d_int (nomark _)) (d_seq (d_set (i := 2) sc.nd rfl (.inl rfl) (d_mod (d_fty call_int1 ol_int1 (by rfl) B.b_int (by decide +kernel) (d_acons (d_index (d_var 0 (pv 0)) d_int (fun _ _ => rfl)) d_anil)) (d_var 1 (pv 1)))) (d_seq (d_asg (vs := []) (d_div (d_index (d_var 0 (pv 0)) d_int (fun _ _ => rfl)) (d_var 1 (pv 1))) (d_gsub (d_var 0 (pv 0)) d_int)) (d_last (d_ret (d_var 2 (pv 2)))))) d_nil) (d_seq (d_asg (vs := []) (d_add (d_index (d_var 0 (pv 0)) d_int (fun _ _ => rfl)) d_int) (d_gsub (d_var 0 (pv 0)) d_int)) (d_seq (d_set (i := 3) sc.nd rfl (.inl rfl) (d_mod (d_pow (d_add (d_index (d_var 0 (pv 0)) d_int (fun _ _ => rfl)) (d_mul d_int (d_index (d_var 0 (pv 0)) d_int (fun _ _ => rfl)))) d_int) d_int)) (d_seq (d_set (i := 2) sc.nd rfl (.inl rfl) (d_div (d_mod (d_pow (d_add (d_var 3 (pv 3)) (d_mul d_int (d_index (d_var 0 (pv 0)) d_int (fun _ _ => rfl)))) d_int) d_int) d_int)) (d_last (d_ret (d_mod (d_fty call_int1 ol_int1 (by rfl) B.b_int (by decide +kernel) (d_acons (d_var 2 (pv 2)) d_anil)) (d_var 1 (pv 1)))))))))) law
abbrev st_law_one : Stmt := topS 54
theorem sc_law_one : FnScope ["_law_deck_here", "_law_some"] ["_law_deck_here", "_law_some"] (defScope st_law_one) := ⟨rfl, rfl, rfl, by decide +kernel, rfl, by decide +kernel, by decide +kernel⟩
theorem ok_law_one {s_law_pick : DSp} {sp : DSp} (df : DefAt K mg "_law_one" ["_law_deck_here", "_law_some"] st_law_one) (h_law_pick : Cal P w K mg base 1 "_law_pick" ["_law_deck_here", "_law_size"] s_law_pick) (B : Blt mg) (len : ∀ ds M P PX, sp ds M P PX → ds.length = 2)
    (law : ∀ ds M P1 PX, sp ds M P1 PX → t_law_one s_law_pick PX (dEnds P1) (dst 2 ds) M) : Cal P w K mg base 2 "_law_one" ["_law_deck_here", "_law_some"] sp :=
  have sc := sc_law_one
  dcal (t := t_law_one s_law_pick) df sc len (fun f cdv A outer s H E c cx => by
    exact (d_last (d_ret (d_index (d_var 1 (pv 1)) (d_call h_law_pick cx.hr (by omega) (by rfl) cx.tk (d_acons (d_var 0 (pv 0)) (d_acons (d_fn call_len ol_len (by rfl) B.b_len (by decide +kernel) (d_acons (d_var 1 (pv 1)) d_anil)) d_anil))) (fun _ _ => rfl))))) law
abbrev st_law_sort : Stmt := topS 55
theorem sc_law_sort : FnScope ["_law_thing"] ["_law_thing"] (defScope st_law_sort) := ⟨rfl, rfl, rfl, by decide +kernel, rfl, by decide +kernel, by decide +kernel⟩
theorem ok_law_sort {sp : DSp} (df : DefAt K mg "_law_sort" ["_law_thing"] st_law_sort) (B : Blt mg) (len : ∀ ds M P PX, sp ds M P PX → ds.length = 1)
    (law : ∀ ds M P1 PX, sp ds M P1 PX → t_law_sort PX (dEnds P1) (dst 1 ds) M) : Cal P w K mg base 1 "_law_sort" ["_law_thing"] sp :=
  have sc := sc_law_sort
  dcal (t := t_law_sort) df sc len (fun f cdv A outer s H E c cx => by
    exact (d_seq (d_if (d_tval (d_fn call_isi ol_isi (by rfl) B.b_isinstance (by decide +kernel) (d_acons (d_var 0 (pv 0)) (d_acons (d_tyname "bool" (by rfl) B.b_bool (by decide +kernel) (by decide)) d_anil)))) (d_last (d_ret d_int)) d_nil) (d_seq (d_if (d_tval (d_fn call_isi ol_isi (by rfl) B.b_isinstance (by decide +kernel) (d_acons (d_var 0 (pv 0)) (d_acons (d_tyname "int" (by rfl) B.b_int (by decide +kernel) (by decide)) d_anil)))) (d_last (d_ret d_int)) d_nil) (d_seq (d_if (d_tval (d_fn call_isi ol_isi (by rfl) B.b_isinstance (by decide +kernel) (d_acons (d_var 0 (pv 0)) (d_acons (d_tyname "str" (by rfl) B.b_str (by decide +kernel) (by decide)) d_anil)))) (d_last (d_ret d_int)) d_nil) (d_seq (d_if (d_tval (d_fn call_isi ol_isi (by rfl) B.b_isinstance (by decide +kernel) (d_acons (d_var 0 (pv 0)) (d_acons (d_tyname "list" (by rfl) B.b_list (by decide +kernel) (by decide)) d_anil)))) (d_last (d_ret d_int)) d_nil) (d_last (d_ret (d_ifE (d_tval (d_fn call_isi ol_isi (by rfl) B.b_isinstance (by decide +kernel) (d_acons (d_var 0 (pv 0)) (d_acons (d_tyname "tuple" (by rfl) B.b_tuple (by decide +kernel) (by decide)) d_anil)))) d_int d_int)))))))) law
abbrev st_law_same : Stmt := topS 56
theorem sc_law_same : FnScope ["_law_told", "_law_due", "_law_k", "_law_part"] ["_law_told", "_law_due"] (defScope st_law_same) := ⟨rfl, rfl, rfl, by decide +kernel, rfl, by decide +kernel, by decide +kernel⟩
theorem ok_law_same {s_law_sort : DSp} {s_law_same : DSp} {L : Nat} {sp : DSp} (df : DefAt K mg "_law_same" ["_law_told", "_law_due"] st_law_same) (h_law_sort : Cal P w K mg base 1 "_law_sort" ["_law_thing"] s_law_sort) (h_law_same : Cal P w K mg base L "_law_same" ["_law_told", "_law_due"] s_law_same) (B : Blt mg) (hL : 1 ≤ L) (len : ∀ ds M P PX, sp ds M P PX → ds.length = 2)
    (law : ∀ ds M P1 PX, sp ds M P1 PX → t_law_same s_law_sort s_law_same PX (dEnds P1) (dst 4 ds) M) : Cal P w K mg base (L + 1) "_law_same" ["_law_told", "_law_due"] sp :=
  have sc := sc_law_same
  dcal (t := t_law_same s_law_sort s_law_same) df sc len (fun f cdv A outer s H E c cx => by
    exact (d_seq (d_if (d_tcmp (op_neD cx.hr.units) og_ne (d_call h_law_sort cx.hr (by omega) (by rfl) cx.tk (d_acons (d_var 0 (pv 0)) d_anil)) (d_call h_law_sort cx.hr (by omega) (by rfl) cx.tk (d_acons (d_var 1 (pv 1)) d_anil)) (nomark _)) (d_last (d_ret d_bl)) d_nil) (d_seq (d_if (d_wt (d_and (d_tcmp op_gt og_gt (d_call h_law_sort cx.hr (by omega) (by rfl) cx.tk (d_acons (d_var 0 (pv 0)) d_anil)) d_int (nomark _)) (d_and1 (d_tcmp op_lt og_lt (d_call h_law_sort cx.hr (by omega) (by rfl) cx.tk (d_acons (d_var 0 (pv 0)) d_anil)) d_int (nomark _))))) (d_seq (d_if (d_tcmp (op_neD cx.hr.units) og_ne (d_fn call_len ol_len (by rfl) B.b_len (by decide +kernel) (d_acons (d_var 0 (pv 0)) d_anil)) (d_fn call_len ol_len (by rfl) B.b_len (by decide +kernel) (d_acons (d_var 1 (pv 1)) d_anil)) (nomark _)) (d_last (d_ret d_bl)) d_nil) (d_last (d_ret (d_cmp (op_eqD cx.hr.units) og_eq (d_lc (own := [("_law_k", 2), ("_law_part", 3)]) rfl sc.nd (d_enum (by rfl) B.b_enumerate (d_acons (d_var 0 (pv 0)) d_anil)) (blkOk_by (N := ["_law_told", "_law_due", "_law_k", "_law_part"]) (sc := (defScope st_law_same)) (by decide +kernel)) (fun _ _ _ _ _ => (d_gt rfl (d_gcons (d_gn (i := 2) sc.nd rfl (.inl rfl) (by decide)) (d_gcons (d_gn (i := 3) sc.nd rfl (.inl rfl) (by decide)) d_gnil)))) (fun _ _ _ _ _ => (d_tsone (d_not (d_tval (d_call h_law_same cx.hr (by omega) (by rfl) takes_mute (d_acons (d_var 3 (pv 3)) (d_acons (d_index (d_var 1 (pv 1)) (d_var 2 (pv 2)) (fun _ _ => rfl)) d_anil))))))) (fun _ _ _ _ _ => (d_var 2 (pv 2)))) (d_lst d_anil) (nomark _))))) d_nil) (d_last (d_ret (d_cmp (op_eqD cx.hr.units) og_eq (d_var 0 (pv 0)) (d_var 1 (pv 1)) (nomark _))))))) law
abbrev st_law_kin : Stmt := topS 57
theorem sc_law_kin : FnScope ["_law_e", "_law_sorts", "_law_labels", "_law_label", "_law_good"] ["_law_e"] (defScope st_law_kin) := ⟨rfl, rfl, rfl, by decide +kernel, rfl, by decide +kernel, by decide +kernel⟩
theorem ok_law_kin {c_InvalidTick : D} {c_InvalidBeginning : D} {c_InvalidBox : D} {c_InvalidNumber : D} {c_InvalidFacts : D} {c_InvalidTooth : D} {c_Unlike : D} {c_NoBeginning : D} {c_InvalidIndex : D} {c_InvalidText : D} {c_TooMany : D} {c_NothingToUndo : D} {sp : DSpE} (df : DefAt K mg "_law_kin" ["_law_e"] st_law_kin) (g_InvalidTick : GCon K mg "InvalidTick" c_InvalidTick) (g_InvalidBeginning : GCon K mg "InvalidBeginning" c_InvalidBeginning) (g_InvalidBox : GCon K mg "InvalidBox" c_InvalidBox) (g_InvalidNumber : GCon K mg "InvalidNumber" c_InvalidNumber) (g_InvalidFacts : GCon K mg "InvalidFacts" c_InvalidFacts) (g_InvalidTooth : GCon K mg "InvalidTooth" c_InvalidTooth) (g_Unlike : GCon K mg "Unlike" c_Unlike) (g_NoBeginning : GCon K mg "NoBeginning" c_NoBeginning) (g_InvalidIndex : GCon K mg "InvalidIndex" c_InvalidIndex) (g_InvalidText : GCon K mg "InvalidText" c_InvalidText) (g_TooMany : GCon K mg "TooMany" c_TooMany) (g_NothingToUndo : GCon K mg "NothingToUndo" c_NothingToUndo) (B : Blt mg) (hVE : mg "ValueError" = none) (len : ∀ g ds M P, sp g ds M P → ds.length = 1)
    (law : ∀ g ds M P, sp g ds M P → t_law_kin c_InvalidTick c_InvalidBeginning c_InvalidBox c_InvalidNumber c_InvalidFacts c_InvalidTooth c_Unlike c_NoBeginning c_InvalidIndex c_InvalidText c_TooMany c_NothingToUndo g (dEnds P) (dst 5 ds) M) : CalE P w K mg base 1 "_law_kin" ["_law_e"] sp :=
  have sc := sc_law_kin
  dcalE (k := 0) (t := fun gI => t_law_kin c_InvalidTick c_InvalidBeginning c_InvalidBox c_InvalidNumber c_InvalidFacts c_InvalidTooth c_Unlike c_NoBeginning c_InvalidIndex c_InvalidText c_TooMany c_NothingToUndo gI) df sc len (fun f cdv A outer s H E p Dc c hot hp hisi => by
    exact (d_seq (d_set (i := 1) sc.nd rfl (.inl rfl) (d_lst (d_acons (d_fn hisi ol_isE (by rfl) B.b_isinstance (by decide +kernel) (d_acons (d_var 0 (pv 0)) (d_acons (d_glob (by rfl) g_InvalidBox) d_anil))) (d_acons (d_fn hisi ol_isE (by rfl) B.b_isinstance (by decide +kernel) (d_acons (d_var 0 (pv 0)) (d_acons (d_glob (by rfl) g_InvalidBeginning) d_anil))) (d_acons (d_fn hisi ol_isE (by rfl) B.b_isinstance (by decide +kernel) (d_acons (d_var 0 (pv 0)) (d_acons (d_glob (by rfl) g_InvalidTick) d_anil))) d_anil))))) (d_seq (d_set (i := 1) sc.nd rfl (.inl rfl) (d_add (d_var 1 (pv 1)) (d_lst (d_acons (d_fn hisi ol_isE (by rfl) B.b_isinstance (by decide +kernel) (d_acons (d_var 0 (pv 0)) (d_acons (d_glob (by rfl) g_InvalidTooth) d_anil))) (d_acons (d_fn hisi ol_isE (by rfl) B.b_isinstance (by decide +kernel) (d_acons (d_var 0 (pv 0)) (d_acons (d_glob (by rfl) g_InvalidFacts) d_anil))) (d_acons (d_fn hisi ol_isE (by rfl) B.b_isinstance (by decide +kernel) (d_acons (d_var 0 (pv 0)) (d_acons (d_glob (by rfl) g_InvalidNumber) d_anil))) d_anil)))))) (d_seq (d_set (i := 1) sc.nd rfl (.inl rfl) (d_add (d_var 1 (pv 1)) (d_lst (d_acons (d_fn hisi ol_isE (by rfl) B.b_isinstance (by decide +kernel) (d_acons (d_var 0 (pv 0)) (d_acons (d_glob (by rfl) g_InvalidIndex) d_anil))) (d_acons (d_fn hisi ol_isE (by rfl) B.b_isinstance (by decide +kernel) (d_acons (d_var 0 (pv 0)) (d_acons (d_glob (by rfl) g_NoBeginning) d_anil))) (d_acons (d_fn hisi ol_isE (by rfl) B.b_isinstance (by decide +kernel) (d_acons (d_var 0 (pv 0)) (d_acons (d_glob (by rfl) g_Unlike) d_anil))) d_anil)))))) (d_seq (d_set (i := 1) sc.nd rfl (.inl rfl) (d_add (d_var 1 (pv 1)) (d_lst (d_acons (d_fn hisi ol_isE (by rfl) B.b_isinstance (by decide +kernel) (d_acons (d_var 0 (pv 0)) (d_acons (d_glob (by rfl) g_NothingToUndo) d_anil))) (d_acons (d_fn hisi ol_isE (by rfl) B.b_isinstance (by decide +kernel) (d_acons (d_var 0 (pv 0)) (d_acons (d_glob (by rfl) g_TooMany) d_anil))) (d_acons (d_fn hisi ol_isE (by rfl) B.b_isinstance (by decide +kernel) (d_acons (d_var 0 (pv 0)) (d_acons (d_glob (by rfl) g_InvalidText) d_anil))) d_anil)))))) (d_seq (d_set (i := 1) sc.nd rfl (.inl rfl) (d_add (d_var 1 (pv 1)) (d_lst (d_acons (d_fn hisi ol_isE (by rfl) B.b_isinstance (by decide +kernel) (d_acons (d_var 0 (pv 0)) (d_acons (d_tyname "ValueError" (by rfl) hVE (by decide +kernel) (by decide)) d_anil))) d_anil)))) (d_seq (d_set (i := 2) sc.nd rfl (.inl rfl) d_str) (d_last (d_ret (d_join d_str (d_lcE (own := [("_law_label", 3), ("_law_good", 4)]) sc.nd (d_zipE hot hp (by rfl) B.b_zip (d_acons (d_split (d_var 2 (pv 2)) d_str) (d_acons (d_var 1 (pv 1)) d_anil))) (blkOk_by (N := ["_law_e", "_law_sorts", "_law_labels", "_law_label", "_law_good"]) (sc := (defScope st_law_kin)) (by decide +kernel)) (fun _ _ _ _ _ hI => (d_gtE hI (d_gcons (d_gn (i := 3) sc.nd rfl (.inl rfl) (by decide)) (d_gcons (d_gn (i := 4) sc.nd rfl (.inl rfl) (by decide)) d_gnil)))) (fun _ _ _ _ _ => (d_tsone (d_tval (d_var 4 (pv 4))))) (fun _ _ _ _ _ => (d_var 3 (pv 3)))))))))))))) law
abbrev st_law_try : Stmt := topS 58
theorem sc_law_try : FnScope NgT ["_law_call_so"] (defScope st_law_try) := ⟨rfl, rfl, rfl, by decide +kernel, rfl, by decide +kernel, by decide +kernel⟩
theorem tryAt {X : Cx} {k : Nat} {sp : DSpE} {q : Str} {C1 C2 C3 : Addr} (df : DefAt X.K X.mg "_law_try" ["_law_call_so"] st_law_try) (kin : CalE X.prog X.w X.K X.mg X.base 1 "_law_kin" ["_law_e"] sp) (hk : 1 ≤ k) (m1 : X.mg "InvalidText" = some (.ref C1)) (m2 : X.mg "TooMany" = some (.ref C2)) (m3 : X.mg "BoxError" = some (.ref C3)) :
    TryAt X "_law_try" k (TTry X.K X.mg sp) q "_law_call_so" NgT := by
  obtain ⟨f, fd, F, hm, b⟩ := df.ex
  obtain ⟨oc, od, dV, kV, doc, pm, an, cdv, ct, osl, e, lk, hcd, _, _⟩ := F.ex
  subst e
  exact ⟨f, defArgs st_law_try, defBody st_law_try, defScope st_law_try, dV, kV, doc, pm, cdv, ct, oc, an, od, osl, hm, F.kp, lk, hcd, b, sc_law_try, rfl, .inl rfl, try_gives sc_law_try rfl rfl (.inl rfl) rfl rfl rfl rfl kin hk m1 m2 m3⟩
abbrev st_law_known : Stmt := topS 59
theorem sc_law_known : FnScope ["_law_one_here", "_law_two"] [] (defScope st_law_known) := ⟨rfl, rfl, rfl, by decide +kernel, rfl, by decide +kernel, by decide +kernel⟩
theorem ok_law_known {sp : DSp} (df : DefAt K mg "_law_known" [] st_law_known)  (len : ∀ ds M P PX, sp ds M P PX → ds.length = 0)
    (law : ∀ ds M P1 PX, sp ds M P1 PX → t_law_known PX (dEnds P1) (dst 2 ds) M) : Cal P w K mg base 1 "_law_known" [] sp :=
  have sc := sc_law_known
  dcal (t := t_law_known) df sc len (fun f cdv A outer s H E c cx => by
    exact (d_seq (d_asg (vs := [0, 1]) (d_tup (d_acons (d_tup (d_acons d_int (d_acons (d_tup (d_acons (d_tup (d_acons d_str (d_acons d_str d_anil))) d_anil)) d_anil))) (d_acons (d_tup (d_acons d_int (d_acons (d_tup (d_acons (d_tup (d_acons d_str (d_acons d_str (d_acons d_str d_anil)))) (d_acons (d_tup (d_acons d_str (d_acons d_str d_anil))) d_anil))) d_anil))) d_anil))) (d_gt rfl (d_gcons (d_gn (i := 0) sc.nd rfl (.inl rfl) (by decide)) (d_gcons (d_gn (i := 1) sc.nd rfl (.inl rfl) (by decide)) d_gnil)))) (d_last (d_ret (d_tup (d_acons (d_var 0 (pv 0)) (d_acons (d_var 1 (pv 1)) (d_acons (d_tup (d_acons d_int (d_acons (d_tup (d_acons (d_tup (d_acons d_str d_anil)) (d_acons (d_tup (d_acons d_str (d_acons d_str (d_acons d_str (d_acons d_str d_anil))))) d_anil))) d_anil))) (d_acons (d_tup (d_acons d_int (d_acons (d_tup (d_acons (d_tup (d_acons d_str (d_acons d_str d_anil))) d_anil)) d_anil))) d_anil))))))))) law
abbrev st_law_some_teeth : Stmt := topS 60
theorem sc_law_some_teeth : FnScope ["_law_deck_here", "_law_size", "_law_turn"] ["_law_deck_here"] (defScope st_law_some_teeth) := ⟨rfl, rfl, rfl, by decide +kernel, rfl, by decide +kernel, by decide +kernel⟩
theorem ok_law_some_teeth {s_law_one : DSp} {sp : DSp} (df : DefAt K mg "_law_some_teeth" ["_law_deck_here"] st_law_some_teeth) (h_law_one : Cal P w K mg base 2 "_law_one" ["_law_deck_here", "_law_some"] s_law_one) (B : Blt mg) (len : ∀ ds M P PX, sp ds M P PX → ds.length = 1)
    (law : ∀ ds M P1 PX, sp ds M P1 PX → t_law_some_teeth s_law_one PX (dEnds P1) (dst 3 ds) M) : Cal P w K mg base 3 "_law_some_teeth" ["_law_deck_here"] sp :=
  have sc := sc_law_some_teeth
  dcal (t := t_law_some_teeth s_law_one) df sc len (fun f cdv A outer s H E c cx => by
    exact (d_seq (d_set (i := 1) sc.nd rfl (.inl rfl) (d_call h_law_one cx.hr (by omega) (by rfl) cx.tk (d_acons (d_var 0 (pv 0)) (d_acons (d_lst (d_acons d_int (d_acons d_int (d_acons d_int (d_acons d_int (d_acons d_int (d_acons d_int (d_acons d_int d_anil)))))))) d_anil)))) (d_last (d_ret (d_join d_str (d_srtSet rfl (d_lc (own := [("_law_turn", 2)]) rfl sc.nd (d_rng1 (by rfl) B.b_range (d_acons (d_var 1 (pv 1)) d_anil)) (blkOk_by (N := ["_law_deck_here", "_law_size", "_law_turn"]) (sc := (defScope st_law_some_teeth)) (by decide +kernel)) (fun _ _ _ _ _ => (d_gn (i := 2) sc.nd rfl (.inl rfl) (by decide))) (fun _ _ _ _ _ => d_tsnil) (fun _ _ _ _ _ => (d_call h_law_one cx.hr (by omega) (by rfl) takes_mute (d_acons (d_var 0 (pv 0)) (d_acons (d_lst (d_acons d_str (d_acons d_str (d_acons d_str (d_acons d_str d_anil))))) d_anil))))) (by rfl) B.b_sorted (by decide +kernel) (by rfl) B.b_set (by decide +kernel))))))) law
abbrev st_law_a_box : Stmt := topS 61
theorem sc_law_a_box : FnScope ["_law_deck_here", "_law_most", "_law_barrels_so", "_law_turn", "_law_barrel_so", "_law_tick_so"] ["_law_deck_here", "_law_most"] (defScope st_law_a_box) := ⟨rfl, rfl, rfl, by decide +kernel, rfl, by decide +kernel, by decide +kernel⟩
theorem ok_law_a_box {s_law_pick : DSp} {s_law_some_teeth : DSp} {s_law_one : DSp} {sp : DSp} (df : DefAt K mg "_law_a_box" ["_law_deck_here", "_law_most"] st_law_a_box) (h_law_pick : Cal P w K mg base 1 "_law_pick" ["_law_deck_here", "_law_size"] s_law_pick) (h_law_some_teeth : Cal P w K mg base 3 "_law_some_teeth" ["_law_deck_here"] s_law_some_teeth) (h_law_one : Cal P w K mg base 2 "_law_one" ["_law_deck_here", "_law_some"] s_law_one) (B : Blt mg) (len : ∀ ds M P PX, sp ds M P PX → ds.length = 2)
    (law : ∀ ds M P1 PX, sp ds M P1 PX → t_law_a_box s_law_pick s_law_some_teeth s_law_one PX (dEnds P1) (dst 6 ds) M) : Cal P w K mg base 4 "_law_a_box" ["_law_deck_here", "_law_most"] sp :=
  have sc := sc_law_a_box
  dcal (t := t_law_a_box s_law_pick s_law_some_teeth s_law_one) df sc len (fun f cdv A outer s H E c cx => by
    exact (d_seq (d_set (i := 2) sc.nd rfl (.inl rfl) (d_lstH d_anil)) (d_seq (d_for (vs := [3]) cx.hp rfl (d_rng1 (by rfl) B.b_range (d_acons (d_add d_int (d_call h_law_pick cx.hr (by omega) (by rfl) cx.tk (d_acons (d_var 0 (pv 0)) (d_acons d_int d_anil)))) d_anil)) (d_gn (i := 3) sc.nd rfl (.inl rfl) (by decide)) (d_seq (d_set (i := 4) sc.nd rfl (.inl rfl) (d_fty call_tuple_of ol_tuple (by rfl) B.b_tuple (by decide +kernel) (d_acons (d_lc (own := [("_law_tick_so", 5)]) rfl sc.nd (d_rng1 (by rfl) B.b_range (d_acons (d_add d_int (d_call h_law_pick cx.hr (by omega) (by rfl) cx.tk (d_acons (d_var 0 (pv 0)) (d_acons (d_var 1 (pv 1)) d_anil)))) d_anil)) (blkOk_by (N := ["_law_deck_here", "_law_most", "_law_barrels_so", "_law_turn", "_law_barrel_so", "_law_tick_so"]) (sc := (defScope st_law_a_box)) (by decide +kernel)) (fun _ _ _ _ _ => (d_gn (i := 5) sc.nd rfl (.inl rfl) (by decide))) (fun _ _ _ _ _ => d_tsnil) (fun _ _ _ _ _ => (d_call h_law_some_teeth cx.hr (by omega) (by rfl) takes_mute (d_acons (d_var 0 (pv 0)) d_anil)))) d_anil))) (d_seq (d_if (d_wt (d_and (d_tcmp (op_eqD cx.hr.units) og_eq (d_call h_law_pick cx.hr (by omega) (by rfl) cx.tk (d_acons (d_var 0 (pv 0)) (d_acons d_int d_anil))) d_int (nomark _)) (d_and1 (d_tcmp op_lt og_lt (d_fn call_len ol_len (by rfl) B.b_len (by decide +kernel) (d_acons (d_var 4 (pv 4)) d_anil)) d_int (nomark _))))) (d_last (d_set (i := 4) sc.nd rfl (.inl rfl) (d_slice (d_add (d_var 4 (pv 4)) (d_var 4 (pv 4))) d_nopart (d_part (d_var 1 (pv 1)))))) d_nil) (d_last (d_expr (d_append (d_var 2 (pv 2)) (d_var 4 (pv 4)))))))) (d_last (d_ret (d_tup (d_acons (d_call h_law_one cx.hr (by omega) (by rfl) cx.tk (d_acons (d_var 0 (pv 0)) (d_acons (d_lst (d_acons d_int (d_acons d_int (d_acons d_int (d_acons d_int (d_acons d_int d_anil)))))) d_anil))) (d_acons (d_fty call_tuple_of ol_tuple (by rfl) B.b_tuple (by decide +kernel) (d_acons (d_var 2 (pv 2)) d_anil)) d_anil)))))))) law
abbrev st_law_writing : Stmt := topS 62
theorem sc_law_writing : FnScope ["_law_box_so", "_law_lines_so", "_law_barrel_so", "_law_teeth_so"] ["_law_box_so"] (defScope st_law_writing) := ⟨rfl, rfl, rfl, by decide +kernel, rfl, by decide +kernel, by decide +kernel⟩
theorem ok_law_writing {sp : DSp} (df : DefAt K mg "_law_writing" ["_law_box_so"] st_law_writing) (B : Blt mg) (len : ∀ ds M P PX, sp ds M P PX → ds.length = 1)
    (law : ∀ ds M P1 PX, sp ds M P1 PX → t_law_writing PX (dEnds P1) (dst 4 ds) M) : Cal P w K mg base 7 "_law_writing" ["_law_box_so"] sp :=
  have sc := sc_law_writing
  dcal (t := t_law_writing) df sc len (fun f cdv A outer s H E c cx => by
    exact (d_seq (d_set (i := 1) sc.nd rfl (.inl rfl) (d_lstH (d_acons (d_add d_str (d_fty call_str_int ol_str1 (by rfl) B.b_str (by decide +kernel) (d_acons (d_index (d_var 0 (pv 0)) d_int (fun _ _ => rfl)) d_anil))) d_anil))) (d_seq (d_for (vs := [2]) cx.hp rfl (d_iter (d_index (d_var 0 (pv 0)) d_int (fun _ _ => rfl))) (d_gn (i := 2) sc.nd rfl (.inl rfl) (by decide)) (d_last (d_expr (d_append (d_var 1 (pv 1)) (d_join d_str (d_lc (own := [("_law_teeth_so", 3)]) rfl sc.nd (d_iter (d_var 2 (pv 2))) (blkOk_by (N := ["_law_box_so", "_law_lines_so", "_law_barrel_so", "_law_teeth_so"]) (sc := (defScope st_law_writing)) (by decide +kernel)) (fun _ _ _ _ _ => (d_gn (i := 3) sc.nd rfl (.inl rfl) (by decide))) (fun _ _ _ _ _ => d_tsnil) (fun _ _ _ _ _ => (d_ifE (d_tcmp (op_neD cx.hr.units) og_ne (d_var 3 (pv 3)) d_str (nomark _)) (d_var 3 (pv 3)) d_str)))))))) (d_last (d_frz 1 (d_ret (d_join d_str (d_var 1 (pv 1))))))))) law
abbrev st_law_value : Stmt := topS 63
theorem sc_law_value : FnScope ["_law_box_so", "_law_found", "_law_barrel_so"] ["_law_box_so"] (defScope st_law_value) := ⟨rfl, rfl, rfl, by decide +kernel, rfl, by decide +kernel, by decide +kernel⟩
theorem ok_law_value {s_Box_init : DSp} {s_Box_add : DSp} {kB fi fm fs ps_ fr pr_ fa ft : Addr} {mc : Value} {sp : DSp} (df : DefAt K mg "_law_value" ["_law_box_so"] st_law_value) (h_Box_init : CalR P w K mg base 5 fi s_Box_init) (h_Box_add : CalV P w K mg base 9 fa s_Box_add) (Z : BoxF K mg kB fi fm fs ps_ fr pr_ fa ft mc) (len : ∀ ds M P PX, sp ds M P PX → ds.length = 1)
    (law : ∀ ds M P1 PX, sp ds M P1 PX → t_law_value s_Box_init s_Box_add kB PX (dEnds P1) (dst 3 ds) M) : Cal P w K mg base 10 "_law_value" ["_law_box_so"] sp :=
  have sc := sc_law_value
  dcal (t := t_law_value s_Box_init s_Box_add kB) df sc len (fun f cdv A outer s H E c cx => by
    exact (d_seq (d_set (i := 1) sc.nd rfl (.inl rfl) (d_make Z.mkr h_Box_init cx.hr (by omega) (by rfl) Z.mgB cx.tk (d_acons (d_index (d_var 0 (pv 0)) d_int (fun _ _ => rfl)) (d_acons (d_index (d_index (d_var 0 (pv 0)) d_int (fun _ _ => rfl)) d_int (fun _ _ => rfl)) d_anil)))) (d_seq (d_for (vs := [2]) cx.hp rfl (d_iter (d_slice (d_index (d_var 0 (pv 0)) d_int (fun _ _ => rfl)) (d_part d_int) d_nopart)) (d_gn (i := 2) sc.nd rfl (.inl rfl) (by decide)) (d_last (d_set (i := 1) sc.nd rfl (.inl rfl) (d_binO Z.add h_Box_add.toR cx.hr (by omega) cx.tk (d_var 1 (pv 1)) (d_var 2 (pv 2)))))) (d_last (d_ret (d_var 1 (pv 1))))))) law
abbrev st_law : Stmt := topS 64
theorem sc_law : FnScope ["_law_script", "_law_cell", "_law_deck_here", "_law_turn", "_law_box_so", "_law_text", "_law_told", "_law_odd", "_law_one_here", "_law_two", "_law_three", "_law_four", "_law_wide"] ["_law_script"] (defScope st_law) := ⟨rfl, rfl, rfl, by decide +kernel, rfl, by decide +kernel, by decide +kernel⟩
theorem ok_law {s_law_deck : DSp} {s_law_a_box : DSp} {s_law_writing : DSp} {s_Box_str : DSp} {s_law_value : DSp} {s_Box_read : DSp} {s_Box_source : DSp} {s_read_box : DSp} {s_box_text : DSp} {s_law_same : DSp} {s_law_known : DSp} {kB fi fm fs ps_ fr pr_ fa ft : Addr} {mc : Value} {f : Addr} {fd : FuncData} (h_law_deck : Cal P w K mg base 1 "_law_deck" ["_law_cell", "_law_turn"] s_law_deck) (h_law_a_box : Cal P w K mg base 4 "_law_a_box" ["_law_deck_here", "_law_most"] s_law_a_box) (h_law_writing : Cal P w K mg base 7 "_law_writing" ["_law_box_so"] s_law_writing) (h_Box_str : CalV P w K mg base 3 ft s_Box_str) (h_law_value : Cal P w K mg base 10 "_law_value" ["_law_box_so"] s_law_value) (h_Box_read : CalV P w K mg base 8 fr s_Box_read) (h_Box_source : CalV P w K mg base 1 fs s_Box_source) (h_read_box : Cal P w K mg base 5 "read_box" ["value"] s_read_box) (h_box_text : Cal P w K mg base 5 "box_text" ["box"] s_box_text) (h_law_same : Cal P w K mg base 9 "_law_same" ["_law_told", "_law_due"] s_law_same) (h_law_known : Cal P w K mg base 1 "_law_known" [] s_law_known) (Z : BoxF K mg kB fi fm fs ps_ fr pr_ fa ft mc) (B : Blt mg) {T : List (Addr × Str)} {Pt cc : Addr} {sk : DSpE} (hTry : ∀ (X : Cx), X.prog = P → X.w = w → X.K = K → X.mg = mg → X.base = base → ∀ q, TryAt X "_law_try" 5 (TTry X.K X.mg sk) q "_law_call_so" NgT) (TB : LamX.TabB base mg cc Pt) (hmT : (Pt, (envOfC "law" (defScope st_law) 0 0 .none).qual ++ "<lambda>") ∈ T) (hu : ∀ p ∈ T, p.1 = Pt → p.2 = (envOfC "law" (defScope st_law) 0 0 .none).qual ++ "<lambda>") (Fn : FunD K "law" "law" (defArgs st_law) (defBody st_law) (defScope st_law) [] [] f fd) (hcc : fd.code = .ref cc) (nT : K.lookup Pt = none)
    (law : ∀ a ns, ns.length ≤ 63 → t_law_k12 s_law_deck s_law_a_box s_law_writing s_Box_str s_law_value s_Box_read s_Box_source s_read_box s_box_text s_law_same s_law_known kB (dTry K mg sk T Pt) (dScr a ns) DX0 (dEnds fun d _ => d = .bl true) (dst 13 [.ref a]) (memT Pt T)) : FnOk P w K mg base (L2N.CX P w) 11 f fd ["_law_script"] (spLaw K T) :=
  have sc := sc_law
  okLaw (t := fun a ns PX => t_law_k12 s_law_deck s_law_a_box s_law_writing s_Box_str s_law_value s_Box_read s_Box_source s_read_box s_box_text s_law_same s_law_known kB (dTry K mg sk T Pt) (dScr a ns) PX) Fn hcc sc hmT nT (fun cdv A outer s H E c a ns hcd cx hs0 hn0 hl0 => by
    exact (d_seq (d_for (vs := [1]) cx.hp rfl (d_iter (d_slice (d_scr rfl (by first | exact .inl rfl | exact .inr (.inl rfl)) hs0 hn0 hl0) d_nopart (d_part d_int))) (d_gn (i := 1) sc.nd rfl (.inl rfl) (by decide)) (d_seq (d_set (i := 2) sc.nd rfl (.inl rfl) (d_call h_law_deck cx.hr (by omega) (by rfl) cx.tk (d_acons (d_var 1 (pv 1)) (d_acons d_int d_anil)))) (d_seq (d_for (vs := [3]) cx.hp rfl (d_rng1 (by rfl) B.b_range (d_acons d_int d_anil)) (d_gn (i := 3) sc.nd rfl (.inl rfl) (by decide)) (d_seq (d_set (i := 4) sc.nd rfl (.inl rfl) (d_call h_law_a_box cx.hr (by omega) (by rfl) cx.tk (d_acons (d_var 2 (pv 2)) (d_acons d_int d_anil)))) (d_seq (d_set (i := 5) sc.nd rfl (.inl rfl) (d_call h_law_writing cx.hr (by omega) (by rfl) cx.tk (d_acons (d_var 4 (pv 4)) d_anil))) (d_seq (d_set (i := 6) sc.nd rfl (.inl rfl) (d_lst (d_acons (d_call h_box_text cx.hr (by omega) (by rfl) cx.tk (d_acons (d_var 4 (pv 4)) d_anil)) (d_acons (d_call h_read_box cx.hr (by omega) (by rfl) cx.tk (d_acons (d_var 5 (pv 5)) d_anil)) (d_acons (d_prop (d_cmeth (d_glob (by rfl) Z.gc) Z.rd Z.cm h_Box_read.toR cx.hr (by omega) cx.tk (d_acons (d_var 5 (pv 5)) d_anil)) Z.cls Z.prop h_Box_source cx.hr (by omega)) (d_acons (d_strO Z.str Z.strf h_Box_str.toR cx.hr (by omega) cx.tk (d_call h_law_value cx.hr (by omega) (by rfl) cx.tk (d_acons (d_var 4 (pv 4)) d_anil)) (by rfl) B.b_str (by decide +kernel)) d_anil)))))) (d_last (d_if (d_not (d_tval (d_call h_law_same cx.hr (by omega) (by rfl) cx.tk (d_acons (d_var 6 (pv 6)) (d_acons (d_lst (d_acons (d_var 5 (pv 5)) (d_acons (d_var 4 (pv 4)) (d_acons (d_var 4 (pv 4)) (d_acons (d_var 5 (pv 5)) d_anil))))) d_anil))))) (d_last (d_ret d_bl)) d_nil)))))) (d_last (d_for (vs := [7]) cx.hp rfl (d_iter (d_lst (d_acons d_non (d_acons (d_var 5 (pv 5)) (d_acons (d_fty (call_listA rfl) ol_list (by rfl) B.b_list (by decide +kernel) (d_acons (d_var 4 (pv 4)) d_anil)) (d_acons (d_slice (d_var 4 (pv 4)) d_nopart (d_part d_int)) d_anil)))))) (d_gn (i := 7) sc.nd rfl (.inr rfl) (by decide)) (d_last (d_if (d_tcmp (op_neD cx.hr.units) og_ne (d_try (T := T) (Pt := Pt) (k := 5) (hTry _ rfl rfl rfl rfl rfl _) (by rfl) TB hcd hmT hu (cx.hr.mono (by decide)) (LamX.lamS_by (by rfl)) rfl (fun _ _ _ _ _ => rfl) (fun A2 outer2 s2 H2 E2 f2 c2' c2 hr2 tk2 => (d_call h_box_text hr2 (by omega) (by rfl) tk2 (d_acons (d_var 7 (pv 7)) d_anil)))) d_str (nomark _)) (d_last (d_ret d_bl)) d_nil))))))) (d_seq (d_asg (vs := [8, 9, 10, 11]) (d_call0 h_law_known cx.hr (by omega) (by rfl) cx.tk) (d_gt rfl (d_gcons (d_gn (i := 8) sc.nd rfl (.inl rfl) (by decide)) (d_gcons (d_gn (i := 9) sc.nd rfl (.inl rfl) (by decide)) (d_gcons (d_gn (i := 10) sc.nd rfl (.inl rfl) (by decide)) (d_gcons (d_gn (i := 11) sc.nd rfl (.inl rfl) (by decide)) d_gnil)))))) (d_seq (d_if (d_wt (d_or (d_tcmp (op_neD cx.hr.units) og_ne (d_split (d_call h_box_text cx.hr (by omega) (by rfl) cx.tk (d_acons (d_var 9 (pv 9)) d_anil)) d_str) (d_lst (d_acons d_str (d_acons d_str (d_acons d_str d_anil)))) (nomark _)) (d_or1 (d_tcmp (op_neD cx.hr.units) og_ne (d_call h_box_text cx.hr (by omega) (by rfl) cx.tk (d_acons (d_var 11 (pv 11)) d_anil)) d_str (nomark _))))) (d_last (d_ret d_bl)) d_nil) (d_seq (d_set (i := 12) sc.nd rfl (.inl rfl) (d_tup (d_acons d_int (d_acons (d_tup (d_acons (d_tup (d_acons d_str d_anil)) (d_acons (d_mul (d_tup (d_acons d_str d_anil)) d_int) (d_acons (d_tup (d_acons d_str (d_acons d_str d_anil))) d_anil)))) d_anil)))) (d_seq (d_if (d_tcmp (op_neD cx.hr.units) og_ne (d_index (d_split (d_call h_box_text cx.hr (by omega) (by rfl) cx.tk (d_acons (d_var 12 (pv 12)) d_anil)) d_str) d_int (fun _ _ => rfl)) d_str (nomark _)) (d_last (d_ret d_bl)) d_nil) (d_last (d_ret (d_cmp (op_eqD cx.hr.units) og_eq (d_call h_read_box cx.hr (by omega) (by rfl) cx.tk (d_acons d_str d_anil)) (d_var 12 (pv 12)) (nomark _)))))))))) law
abbrev st_Box_init : Stmt := clsS (topS 50) 1
theorem sc_Box_init : FnScope ["self", "hold", "barrels"] ["self", "hold", "barrels"] (defScope st_Box_init) := ⟨rfl, rfl, rfl, by decide +kernel, rfl, by decide +kernel, by decide +kernel⟩
theorem ok_Box_init {fz : Addr} {s_need_box : DSp} {kB fi fm fs ps_ fr pr_ fa ft : Addr} {mc : Value} {sp : DSp} (df : StarAt K "__init__" "Box.__init__" st_Box_init fz) (h_need_box : Cal P w K mg base 4 "need_box" ["value"] s_need_box) (Z : BoxF K mg kB fi fm fs ps_ fr pr_ fa ft mc)
    (law : ∀ ds M P1 PX, sp ds M P1 PX → t_Box_init s_need_box kB PX (dEnds P1) (dst 3 ds) M) : CalR P w K mg base 5 fz (spStar 2 sp) :=
  have sc := sc_Box_init
  dcalStar (pv := "barrels") (ps := ["self", "hold"]) (t := t_Box_init s_need_box kB) df sc (fun kV doc pm an cdv ct => StX.bind_star2 (B := fun l => bindArgs (PySem.W.fnOf "__init__" "Box.__init__" (defArgs st_Box_init) (defBody st_Box_init) (defScope st_Box_init) Value.none kV doc pm an cdv ct) ⟨l, []⟩) (fun _ _ => rfl) (fun _ _ _ _ => rfl)) (fun cdv A outer s H E c cx => by
    exact (d_seq (d_expr (d_call h_need_box cx.hr (by omega) (by rfl) cx.tk (d_acons (d_tup (d_acons (d_var 1 (pv 1)) (d_acons (d_var 2 (pv 2)) d_anil))) d_anil))) (d_last (d_setFld (d_var 0 (pv 0)) (d_tup (d_acons (d_var 1 (pv 1)) (d_acons (d_var 2 (pv 2)) d_anil))) Z.cls Z.na)))) law
abbrev st_Box_read : Stmt := clsS (topS 50) 2
theorem sc_Box_read : FnScope ["cls", "value", "hold", "barrels"] ["cls", "value"] (defScope st_Box_read) := ⟨rfl, rfl, rfl, by decide +kernel, rfl, by decide +kernel, by decide +kernel⟩
theorem ok_Box_read {fz : Addr} {s_box_in : DSp} {s_Box_init : DSp} {kB fi fm fs ps_ fr pr_ fa ft : Addr} {mc : Value} {sp : DSp} (df : MethAt K "read" "Box.read" ["cls", "value"] st_Box_read fz) (h_box_in : Cal P w K mg base 4 "box_in" ["value"] s_box_in) (h_Box_init : CalR P w K mg base 5 fi s_Box_init) (Z : BoxF K mg kB fi fm fs ps_ fr pr_ fa ft mc) (len : ∀ ds M P PX, sp ds M P PX → ds.length = 2)
    (law : ∀ ds M P1 PX, sp ds M P1 PX → t_Box_read s_box_in s_Box_init kB PX (dEnds P1) (dst 4 ds) M) : CalV P w K mg base 8 fz sp :=
  have sc := sc_Box_read
  dcalM (t := t_Box_read s_box_in s_Box_init kB) df sc len (fun cdv A outer s H E c cx => by
    exact (d_seq (d_asg (vs := [2, 3]) (d_call h_box_in cx.hr (by omega) (by rfl) cx.tk (d_acons (d_var 1 (pv 1)) d_anil)) (d_gt rfl (d_gcons (d_gn (i := 2) sc.nd rfl (.inl rfl) (by decide)) (d_gcons (d_gn (i := 3) sc.nd rfl (.inl rfl) (by decide)) d_gnil)))) (d_last (d_ret (d_makeL (i := 0) Z.mkr h_Box_init cx.hr (by omega) rfl (by first | exact .inl rfl | exact .inr (.inl rfl) | exact .inr (.inr rfl)) cx.tk (d_acons (d_var 2 (pv 2)) (d_star (d_var 3 (pv 3)) d_anil))))))) law
abbrev st_Box_source : Stmt := clsS (topS 50) 3
theorem sc_Box_source : FnScope ["self"] ["self"] (defScope st_Box_source) := ⟨rfl, rfl, rfl, by decide +kernel, rfl, by decide +kernel, by decide +kernel⟩
theorem ok_Box_source {fz : Addr} {kB fi fm fs ps_ fr pr_ fa ft : Addr} {mc : Value} {sp : DSp} (df : MethAt K "source" "Box.source" ["self"] st_Box_source fz) (Z : BoxF K mg kB fi fm fs ps_ fr pr_ fa ft mc) (len : ∀ ds M P PX, sp ds M P PX → ds.length = 1)
    (law : ∀ ds M P1 PX, sp ds M P1 PX → t_Box_source_k12 kB PX (dEnds P1) (dst 1 ds) M) : CalV P w K mg base 1 fz sp :=
  have sc := sc_Box_source
  dcalM (t := t_Box_source_k12 kB) df sc len (fun cdv A outer s H E c cx => by
    exact (d_last (d_ret (d_fld (d_var 0 (pv 0)) Z.cls Z.na)))) law
abbrev st_Box_made : Stmt := clsS (topS 50) 4
theorem sc_Box_made : FnScope ["self", "barrels", "hold", "some"] ["self", "barrels"] (defScope st_Box_made) := ⟨rfl, rfl, rfl, by decide +kernel, rfl, by decide +kernel, by decide +kernel⟩
theorem ok_Box_made {fz : Addr} {s_checked : DSp} {s_Box_init : DSp} {kB fi fm fs ps_ fr pr_ fa ft : Addr} {mc : Value} {sp : DSp} (df : MethAt K "made" "Box.made" ["self", "barrels"] st_Box_made fz) (h_checked : Cal P w K mg base 4 "checked" ["box"] s_checked) (h_Box_init : CalR P w K mg base 5 fi s_Box_init) (Z : BoxF K mg kB fi fm fs ps_ fr pr_ fa ft mc) (len : ∀ ds M P PX, sp ds M P PX → ds.length = 2)
    (law : ∀ ds M P1 PX, sp ds M P1 PX → t_Box_made s_checked s_Box_init kB PX (dEnds P1) (dst 4 ds) M) : CalV P w K mg base 8 fz sp :=
  have sc := sc_Box_made
  dcalM (t := t_Box_made s_checked s_Box_init kB) df sc len (fun cdv A outer s H E c cx => by
    exact (d_seq (d_asg (vs := [2, 3]) (d_call h_checked cx.hr (by omega) (by rfl) cx.tk (d_acons (d_tup (d_acons (d_index (d_fld (d_var 0 (pv 0)) Z.cls Z.na) d_int (fun _ _ => rfl)) (d_acons (d_var 1 (pv 1)) d_anil))) d_anil)) (d_gt rfl (d_gcons (d_gn (i := 2) sc.nd rfl (.inl rfl) (by decide)) (d_gcons (d_gn (i := 3) sc.nd rfl (.inl rfl) (by decide)) d_gnil)))) (d_last (d_ret (d_makeS Z.mkr h_Box_init cx.hr (by omega) (by rfl) Z.mgB cx.tk (d_acons (d_var 2 (pv 2)) (d_star (d_var 3 (pv 3)) d_anil))))))) law
abbrev st_Box_add : Stmt := clsS (topS 50) 6
theorem sc_Box_add : FnScope ["self", "barrel"] ["self", "barrel"] (defScope st_Box_add) := ⟨rfl, rfl, rfl, by decide +kernel, rfl, by decide +kernel, by decide +kernel⟩
theorem ok_Box_add {fz : Addr} {s_Box_made : DSp} {kB fi fm fs ps_ fr pr_ fa ft : Addr} {mc : Value} {sp : DSp} (df : MethAt K "__add__" "Box.__add__" ["self", "barrel"] st_Box_add fz) (h_Box_made : CalV P w K mg base 8 fm s_Box_made) (Z : BoxF K mg kB fi fm fs ps_ fr pr_ fa ft mc) (len : ∀ ds M P PX, sp ds M P PX → ds.length = 2)
    (law : ∀ ds M P1 PX, sp ds M P1 PX → t_Box_add s_Box_made kB PX (dEnds P1) (dst 2 ds) M) : CalV P w K mg base 9 fz sp :=
  have sc := sc_Box_add
  dcalM (t := t_Box_add s_Box_made kB) df sc len (fun cdv A outer s H E c cx => by
    exact (d_last (d_ret (d_meth (d_var 0 (pv 0)) Z.cls Z.made h_Box_made.toR cx.hr (by omega) cx.tk (d_acons (d_add (d_index (d_fld (d_var 0 (pv 0)) Z.cls Z.na) d_int (fun _ _ => rfl)) (d_tup (d_acons (d_var 1 (pv 1)) d_anil))) d_anil))))) law
abbrev st_Box_str : Stmt := clsS (topS 50) 19
theorem sc_Box_str : FnScope ["self"] ["self"] (defScope st_Box_str) := ⟨rfl, rfl, rfl, by decide +kernel, rfl, by decide +kernel, by decide +kernel⟩
theorem ok_Box_str {fz : Addr} {s_lines_of : DSp} {kB fi fm fs ps_ fr pr_ fa ft : Addr} {mc : Value} {sp : DSp} (df : MethAt K "__str__" "Box.__str__" ["self"] st_Box_str fz) (h_lines_of : Cal P w K mg base 2 "lines_of" ["box"] s_lines_of) (Z : BoxF K mg kB fi fm fs ps_ fr pr_ fa ft mc) (len : ∀ ds M P PX, sp ds M P PX → ds.length = 1)
    (law : ∀ ds M P1 PX, sp ds M P1 PX → t_Box_str s_lines_of kB PX (dEnds P1) (dst 1 ds) M) : CalV P w K mg base 3 fz sp :=
  have sc := sc_Box_str
  dcalM (t := t_Box_str s_lines_of kB) df sc len (fun cdv A outer s H E c cx => by
    exact (d_last (d_ret (d_join d_str (d_call h_lines_of cx.hr (by omega) (by rfl) cx.tk (d_acons (d_fld (d_var 0 (pv 0)) Z.cls Z.na) d_anil)))))) law
end
end DL

set_option Elab.async false
set_option linter.all false
set_option maxRecDepth 100000
set_option maxHeartbeats 4000000
namespace DL
open PySem PySem.Spec PyProof.Rows L2
/-! ### a Hook of one's own: hookX's facts, over the interpreter's own statics too, and defs at any address -/
abbrev AlY : Type := He.AlX × He.AlD
def asY (g : Addr → Option Obj) (n : Nat) : List Addr := He.asD g n ++ [cStatics]
def obsY (n : Nat) (fa : List He.Fa) (fn : List He.DefD) (da : List He5.DefA) (ts : List He.Tab) (tf : List He.Defn) (ex : Fg → Bool) (g : Addr → Option Obj) : AlY :=
  ((He.obsT fa fn ts (He.frT g (asY g n)), ex (He.frT g (asY g n)) && He.tabsB g tf (He.frT g (asY g n))), (da.all fun d => d.ok (He.frT g (asY g n)), da.map fun d => He5.fnA (He.frT g (asY g n)) (d.at_ (He.frT g (asY g n)))))
def valY (fn : List He.DefD) (da : List He5.DefA) (ts : List He.Tab) (w : World) : AlY := (He.valX fn ts w, (true, da.map He5.DefA.val))
structure SaysY (fa : List He.Fa) (fn : List He.DefD) (da : List He5.DefA) (ts : List He.Tab) (tf : List He.Defn) (ex : Fg → Bool) (w : World) (h : Heap) (K : Fg) : Prop where
  x : He.SaysX fa fn ts tf ex w h K
  a : (((da.all fun d => d.ok K), da.map fun d => He5.fnA K (d.at_ K)) : He.AlD) = (true, da.map He5.DefA.val)
theorem saysX_gen {as : List Addr} {fa : List He.Fa} {fn : List He.DefD} {ts : List He.Tab} {tf : List He.Defn} {ex : Fg → Bool} {w : World} {h : Heap}
    (e : ((He.obsT fa fn ts (He.frT h.get? as), ex (He.frT h.get? as) && He.tabsB h.get? tf (He.frT h.get? as)) : He.AlX) = He.valX fn ts w) : He.SaysX fa fn ts tf ex w h (He.frT h.get? as) := by
  have e1 : He.obsT fa fn ts (He.frT h.get? as) = He.valT fn ts w := congrArg (fun z : He.AlX => z.1) e
  have e2 : (ex (He.frT h.get? as) && He.tabsB h.get? tf (He.frT h.get? as)) = true := congrArg (fun z : He.AlX => z.2) e
  obtain ⟨h1, h2⟩ := He.ba e2
  have key : ∀ p ∈ tf, PySem.W.codeHdIn (He.frT h.get? as) (He.cT (He.frT h.get? as) p).1 (He.cT (He.frT h.get? as) p).2 = true ∧ ∃ o, h.get? (He.cT (He.frT h.get? as) p).2 = some o ∧ He.emptyTab o = true := fun p hp => by
    obtain ⟨h3, h4⟩ := He.ba (List.all_eq_true.mp h2 p hp)
    refine ⟨h3, ?_⟩
    cases q : h.get? (He.cT (He.frT h.get? as) p).2 with
    | none =>
      rw [q] at h4
      cases h4
    | some o =>
      rw [q] at h4
      exact ⟨o, rfl, h4⟩
  exact ⟨e1, h1, fun p hp => (key p hp).1, fun p hp => by
    obtain ⟨_, o, q, z⟩ := key p hp
    exact He.frT_none q z, fun p hp => by
    obtain ⟨_, o, q, z⟩ := key p hp
    rw [q, He.emptyTab_eq z]⟩
def hookY (n : Nat) (fa : List He.Fa) (fn : List He.DefD) (da : List He5.DefA) (ts : List He.Tab) (tf : List He.Defn) (ex : Fg → Bool) : PySem.W.Hook where
  α := AlY
  obs := fun s => obsY n fa fn da ts tf ex s.heap.get?
  val := fun w => valY fn da ts w
  says := fun w h => ∃ K : Fg, K.In h ∧ SaysY fa fn da ts tf ex w h K
  of := fun _ _ e => ⟨_, He.frT_in, ⟨saysX_gen (congrArg (fun z : AlY => z.1) e), congrArg (fun z : AlY => z.2) e⟩⟩
  keeps := fun _ _ _ ⟨K, hK, c⟩ k => ⟨K, PySem.W.Frag.In.keeps hK k, ⟨⟨c.x.t, c.x.more, c.x.hd, c.x.out, fun p hp => k _ _ (c.x.empty p hp)⟩, c.a⟩⟩
theorem obsY_eq {n : Nat} {fa : List He.Fa} {fn : List He.DefD} {da : List He5.DefA} {ts : List He.Tab} {tf : List He.Defn} {ex : Fg → Bool} {g : Addr → Option Obj} {s : Shared} (h : ∀ a, g a = s.heap.get? a) : obsY n fa fn da ts tf ex g = (hookY n fa fn da ts tf ex).obs s := by
  have e : g = s.heap.get? := funext h
  rw [e] <;> rfl
theorem SaysY.defA {fa : List He.Fa} {fn : List He.DefD} {da : List He5.DefA} {ts : List He.Tab} {tf : List He.Defn} {ex : Fg → Bool} {w : World} {h : Heap} {K : Fg} (c : SaysY fa fn da ts tf ex w h K) (i : Nat) {d : He5.DefA} (hd : da[i]? = some d := by rfl) :
    ∃ fd, FunD K d.name d.qual d.params d.body d.scope (d.dvs K) (d.kws K) (d.at_ K) fd := by
  have c2 : (da.all fun d => d.ok K) = true := congrArg (fun z : He.AlD => z.1) c.a
  have e : da.map (fun d => He5.fnA K (d.at_ K)) = da.map He5.DefA.val := congrArg (fun z : He.AlD => z.2) c.a
  have e2 : (da.map fun d => He5.fnA K (d.at_ K))[i]? = (da.map He5.DefA.val)[i]? := by rw [e]
  rw [List.getElem?_map, List.getElem?_map, hd] at e2
  exact He5.DefA.funD (Option.some.inj e2) (List.all_eq_true.mp c2 d (List.mem_of_getElem? hd))
/-! ### the class of boxes -/
abbrev kBox (K : Fg) : Addr := He.ga K "Box"
def propB (K : Fg) (C : Addr) (m : Str) : Bool := He.eqO (PySem.W.findIn K (.ref C) m) (some (some (.ref (He.ma K C m)))) && (He.eqO (PySem.W.specialIn K (.ref (He.ma K C m)) "__get__") (some (some (.builtin "property.__get__"))) && (decide (PySem.W.takesIn K (.ref (He.ma K C m)) = some true) && (match PySem.W.recIn K (He.ma K C m) "property" with
  | some (.ref _ :: _) => true
  | _ => false)))
theorem propB_ok {K : Fg} {C : Addr} {m : Str} (h : propB K C m = true) : PropOf K C m (He.ma K C m) (He5.wf K C "property" m) := by
  obtain ⟨h1, h⟩ := He.ba h
  obtain ⟨h2, h⟩ := He.ba h
  obtain ⟨h3, h4⟩ := He.ba h
  refine ⟨He.eqO_ok h1, He.eqO_ok h2, of_decide_eq_true h3, ?_⟩
  unfold He5.wf
  split at h4
  · rename_i f r e
    exact ⟨r, by rw [e]⟩
  · cases h4
def binB (K : Fg) (C : Addr) (op : Operator) (m : Str) (T : String) : Bool := PySem.W.selfFirst K C && (He.eqO (PySem.W.findIn K (.ref C) (PySem.dunder op.info.2)) (some (some (.ref (He.ma K C m)))) && (PySem.W.isFn K (.ref (He.ma K C m)) && (He.eqO (PySem.W.findIn K (.ref C) (dunderR op.info.2)) (some none) &&
  ((PySem.W.findIn K (.type T) (PySem.dunder op.info.2)).isSome && ((PySem.W.findIn K (.type T) (dunderR op.info.2)).isSome && decide (PySem.W.subIn K (.type T) (.ref C) = some false))))))
theorem binB_ok {K : Fg} {C : Addr} {op : Operator} {m : Str} {T : String} (h : binB K C op m T = true) : BinO K C (He.ma K C m) op T := by
  obtain ⟨h1, h⟩ := He.ba h
  obtain ⟨h2, h⟩ := He.ba h
  obtain ⟨h3, h⟩ := He.ba h
  obtain ⟨h4, h⟩ := He.ba h
  obtain ⟨h5, h⟩ := He.ba h
  obtain ⟨h6, h7⟩ := He.ba h
  obtain ⟨fo, e1⟩ := Option.isSome_iff_exists.mp h5
  obtain ⟨ro, e2⟩ := Option.isSome_iff_exists.mp h6
  exact ⟨h1, He.eqO_ok h2, h3, ⟨none, He.eqO_ok h4, .inl rfl⟩, ⟨fo, ro, e1, e2⟩, of_decide_eq_true h7⟩
theorem cread_by {K : Fg} {C : Addr} (N : PySem.W.readsIn K C (.type "type") = true) : ClX.CRead K C (.type "type") := by
  refine ⟨N, ?_⟩
  have h := N
  unfold PySem.W.readsIn at h
  obtain ⟨h, _⟩ := He.ba h
  obtain ⟨h, _⟩ := He.ba h
  obtain ⟨h, h3⟩ := He.ba h
  obtain ⟨_, h2⟩ := He.ba h
  unfold PySem.W.specialIn
  rw [beq_iff_eq.mp h2, Option.bind_some]
  exact beq_iff_eq.mp h3
def boxB (K : Fg) : Bool := (He.Fa.cls "Box").ok K && ((He.Fa.noat "Box" "whole").ok K && ((He.Fa.mkr "Box").ok K && ((He.Fa.meth "Box" "made").ok K && (propB K (kBox K) "source" && (PySem.W.readsIn K (kBox K) (.type "type") &&
  (He5.wrapB K (kBox K) "classmethod" "classmethod.__get__" "read" && (PySem.W.fnIn K (He5.wf K (kBox K) "classmethod" "read") && (binB K (kBox K) .Add "__add__" "tuple" &&
  (He.eqO (PySem.W.findIn K (.ref (kBox K)) "__str__") (some (some (.ref (He.ma K (kBox K) "__str__")))) && PySem.W.isFn K (.ref (He.ma K (kBox K) "__str__")))))))))))
theorem boxB_ok {K : Fg} {mg : Str → Option Value} (h : boxB K = true) (hm : mg "Box" = some (.ref (kBox K))) (gc : GCon K mg "Box" (.ref (kBox K))) :
    BoxF K mg (kBox K) (He.ma K (kBox K) "__init__") (He.ma K (kBox K) "made") (He5.wf K (kBox K) "property" "source") (He.ma K (kBox K) "source") (He5.wf K (kBox K) "classmethod" "read") (He.ma K (kBox K) "read") (He.ma K (kBox K) "__add__") (He.ma K (kBox K) "__str__") (.type "type") := by
  obtain ⟨h1, h⟩ := He.ba h
  obtain ⟨h2, h⟩ := He.ba h
  obtain ⟨h3, h⟩ := He.ba h
  obtain ⟨h4, h⟩ := He.ba h
  obtain ⟨h5, h⟩ := He.ba h
  obtain ⟨h6, h⟩ := He.ba h
  obtain ⟨h7, h⟩ := He.ba h
  obtain ⟨h8, h⟩ := He.ba h
  obtain ⟨h9, h⟩ := He.ba h
  obtain ⟨h10, h11⟩ := He.ba h
  exact { mgB := hm, gc := gc, cls := He.cls_ok h1, na := He.noat_ok h2, mkr := He.mkr_ok h3, made := He.meth_ok h4, prop := propB_ok h5, rd := cread_by h6, cm := He5.cmet_of h7 h8, add := binB_ok h9, str := He.eqO_ok h10, strf := h11 }
/-! ### a written tuple of texts -/
def tconB (K : Fg) (x : Str) (ys : List Str) : Bool := He.tupB K x (ys.map He.Dv.str) && (match K.lookup (He.ga K x) with
  | some ⟨.type c, none, _, _⟩ => decide (c = "tuple")
  | _ => false)
theorem tconB_ok {K : Fg} {mg : Str → Option Value} {x : Str} {ys : List Str} (h : tconB K x ys = true) (hm : mg x = some (.ref (He.ga K x))) : TCon K mg x ys := by
  obtain ⟨h1, h2⟩ := He.ba h
  cases q : K.lookup (He.ga K x) with
  | none => rw [q] at h2; cases h2
  | some o =>
    obtain ⟨oc, od, dt, osl⟩ := o
    rw [q] at h2
    cases oc with
    | type c =>
      cases od with
      | none =>
        have e : c = "tuple" := of_decide_eq_true h2
        refine ⟨⟨_, _, hm, q, by rw [e], rfl, fun H => ?_⟩⟩
        have z := He.tupB_ok h1 H
        rw [List.map_map] at z
        exact z
      | some d => cases h2
    | _ => cases od <;> cases h2
end DL

set_option Elab.async false
set_option linter.all false
set_option maxRecDepth 100000
set_option maxHeartbeats 0
namespace DL
open PySem PySem.Spec PyProof.Rows L2
abbrev Rw : PySem.W.OpenRow := PySem.W.OpenLaw.row PySem.Challenge.rw_barrelsuntold_k12_boxes_written_and_read
def dd_is_within : He.DefD := ⟨("is_within", none), "is_within", "is_within", defArgs st_is_within, defBody st_is_within, defScope st_is_within, [], []⟩
def dd_has_items : He.DefD := ⟨("has_items", none), "has_items", "has_items", defArgs st_has_items, defBody st_has_items, defScope st_has_items, [], []⟩
def dd_are_teeth : He.DefD := ⟨("are_teeth", none), "are_teeth", "are_teeth", defArgs st_are_teeth, defBody st_are_teeth, defScope st_are_teeth, [], []⟩
def dd_is_barrel : He.DefD := ⟨("is_barrel", none), "is_barrel", "is_barrel", defArgs st_is_barrel, defBody st_is_barrel, defScope st_is_barrel, [], []⟩
def dd_is_box_value : He.DefD := ⟨("is_box_value", none), "is_box_value", "is_box_value", defArgs st_is_box_value, defBody st_is_box_value, defScope st_is_box_value, [], []⟩
def dd_need_box : He.DefD := ⟨("need_box", none), "need_box", "need_box", defArgs st_need_box, defBody st_need_box, defScope st_need_box, [], []⟩
def dd_word_of : He.DefD := ⟨("word_of", none), "word_of", "word_of", defArgs st_word_of, defBody st_word_of, defScope st_word_of, [], []⟩
def dd_lines_of : He.DefD := ⟨("lines_of", none), "lines_of", "lines_of", defArgs st_lines_of, defBody st_lines_of, defScope st_lines_of, [], []⟩
def dd_teeth_in : He.DefD := ⟨("teeth_in", none), "teeth_in", "teeth_in", defArgs st_teeth_in, defBody st_teeth_in, defScope st_teeth_in, [], []⟩
def dd_barrel_in : He.DefD := ⟨("barrel_in", none), "barrel_in", "barrel_in", defArgs st_barrel_in, defBody st_barrel_in, defScope st_barrel_in, [], []⟩
def dd_box_in : He.DefD := ⟨("box_in", none), "box_in", "box_in", defArgs st_box_in, defBody st_box_in, defScope st_box_in, [], []⟩
def dd_box_text : He.DefD := ⟨("box_text", none), "box_text", "box_text", defArgs st_box_text, defBody st_box_text, defScope st_box_text, [], []⟩
def dd_read_box : He.DefD := ⟨("read_box", none), "read_box", "read_box", defArgs st_read_box, defBody st_read_box, defScope st_read_box, [], []⟩
def dd_checked : He.DefD := ⟨("checked", none), "checked", "checked", defArgs st_checked, defBody st_checked, defScope st_checked, [], []⟩
def dd_law_deck : He.DefD := ⟨("_law_deck", none), "_law_deck", "_law_deck", defArgs st_law_deck, defBody st_law_deck, defScope st_law_deck, [], []⟩
def dd_law_pick : He.DefD := ⟨("_law_pick", none), "_law_pick", "_law_pick", defArgs st_law_pick, defBody st_law_pick, defScope st_law_pick, [], []⟩
def dd_law_one : He.DefD := ⟨("_law_one", none), "_law_one", "_law_one", defArgs st_law_one, defBody st_law_one, defScope st_law_one, [], []⟩
def dd_law_sort : He.DefD := ⟨("_law_sort", none), "_law_sort", "_law_sort", defArgs st_law_sort, defBody st_law_sort, defScope st_law_sort, [], []⟩
def dd_law_same : He.DefD := ⟨("_law_same", none), "_law_same", "_law_same", defArgs st_law_same, defBody st_law_same, defScope st_law_same, [], []⟩
def dd_law_kin : He.DefD := ⟨("_law_kin", none), "_law_kin", "_law_kin", defArgs st_law_kin, defBody st_law_kin, defScope st_law_kin, [], []⟩
def dd_law_try : He.DefD := ⟨("_law_try", none), "_law_try", "_law_try", defArgs st_law_try, defBody st_law_try, defScope st_law_try, [], []⟩
def dd_law_known : He.DefD := ⟨("_law_known", none), "_law_known", "_law_known", defArgs st_law_known, defBody st_law_known, defScope st_law_known, [], []⟩
def dd_law_some_teeth : He.DefD := ⟨("_law_some_teeth", none), "_law_some_teeth", "_law_some_teeth", defArgs st_law_some_teeth, defBody st_law_some_teeth, defScope st_law_some_teeth, [], []⟩
def dd_law_a_box : He.DefD := ⟨("_law_a_box", none), "_law_a_box", "_law_a_box", defArgs st_law_a_box, defBody st_law_a_box, defScope st_law_a_box, [], []⟩
def dd_law_writing : He.DefD := ⟨("_law_writing", none), "_law_writing", "_law_writing", defArgs st_law_writing, defBody st_law_writing, defScope st_law_writing, [], []⟩
def dd_law_value : He.DefD := ⟨("_law_value", none), "_law_value", "_law_value", defArgs st_law_value, defBody st_law_value, defScope st_law_value, [], []⟩
def dd_law : He.DefD := ⟨("law", none), "law", "law", defArgs st_law, defBody st_law, defScope st_law, [], []⟩
def dd_Box_init : He.DefD := ⟨("Box", some "__init__"), "__init__", "Box.__init__", defArgs st_Box_init, defBody st_Box_init, defScope st_Box_init, [], []⟩
def dd_Box_made : He.DefD := ⟨("Box", some "made"), "made", "Box.made", defArgs st_Box_made, defBody st_Box_made, defScope st_Box_made, [], []⟩
def dd_Box_add : He.DefD := ⟨("Box", some "__add__"), "__add__", "Box.__add__", defArgs st_Box_add, defBody st_Box_add, defScope st_Box_add, [], []⟩
def dd_Box_str : He.DefD := ⟨("Box", some "__str__"), "__str__", "Box.__str__", defArgs st_Box_str, defBody st_Box_str, defScope st_Box_str, [], []⟩
def dy_Box_source : He5.DefA := ⟨fun K => He5.wf K (kBox K) "property" "source", "source", "Box.source", defArgs st_Box_source, defBody st_Box_source, defScope st_Box_source, [], []⟩
def dy_Box_read : He5.DefA := ⟨fun K => He5.wf K (kBox K) "classmethod" "read", "read", "Box.read", defArgs st_Box_read, defBody st_Box_read, defScope st_Box_read, [], []⟩
def daL : List He5.DefA := [dy_Box_source, dy_Box_read]
def fnL : List He.DefD := [dd_is_within, dd_has_items, dd_are_teeth, dd_is_barrel, dd_is_box_value, dd_need_box, dd_word_of, dd_lines_of, dd_teeth_in, dd_barrel_in, dd_box_in, dd_box_text, dd_read_box, dd_checked, dd_law_deck, dd_law_pick, dd_law_one, dd_law_sort, dd_law_same, dd_law_kin, dd_law_try, dd_law_known, dd_law_some_teeth, dd_law_a_box, dd_law_writing, dd_law_value, dd_law, dd_Box_init, dd_Box_made, dd_Box_add, dd_Box_str]
def kinN : List Str := ["InvalidBox", "InvalidBeginning", "InvalidTick", "InvalidTooth", "InvalidFacts", "InvalidNumber", "InvalidIndex", "NoBeginning", "Unlike", "NothingToUndo", "TooMany", "InvalidText"]
def errN : List Str := ["InvalidBox"]
def gloL : List Str := (["is_within", "has_items", "are_teeth", "is_barrel", "is_box_value", "need_box", "word_of", "lines_of", "teeth_in", "barrel_in", "box_in", "box_text", "read_box", "checked", "_law_deck", "_law_pick", "_law_one", "_law_sort", "_law_same", "_law_kin"] : List Str) ++ (["_law_try", "_law_known", "_law_some_teeth", "_law_a_box", "_law_writing", "_law_value", "law", "BoxError", "InvalidBox", "InvalidBeginning", "InvalidTick", "InvalidTooth", "InvalidFacts", "InvalidNumber", "InvalidIndex", "NoBeginning", "Unlike", "NothingToUndo", "TooMany", "InvalidText"] : List Str) ++ (["Box", "TEETH", "HOLDS"] : List Str)
def freeL : List Str := ["int", "bool", "str", "tuple", "list", "set", "len", "isinstance", "any", "all", "sorted", "max", "min", "range", "zip", "enumerate", "ValueError"]
def intL : List He.Fa := [.int "GREAT" 1000000000000000000000000000000]
def faL : List He.Fa := gloL.map He.Fa.glo ++ (freeL.map He.Fa.free ++ (intL ++ (errN.map He.Fa.exc ++ errN.flatMap fun x => [.exm x "InvalidText" false, .exm x "TooMany" false, .exm x "BoxError" true])))
def looseL : List Str := (["BoxError", "InvalidBox", "InvalidBeginning", "InvalidTick", "InvalidTooth", "InvalidFacts", "InvalidNumber", "InvalidIndex", "NoBeginning", "Unlike", "NothingToUndo", "TooMany", "InvalidText", "Box", "TEETH", "GREAT", "HOLDS", "_wall", "is_within", "has_items"] : List Str) ++ (["is_tooth", "are_teeth", "is_barrel", "is_box_value", "begins", "need_box", "need_beginning", "need_tick", "gcd", "period_of", "all_beginnings", "word_of", "lines_of", "teeth_in", "barrel_in", "box_in", "box_text", "read_box", "items_at", "chord_at"] : List Str) ++ (["is_clash", "first_of", "clean_ones", "checked", "exchanged", "_law_deck", "_law_pick", "_law_one", "_law_sort", "_law_same", "_law_kin", "_law_try", "_law_known", "_law_some_teeth", "_law_a_box", "_law_writing", "_law_value"] : List Str)
def viewL : PySem.Program := PySem.W.view Rw.prog [64]
abbrev lawI : Nat := 64
def kitR (K : Fg) (x : Str) : Bool := (kinN.all fun y => decide (PySem.W.kitOne K (.ref (He.ga K x)) (.ref (He.ga K y)) = some (y == x))) && decide (PySem.W.kitOne K (.ref (He.ga K x)) (.type "ValueError") = some true)
def excR (K : Fg) (x : Str) : Bool := decide (PySem.W.findIn K (.ref (He.ga K x)) "__getattribute__" = some (some (.builtin "BaseException.__getattribute__"))) && (decide (PySem.W.findIn K (.ref (He.ga K x)) "__getattr__" = some none) && (PySem.W.hasDictIn K (He.ga K x) && (decide (PySem.W.findIn K (.ref (He.ga K x)) "__class__" = some (some (.builtin "object.__class__"))) &&
  (decide (PySem.W.specialIn K (.builtin "object.__class__") "__get__" = some (some (.builtin "getset_descriptor.__get__"))) && (decide (PySem.W.takesIn K (.builtin "object.__class__") = some true) && decide (PySem.W.mroIn K (He.ga K x) (.type "object") = some true))))))
def tupHd (K : Fg) : Bool := He.tupB K "TEETH" [.str "a", .str "b", .str "c", .str "d"] && He.tupB K "HOLDS" [.str "hold 0", .str "hold 1", .str "hold 2", .str "hold 3"]
def exK0 (K : Fg) : Bool := tupHd K && errN.all fun x => kitR K x && excR K x
def exB (K : Fg) : Bool := boxB K && (tconB K "HOLDS" holdsL)
def exK (K : Fg) : Bool := exK0 K && exB K
abbrev hk : PySem.W.Hook := hookY 6 faL fnL daL [] [("law", none)] exK
def obK (s : PySem.W.SharedT) : AlY := obsY 6 faL fnL daL [] [("law", none)] exK (HandSHeadRun.getT s)
theorem obK_eq (s : PySem.W.SharedT) : obK s = hk.obs s.abs := obsY_eq (HandSHeadRun.getT_eq s)
theorem runK (w : World) : HandSHeadRun.RunEq Rw viewL hk obK 8000 looseL w := by
  intro os
  kernel_rfl
end DL

set_option Elab.async false
set_option linter.all false
set_option maxRecDepth 100000
set_option maxHeartbeats 4000000
namespace DL
open PySem PySem.Spec PyProof.Rows L2
/-! ### plain facts: comprehensions, loops, texts -/
theorem compL_by {vs : List Nat} {g : DTG} {tt : DTT} {te : DTE} {ds : DSt} {Q : List D → Mem → Prop} {M : Mem} (F : D → Option D) : ∀ (xs acc : List D),
    (∀ x ∈ xs, ∀ R : Option D → Mem → Prop, R (F x) M → g x (dwipe ds vs) M fun ds2 M2 => tt ds2 M2 fun b M3 => (b = true → te ds2 M3 fun y M4 => R (some y) M4) ∧ (b = false → R none M3)) →
    Q (acc ++ xs.filterMap F) M → compL vs g tt te ds Q xs acc M
  | [], acc, _, q => by
    rw [List.filterMap_nil, List.append_nil] at q
    exact q
  | x :: r, acc, h, q => by
    refine h x List.mem_cons_self (fun o M' => match o with | some y => compL vs g tt te ds Q r (acc ++ [y]) M' | none => compL vs g tt te ds Q r acc M') ?_
    rw [List.filterMap_cons] at q
    cases e : F x with
    | none =>
      rw [e] at q
      exact compL_by F r acc (fun y hy => h y (List.mem_cons_of_mem _ hy)) q
    | some y =>
      rw [e] at q
      refine compL_by F r (acc ++ [y]) (fun y hy => h y (List.mem_cons_of_mem _ hy)) ?_
      rw [List.append_assoc]
      exact q
/-- with a store that changes: Inv of what is made so far -/
theorem compL_inv {vs : List Nat} {g : DTG} {tt : DTT} {te : DTE} {ds : DSt} {Q : List D → Mem → Prop} (Inv : Nat → List D → Mem → Prop) : ∀ (xs acc : List D) (n : Nat) (M : Mem),
    (∀ x ∈ xs, ∀ (acc : List D) (n : Nat) (M : Mem), Inv n acc M → ∀ R : Option D → Mem → Prop, (∀ y M', Inv (n + 1) (acc ++ [y]) M' → R (some y) M') → g x (dwipe ds vs) M fun ds2 M2 => tt ds2 M2 fun b M3 => (b = true → te ds2 M3 fun y M4 => R (some y) M4) ∧ (b = false → R none M3)) →
    Inv n acc M → (∀ ys M', Inv (n + xs.length) ys M' → Q ys M') → compL vs g tt te ds Q xs acc M
  | [], acc, n, M, _, i, q => q acc M i
  | x :: r, acc, n, M, h, i, q => by
    refine h x List.mem_cons_self acc n M i (fun o M' => match o with | some y => compL vs g tt te ds Q r (acc ++ [y]) M' | none => compL vs g tt te ds Q r acc M') fun y M' i' => ?_
    refine compL_inv Inv r (acc ++ [y]) (n + 1) M' (fun y hy => h y (List.mem_cons_of_mem _ hy)) i' fun ys M2 i2 => q ys M2 ?_
    rw [List.length_cons, show n + (r.length + 1) = n + 1 + r.length by omega]
    exact i2
/-- a loop that changes slots and store: Inv of the turn -/
theorem forL_inv {g : DTG} {tb : DTS} {W : DEnds} (Inv : Nat → DSt → Mem → Prop) : ∀ (xs : List D) (n : Nat) (ds : DSt) (M : Mem),
    (∀ (i : Nat) (x : D), xs[i]? = some x → ∀ ds M, Inv (n + i) ds M → ∀ Nx : DSt → Mem → Prop, (∀ ds M, Inv (n + i + 1) ds M → Nx ds M) → g x ds M fun ds1 M1 => tb { nx := Nx, rt := W.rt, bk := W.nx, ct := Nx } ds1 M1) →
    Inv n ds M → (∀ ds M, Inv (n + xs.length) ds M → W.nx ds M) → forL g tb W xs ds M
  | [], n, ds, M, _, i, q => q ds M i
  | x :: r, n, ds, M, h, i, q => by
    refine h 0 x rfl ds M i _ fun ds2 M2 i2 => ?_
    refine forL_inv Inv r (n + 1) ds2 M2 (fun j y hy ds M i' Nx hN => ?_) i2 fun ds M i' => q ds M ?_
    · have e : n + 1 + j = n + (j + 1) := by omega
      rw [e] at i'
      refine h (j + 1) y hy ds M i' Nx fun ds M i3 => hN ds M ?_
      rw [e]
      exact i3
    · rw [List.length_cons, show n + (r.length + 1) = n + 1 + r.length by omega]
      exact i'
abbrev sN (l : List Nat) : Str := ⟨l.toArray⟩
abbrev sD (l : List Nat) : D := .str (sN l)
theorem sN_tl (z : Str) : sN z.cps.toList = z := by obtain ⟨⟨l⟩⟩ := z; rfl
theorem strIn_one (c : Nat) (l : List Nat) : strIn (sN [c]) (sN l) = decide (c ∈ l) := StrLaws.found_one (sN l) c
theorem strsOf_sD : ∀ l : List (List Nat), strsOf (l.map sD) = some (l.map sN)
  | [] => rfl
  | x :: l => by rw [List.map_cons, strsOf, strsOf_sD l]; rfl
theorem joinL_nil : ∀ l : List (List Nat), TL.joinL [] l = l.flatten
  | [] => rfl
  | [p] => by simp [TL.joinL]
  | p :: q :: r => by rw [TL.joinL, joinL_nil (q :: r)]; simp
theorem join_nil (l : List (List Nat)) : Txt.join (sN []) (l.map sN) = sN l.flatten := by
  rw [← joinL_nil]
  exact _root_.SX.join_S [] l
end DL

set_option Elab.async false
set_option linter.all false
set_option maxRecDepth 100000
set_option maxHeartbeats 4000000
namespace DL
open PySem PySem.Spec PyProof.Rows L2
/-! ### contracts of the program's defs -/
def isW (v : D) (lo hi : Int) : Bool := match v with | .int i => decide (lo ≤ i) && decide (i ≤ hi) | _ => false
def hasI (v : D) (lo hi : Int) : Bool := match v with | .tup xs => decide (lo ≤ xs.length) && decide ((xs.length : Int) ≤ hi) | _ => false
def top (v : D) : Bool := match v with | .ref _ => false | .ty _ => false | _ => true
def sp_is_within : DSp := fun ds M P _ => match ds with | [v, .int lo, .int hi] => top v = true ∧ P (.bl (isW v lo hi)) M | _ => False
def sp_has_items : DSp := fun ds M P _ => match ds with | [v, .int lo, .int hi] => top v = true ∧ P (.bl (hasI v lo hi)) M | _ => False
theorem l_is_within (ds : List D) (M : Mem) (P : D → Mem → Prop) (PX : DX) (h : sp_is_within ds M P PX) : t_is_within PX (dEnds P) (dstart ["value", "low", "high"] ds) M := by
  unfold sp_is_within at h
  split at h <;> try exact h.elim
  rename_i v lo hi
  obtain ⟨ht, h⟩ := h
  have h' := Fz.here h
  cases v <;> simp [t_is_within, dRet, dRetN, dSkip, dSeq, dExpr, dSet, dIf, dAsg, dPar, dgT, dgN, dgCons, dgNil, dgSub, dVar, dC, dUn, dBin, dNil, dCons, dApp, dB, dAnd, dOr, dNot, dAndV, dOrV, dNotV, dIfE, dChain, dTup, dLst, dLstH, dCall, dRaise, dFor, dIter, dRng1, dRng2, dZip, dEnum, dComp, dYes, dJoin, dSlice, dPart, dNoPart, dAppend, dSrtSet, dLenSet, dSplit, dZipE, dEnds, dstart, dst, dwipe, gI, gIC, gMod, gDiv, gSub, gPow, gNeg, gLt, gLe, gGt, gGe, gEq, gNe, gIsN, gNotN, gAdd, gMul, gIx, gLen, gIsi, gInt1, gTuple, gList, gSorted, gIn, gAll, gAny, dFrz, gMax2, gMin2, dComp2, isiN, isiB, isW, top] at ht h' ⊢ <;> try exact h'
  rename_i i
  by_cases h1 : lo ≤ i
  · simp [h1] at h' ⊢
    exact ⟨h', fun z => absurd h1 (by omega)⟩
  · simp [h1] at h' ⊢
    exact fun _ => h'
theorem l_has_items (ds : List D) (M : Mem) (P : D → Mem → Prop) (PX : DX) (h : sp_has_items ds M P PX) : t_has_items PX (dEnds P) (dstart ["value", "low", "high"] ds) M := by
  unfold sp_has_items at h
  split at h <;> try exact h.elim
  rename_i v lo hi
  obtain ⟨ht, h⟩ := h
  have h' := Fz.here h
  cases v <;> simp [t_has_items, dRet, dRetN, dSkip, dSeq, dExpr, dSet, dIf, dAsg, dPar, dgT, dgN, dgCons, dgNil, dgSub, dVar, dC, dUn, dBin, dNil, dCons, dApp, dB, dAnd, dOr, dNot, dAndV, dOrV, dNotV, dIfE, dChain, dTup, dLst, dLstH, dCall, dRaise, dFor, dIter, dRng1, dRng2, dZip, dEnum, dComp, dYes, dJoin, dSlice, dPart, dNoPart, dAppend, dSrtSet, dLenSet, dSplit, dZipE, dEnds, dstart, dst, dwipe, gI, gIC, gMod, gDiv, gSub, gPow, gNeg, gLt, gLe, gGt, gGe, gEq, gNe, gIsN, gNotN, gAdd, gMul, gIx, gLen, gIsi, gInt1, gTuple, gList, gSorted, gIn, gAll, gAny, dFrz, gMax2, gMin2, dComp2, isiN, isiB, hasI, top] at ht h' ⊢ <;> try exact h'
  rename_i xs
  by_cases h1 : lo ≤ (xs.length : Int)
  · simp [h1] at h' ⊢
    exact ⟨h', fun z => absurd h1 (by omega)⟩
  · simp [h1] at h' ⊢
    exact fun _ => h'
/-! teeth -/
def teeth : List Nat := [97, 98, 99, 100]
def canon (l : List Nat) : List Nat := teeth.filter fun c => decide (c ∈ l)
def cTEETH : D := .tup [sD [97], sD [98], sD [99], sD [100]]
def isT (v : D) : Bool := match v with | .str z => decide (canon z.cps.toList = z.cps.toList) | _ => false
def sp_are_teeth : DSp := fun ds M P _ => match ds with | [v] => dkn 60 v = true ∧ P (.bl (isT v)) M | _ => False
theorem dkn_top {n : Nat} {v : D} (h : dkn n v = true) : top v = true := by cases v <;> simp [dkn, top] at h ⊢
theorem dkn_mono : ∀ (n m : Nat) (v : D), n ≤ m → dkn n v = true → dkn m v = true := by
  intro n
  induction n with
  | zero => intro m v _ h; cases v <;> simp [dkn] at h ⊢; exact h
  | succ n ih =>
    intro m v hm h
    cases m with
    | zero => omega
    | succ m =>
      cases v <;> simp [dkn] at h ⊢
      · exact h
      · exact fun x hx => ih m x (by omega) (h x hx)
      · exact fun x hx => ih m x (by omega) (h x hx)
def keepF (l : List Nat) : D → Option D := fun x => match x with | .str z => if strIn z (sN l) = true then some x else none | _ => none
theorem keepF_sD (l : List Nat) (c : Nat) : keepF l (sD [c]) = if c ∈ l then some (sD [c]) else none := by
  show (if strIn (sN [c]) (sN l) = true then some (sD [c]) else none) = _
  rw [strIn_one]
  by_cases h : c ∈ l <;> simp [h]
theorem keepF_map (l : List Nat) : ∀ t : List Nat, List.filterMap (keepF l) (t.map fun c => sD [c]) = (t.filter fun c => decide (c ∈ l)).map fun c => sD [c]
  | [] => rfl
  | c :: r => by
    rw [List.map_cons, List.filterMap_cons, keepF_sD, List.filter_cons, keepF_map l r]
    by_cases h : c ∈ l <;> simp [h]
theorem canon_comp {Q : List D → Mem → Prop} {ds : DSt} {M : Mem} {i j : Nat} {l : List Nat} (hj : i ≠ j) (hd : ds[j]? = some (some (sD l))) (hi : i < ds.length) (q : Q ((canon l).map fun c => sD [c]) M) :
    compL [i] (dgN i) (dB (dBin (gIn false) (dVar i) (dVar j))) (dVar i) ds Q [sD [97], sD [98], sD [99], sD [100]] [] M := by
  refine compL_by (keepF l) _ [] (fun x hx R h => ?_) (by
    show Q ([] ++ List.filterMap (keepF l) (teeth.map fun c => sD [c])) M
    rw [keepF_map]
    exact q)
  have hx' : ∃ c, x = sD [c] := by
    simp only [List.mem_cons, List.not_mem_nil, or_false] at hx
    rcases hx with rfl | rfl | rfl | rfl <;> exact ⟨_, rfl⟩
  obtain ⟨c, rfl⟩ := hx'
  have g1 : ((dwipe ds [i]).set i (some (sD [c])))[i]? = some (some (sD [c])) := List.getElem?_set_self (by rw [dwipe_length]; exact hi)
  have g2 : ((dwipe ds [i]).set i (some (sD [c])))[j]? = some (some (sD l)) := by
    rw [List.getElem?_set_ne hj]
    show (ds.set i none)[j]? = _
    rw [List.getElem?_set_ne hj]
    exact hd
  show dB (dBin (gIn false) (dVar i) (dVar j)) ((dwipe ds [i]).set i (some (sD [c]))) M _
  simp only [dB, dBin, dVar, g1, g2, gIn, Bool.false_eq_true, if_false]
  rw [strIn_one]
  rw [keepF_sD] at h
  by_cases hc : c ∈ l
  · rw [if_pos hc] at h
    simp only [hc, decide_true, true_implies, Bool.true_eq_false, false_implies, and_true]
    exact h
  · rw [if_neg hc] at h
    simp only [hc, decide_false, true_implies, Bool.false_eq_true, false_implies, true_and]
    exact h
theorem flat_one (l : List Nat) : (l.map fun c => [c]).flatten = l := by
  induction l with
  | nil => rfl
  | cons c r ih => rw [List.map_cons, List.flatten_cons, ih]; rfl
theorem join_chars {l : List Nat} {P : Str → Prop} (hl : l.length ≤ 100000) (h : P (sN l)) : joinD (sN []) (l.map fun c => sD [c]) P := by
  have e : (l.map fun c => sD [c]) = (l.map fun c => [c]).map sD := by rw [List.map_map]; rfl
  unfold joinD
  rw [e, strsOf_sD]
  refine ⟨?_, ?_⟩
  · rw [List.map_map, List.map_map]
    have z : (List.map (((fun x => x.length) ∘ sN) ∘ fun c => [c]) l).sum = l.length := by
      clear hl h e
      induction l with
      | nil => rfl
      | cons c r ih => rw [List.map_cons, List.sum_cons, ih, List.length_cons]; show 1 + _ = _; omega
    rw [z]
    show l.length + (List.map sN (l.map fun c => [c])).length * 0 ≤ _
    omega
  · rw [join_nil, flat_one]
    exact h
theorem canon_len (l : List Nat) : (canon l).length ≤ 4 := by
  unfold canon
  exact Nat.le_trans (List.length_filter_le _ _) (by decide)
theorem okS {l : List Nat} (h : ∀ c ∈ l, c < 1114112) : PyData.strOk (sN l) = true := by
  unfold PyData.strOk
  simp only [Array.all_eq_true_iff_forall_mem, decide_eq_true_eq, List.mem_toArray]
  exact h
theorem canon_ok (l : List Nat) : PyData.strOk (sN (canon l)) = true := okS fun c hc => by
  have z := (List.mem_filter.mp hc).1
  simp [teeth] at z
  omega
theorem sN_inj {a b : List Nat} : sN a = sN b ↔ a = b := ⟨fun h => by
    have := congrArg (fun z : Str => z.cps.toList) h
    exact this, fun h => by rw [h]⟩
theorem dq_s (a b : List Nat) : dq (sD a) (sD b) = decide (a = b) := by
  show (sN a == sN b) = _
  rw [Bool.eq_iff_iff, beq_iff_eq, sN_inj, decide_eq_true_iff]
theorem dq_isT (l : List Nat) : dq (sD l) (sD (canon l)) = isT (sD l) := by
  rw [dq_s]
  show _ = decide (canon l = l)
  rw [Bool.eq_iff_iff, decide_eq_true_iff, decide_eq_true_iff]
  exact eq_comm
theorem l_are_teeth (ds : List D) (M : Mem) (P : D → Mem → Prop) (PX : DX) (h : sp_are_teeth ds M P PX) : t_are_teeth cTEETH PX (dEnds P) (dstart ["value", "tooth"] ds) M := by
  unfold sp_are_teeth at h
  split at h <;> try exact h.elim
  rename_i v
  obtain ⟨hk, h⟩ := h
  have h' := Fz.here h
  have ht := dkn_top hk
  cases v with
  | str z =>
    obtain ⟨l, rfl⟩ : ∃ l, z = sN l := ⟨z.cps.toList, (sN_tl z).symm⟩
    simp [t_are_teeth, dRet, dAndV, dApp, dCons, dNil, dVar, dC, dEnds, dstart, gIsi, isiN, isiB]
    simp [dBin, dVar, dJoin, dC, dComp, dIter, cTEETH, seqD]
    refine ⟨by rw [sizeLine_eq]; omega, ?_⟩
    refine canon_comp (by decide) rfl (by simp) ?_
    refine join_chars (Nat.le_trans (canon_len l) (by decide)) ?_
    refine ⟨⟨dkn_mono 60 64 _ (by omega) hk, canon_ok l⟩, ?_⟩
    have e : dq (sD l) (sD (canon l)) = isT (sD l) := dq_isT l
    rw [← e] at h'
    exact h'
  | _ =>
    simp [t_are_teeth, dRet, dRetN, dSkip, dSeq, dExpr, dSet, dIf, dAsg, dPar, dgT, dgN, dgCons, dgNil, dgSub, dVar, dC, dUn, dBin, dNil, dCons, dApp, dB, dAnd, dOr, dNot, dAndV, dOrV, dNotV, dIfE, dChain, dTup, dLst, dLstH, dCall, dRaise, dFor, dIter, dRng1, dRng2, dZip, dEnum, dComp, dYes, dJoin, dSlice, dPart, dNoPart, dAppend, dSrtSet, dLenSet, dSplit, dZipE, dEnds, dstart, dst, dwipe, gI, gIC, gMod, gDiv, gSub, gPow, gNeg, gLt, gLe, gGt, gGe, gEq, gNe, gIsN, gNotN, gAdd, gMul, gIx, gLen, gIsi, gInt1, gTuple, gList, gSorted, gIn, gAll, gAny, dFrz, gMax2, gMin2, dComp2, isiN, isiB, isT, top] at ht h' ⊢
    try exact h'
end DL

set_option Elab.async false
set_option linter.all false
set_option maxRecDepth 100000
set_option maxHeartbeats 4000000
namespace DL
open PySem PySem.Spec PyProof.Rows L2
theorem top_tup {xs : List D} : top (.tup xs) = true := rfl
theorem comp_map {i : Nat} {te : DTE} {ds : DSt} {M : Mem} {Q : List D → Mem → Prop} (f : D → D) (xs : List D) (h : ∀ x ∈ xs, ∀ R : D → Mem → Prop, R (f x) M → te ((dwipe ds [i]).set i (some x)) M R) (q : Q (xs.map f) M) : compL [i] (dgN i) dYes te ds Q xs [] M := by
  refine compL_by (fun x => some (f x)) xs [] (fun x hx R hR => ?_) ?_
  · show (true = true → te _ _ _) ∧ (true = false → _)
    exact ⟨fun _ => h x hx _ hR, fun z => by cases z⟩
  · rw [List.nil_append, List.filterMap_eq_map']
    exact q
theorem comp_mapG {vs : List Nat} {g : DTG} {te : DTE} {ds : DSt} {M : Mem} {Q : List D → Mem → Prop} (f : D → D) (xs : List D) (h : ∀ x ∈ xs, ∀ R : D → Mem → Prop, R (f x) M → g x (dwipe ds vs) M fun ds2 M2 => te ds2 M2 R) (hg : ∀ x ∈ xs, ∀ R S : DSt → Mem → Prop, (∀ a b, R a b → S a b) → g x (dwipe ds vs) M R → g x (dwipe ds vs) M S) (q : Q (xs.map f) M) : compL vs g dYes te ds Q xs [] M := by
  refine compL_by (fun x => some (f x)) xs [] (fun x hx R hR => ?_) ?_
  · exact hg x hx _ _ (fun a b hab => ⟨fun _ => hab, fun z => by cases z⟩) (h x hx _ hR)
  · rw [List.nil_append, List.filterMap_eq_map']
    exact q
theorem bls_all (f : D → Bool) (xs : List D) : blsOf (xs.map fun x => .bl (f x)) = some (xs.map f) := by
  rw [← blsOf_map, List.map_map]; rfl
theorem all_id {f : D → Bool} {xs : List D} : (xs.map f).all id = xs.all f := by rw [List.all_map]; rfl
def isBar (v : D) : Bool := match v with | .tup xs => hasI v 1 7 && xs.all isT | _ => false
def sp_is_barrel : DSp := fun ds M P _ => match ds with | [v] => dkn 58 v = true ∧ P (.bl (isBar v)) M | _ => False
theorem dkn_tup {n : Nat} {xs : List D} (h : dkn (n + 1) (.tup xs) = true) : ∀ x ∈ xs, dkn n x = true := by simpa [dkn] using h
theorem l_is_barrel (ds : List D) (M : Mem) (P : D → Mem → Prop) (PX : DX) (h : sp_is_barrel ds M P PX) : t_is_barrel sp_has_items sp_are_teeth PX (dEnds P) (dstart ["value", "item"] ds) M := by
  unfold sp_is_barrel at h
  split at h <;> try exact h.elim
  rename_i v
  obtain ⟨hk, h⟩ := h
  have ht := dkn_top hk
  have h' := Fz.here h
  cases v with
  | tup xs =>
    simp [t_is_barrel, dRet, dAndV, dCall, dCons, dNil, dVar, dC, dEnds, dstart, sp_has_items, top]
    by_cases hh : hasI (.tup xs) 1 7 = true
    · simp [hh, dApp, dCons, dNil, dComp, dIter, seqD, dVar] at h' ⊢
      refine ⟨by simp [hasI] at hh; rw [sizeLine_eq]; omega, ?_⟩
      refine comp_map (fun x => .bl (isT x)) xs (fun x hx R hR => ?_) ?_
      · simp [dCall, dCons, dNil, dVar, sp_are_teeth]
        exact ⟨dkn_mono 57 60 x (by omega) (dkn_tup hk x hx), hR⟩
      · simp [gAll, bls_all, all_id]
        simpa [isBar, hh] using h'
    · simp [hh] at h' ⊢
      simpa [isBar, hh] using h'
  | _ =>
    simp [t_is_barrel, dRet, dRetN, dSkip, dSeq, dExpr, dSet, dIf, dAsg, dPar, dgT, dgN, dgCons, dgNil, dgSub, dVar, dC, dUn, dBin, dNil, dCons, dApp, dB, dAnd, dOr, dNot, dAndV, dOrV, dNotV, dIfE, dChain, dTup, dLst, dLstH, dCall, dRaise, dFor, dIter, dRng1, dRng2, dZip, dEnum, dComp, dYes, dJoin, dSlice, dPart, dNoPart, dAppend, dSrtSet, dLenSet, dSplit, dZipE, dEnds, dstart, dst, dwipe, gI, gIC, gMod, gDiv, gSub, gPow, gNeg, gLt, gLe, gGt, gGe, gEq, gNe, gIsN, gNotN, gAdd, gMul, gIx, gLen, gIsi, gInt1, gTuple, gList, gSorted, gIn, gAll, gAny, dFrz, gMax2, gMin2, dComp2, sp_has_items, hasI, isBar, top] at ht h' ⊢
    try exact h'
/-! boxes -/
def isBox (v : D) : Bool := match v with | .tup [a, .tup bs] => isW a 0 3 && hasI (.tup bs) 1 3 && bs.all isBar | _ => false
def sp_is_box_value : DSp := fun ds M P _ => match ds with | [v] => dkn 55 v = true ∧ P (.bl (isBox v)) M | _ => False
theorem l_is_box_value (ds : List D) (M : Mem) (P : D → Mem → Prop) (PX : DX) (h : sp_is_box_value ds M P PX) : t_is_box_value sp_has_items sp_is_within sp_is_barrel PX (dEnds P) (dstart ["value", "barrel"] ds) M := by
  unfold sp_is_box_value at h
  split at h <;> try exact h.elim
  rename_i v
  obtain ⟨hk, h⟩ := h
  have ht := dkn_top hk
  have h' := Fz.here h
  have no : hasI v 2 2 = false → t_is_box_value sp_has_items sp_is_within sp_is_barrel PX (dEnds P) (dstart ["value", "barrel"] [v]) M := by
    intro hh
    have e : isBox v = false := by
      cases v <;> try rfl
      rename_i xs
      unfold isBox
      split
      · rename_i hv
        cases hv
        simp [hasI] at hh
      · rfl
    rw [e] at h'
    simp [t_is_box_value, dRet, dRetN, dSkip, dSeq, dExpr, dSet, dIf, dAsg, dPar, dgT, dgN, dgCons, dgNil, dgSub, dVar, dC, dUn, dBin, dNil, dCons, dApp, dB, dAnd, dOr, dNot, dAndV, dOrV, dNotV, dIfE, dChain, dTup, dLst, dLstH, dCall, dRaise, dFor, dIter, dRng1, dRng2, dZip, dEnum, dComp, dYes, dJoin, dSlice, dPart, dNoPart, dAppend, dSrtSet, dLenSet, dSplit, dZipE, dEnds, dstart, dst, dwipe, gI, gIC, gMod, gDiv, gSub, gPow, gNeg, gLt, gLe, gGt, gGe, gEq, gNe, gIsN, gNotN, gAdd, gMul, gIx, gLen, gIsi, gInt1, gTuple, gList, gSorted, gIn, gAll, gAny, dFrz, gMax2, gMin2, dComp2, sp_has_items, ht, hh]
    exact h'
  cases v with
  | tup xs =>
    match xs, hk, h', no with
    | [a, b], hk, h', _ =>
      have ka := dkn_tup hk a (by simp)
      have kb := dkn_tup hk b (by simp)
      have ta := dkn_top ka
      have tb := dkn_top kb
      have hh : hasI (.tup [a, b]) 2 2 = true := by simp [hasI]
      simp [t_is_box_value, dSeq, dIf, dOr, dNot, dB, dCall, dCons, dNil, dVar, dC, dEnds, dstart, sp_has_items, sp_is_within, hh, top_tup, dBin, gIx, atI, ixN, ta, tb, dRet, dSkip, dAndV]
      by_cases hw : isW a 0 3 = true
      · simp [hw]
        by_cases hi : hasI b 1 3 = true
        · simp [hi]
          cases b with
          | tup bs =>
            simp [dApp, dCons, dNil, dComp, dIter, seqD, dBin, dVar, dC, gIx, atI, ixN]
            refine ⟨by simp [hasI] at hi; rw [sizeLine_eq]; omega, ?_⟩
            refine comp_map (fun x => .bl (isBar x)) bs (fun x hx R hR => ?_) ?_
            · simp [dCall, dCons, dNil, dVar, sp_is_barrel]
              exact ⟨dkn_mono 53 58 x (by omega) (dkn_tup kb x hx), hR⟩
            · simp [gAll, bls_all, all_id]
              simpa [isBox, hi, hw] using h'
          | _ => simp [hasI] at hi
        · have e : isBox (.tup [a, b]) = false := by
            cases b <;> simp [isBox]
            intro _ z
            exact absurd z hi
          rw [e] at h'
          simp [hi]
          exact h'
      · have e : isBox (.tup [a, b]) = false := by
          cases b <;> simp [isBox, hw]
        rw [e] at h'
        simp [hw]
        exact h'
    | [], _, _, no => exact no rfl
    | [_], _, _, no => exact no rfl
    | a :: b :: c :: r, _, _, no => exact no (by simp [hasI]; omega)
  | _ => exact no rfl
end DL

set_option Elab.async false
set_option linter.all false
set_option maxRecDepth 100000
set_option maxHeartbeats 4000000
namespace DL
open PySem PySem.Spec PyProof.Rows L2
def tupL (v : D) : Nat := match v with | .tup xs => xs.length | _ => 0
def beg1 (p : D) : Bool := match p with | .tup [x, b] => isW x 0 ((tupL b : Int) - 1) | _ => false
def beg (bs : List D) (s : D) : Bool := match s with | .tup ss => decide (ss.length = bs.length) && (zipD ss bs).all beg1 | _ => false
def sp_begins : DSp := fun ds M P _ => match ds with | [.tup [_, .tup bs], s] => (∀ b ∈ bs, ∃ xs, b = .tup xs) ∧ bs.length ≤ 1000 ∧ dkn 50 s = true ∧ P (.bl (beg bs s)) M | _ => False
theorem zipD_mem {xs ys : List D} {x : D} (h : x ∈ zipD xs ys) : ∃ a b, x = .tup [a, b] ∧ a ∈ xs ∧ b ∈ ys := by
  unfold zipD at h
  obtain ⟨i, hi, e⟩ := List.getElem_of_mem h
  rw [List.getElem_zipWith] at e
  exact ⟨_, _, e.symm, List.getElem_mem _, List.getElem_mem _⟩
theorem l_begins (ds : List D) (M : Mem) (P : D → Mem → Prop) (PX : DX) (h : sp_begins ds M P PX) : t_begins sp_has_items sp_is_within PX (dEnds P) (dstart ["box", "value", "number", "barrel"] ds) M := by
  unfold sp_begins at h
  split at h <;> try exact h.elim
  rename_i k bs s
  obtain ⟨hb, hz, hk, h⟩ := h
  have ht := dkn_top hk
  have h' := Fz.here h
  simp [t_begins, dSeq, dIf, dNot, dB, dCall, dCons, dNil, dVar, dC, dEnds, dstart, sp_has_items, ht, dBin, gIx, atI, ixN, dRet, dSkip, dApp, gLen]
  by_cases hh : hasI s bs.length bs.length = true
  · simp [hh]
    cases s with
    | tup ss =>
      have hl : ss.length = bs.length := by simp [hasI] at hh; omega
      simp [dComp, dZip, dCons, dNil, dBin, dVar, dC, gIx, atI, ixN, dApp]
      refine ⟨by rw [sizeLine_eq]; simp [zipD]; omega, ?_⟩
      refine compL_by (fun x => some (.bl (beg1 x))) _ [] (fun x hx R hR => ?_) ?_
      · obtain ⟨a, b, rfl, ha, hb2⟩ : ∃ a b, x = .tup [a, b] ∧ a ∈ ss ∧ b ∈ bs := zipD_mem hx
        obtain ⟨xs, rfl⟩ := hb b hb2
        have ta := dkn_top (dkn_tup hk a ha)
        simp [dgT, dgCons, dgNil, dgN, dYes, dCall, dCons, dNil, dVar, dC, dwipe, sp_is_within, dBin, dApp, gLen, gSub, gI, ta]
        simpa [beg1, tupL] using hR
      · simp [List.filterMap_eq_map', gAll, bls_all, all_id]
        simpa [beg, hl] using h'
    | _ => simp [hasI] at hh
  · have e : beg bs s = false := by
      cases s <;> simp [beg]
      intro z
      simp [hasI, z] at hh
    rw [e] at h'
    simp [hh]
    exact h'
/-! good boxes and starts as plain data -/
abbrev Bar := List (List Nat)
def barD (b : Bar) : D := .tup (b.map sD)
def bxD (k : Int) (bs : List Bar) : D := .tup [.int k, .tup (bs.map barD)]
def stD (ss : List Int) : D := .tup (ss.map D.int)
def GBar (b : Bar) : Prop := 1 ≤ b.length ∧ b.length ≤ 7 ∧ ∀ i ∈ b, canon i = i
def GBox (k : Int) (bs : List Bar) : Prop := 0 ≤ k ∧ k ≤ 3 ∧ 1 ≤ bs.length ∧ bs.length ≤ 3 ∧ ∀ b ∈ bs, GBar b
def GSt : List Bar → List Int → Prop
  | [], [] => True
  | b :: bs, s :: ss => (0 ≤ s ∧ s ≤ (b.length : Int) - 1) ∧ GSt bs ss
  | _, _ => False
theorem isT_iff {v : D} : isT v = true ↔ ∃ l, v = sD l ∧ canon l = l := by
  constructor
  · intro h
    cases v <;> simp [isT] at h
    rename_i z
    exact ⟨_, congrArg D.str (sN_tl z).symm, h⟩
  · rintro ⟨l, rfl, h⟩
    simpa [isT] using h
theorem mapAll {α : Type} {f : α → D} {p : D → Prop} {q : α → Prop} (hp : ∀ v, p v → ∃ a, v = f a ∧ q a) : ∀ {xs : List D}, (∀ x ∈ xs, p x) → ∃ l : List α, xs = l.map f ∧ ∀ a ∈ l, q a
  | [], _ => ⟨[], rfl, fun _ h => by cases h⟩
  | x :: r, h => by
    obtain ⟨l, e, hl⟩ := mapAll hp (xs := r) fun y hy => h y (List.mem_cons_of_mem _ hy)
    obtain ⟨a, ea, ha⟩ := hp x (h x List.mem_cons_self)
    refine ⟨a :: l, by rw [ea, e]; rfl, fun b hb => ?_⟩
    rcases List.mem_cons.mp hb with rfl | hb
    · exact ha
    · exact hl b hb
theorem isBar_inv {v : D} (h : isBar v = true) : ∃ b, v = barD b ∧ GBar b := by
  cases v <;> simp [isBar] at h
  rename_i xs
  obtain ⟨l, rfl, hl⟩ := mapAll (p := fun v => isT v = true) (fun v hv => isT_iff.mp hv) h.2
  have hh := h.1
  simp [hasI] at hh
  exact ⟨l, rfl, by omega, by omega, hl⟩
theorem isBar_of {b : Bar} (h : GBar b) : isBar (barD b) = true := by
  obtain ⟨h1, h2, h3⟩ := h
  simp only [isBar, barD, Bool.and_eq_true, List.all_eq_true, hasI, List.length_map, decide_eq_true_eq]
  refine ⟨⟨by omega, by omega⟩, fun x hx => ?_⟩
  obtain ⟨l, hl, rfl⟩ := List.mem_map.mp hx
  exact isT_iff.mpr ⟨l, rfl, h3 l hl⟩
theorem isW_inv {v : D} {lo hi : Int} (h : isW v lo hi = true) : ∃ i, v = .int i ∧ lo ≤ i ∧ i ≤ hi := by
  cases v <;> simp [isW] at h
  exact ⟨_, rfl, h.1, h.2⟩
theorem isBox_inv {v : D} (h : isBox v = true) : ∃ k bs, v = bxD k bs ∧ GBox k bs := by
  unfold isBox at h
  split at h
  · rename_i a bs
    simp only [Bool.and_eq_true, List.all_eq_true] at h
    obtain ⟨⟨h1, h2⟩, h3⟩ := h
    obtain ⟨k, rfl, hk⟩ := isW_inv h1
    obtain ⟨l, rfl, hl⟩ := mapAll (p := fun v => isBar v = true) (fun v hv => isBar_inv hv) h3
    simp [hasI] at h2
    exact ⟨k, l, rfl, by omega, by omega, by omega, by omega, hl⟩
  · cases h
theorem isBox_of {k : Int} {bs : List Bar} (h : GBox k bs) : isBox (bxD k bs) = true := by
  obtain ⟨h0, h1, h2, h3, h4⟩ := h
  simp only [isBox, bxD, Bool.and_eq_true, List.all_eq_true, hasI, List.length_map, decide_eq_true_eq, isW]
  refine ⟨⟨⟨by omega, by omega⟩, by omega, by omega⟩, fun x hx => ?_⟩
  obtain ⟨l, hl, rfl⟩ := List.mem_map.mp hx
  exact isBar_of (h4 l hl)
theorem beg_inv : ∀ {bs : List Bar} {xs : List D}, xs.length = bs.length → (∀ x ∈ zipD xs (bs.map barD), beg1 x = true) → ∃ ss, xs = ss.map D.int ∧ GSt bs ss
  | [], [], _, _ => ⟨[], rfl, trivial⟩
  | b :: bs, x :: xs, hl, h => by
    obtain ⟨ss, e, hs⟩ := beg_inv (bs := bs) (xs := xs) (by simpa using hl) fun y hy => h y (List.mem_cons_of_mem _ hy)
    have h1 := h (.tup [x, barD b]) List.mem_cons_self
    obtain ⟨i, rfl, h2⟩ := isW_inv h1
    refine ⟨i :: ss, by rw [e]; rfl, ⟨h2.1, ?_⟩, hs⟩
    have := h2.2
    simpa [tupL, barD] using this
theorem beg_of {bs : List Bar} {ss : List Int} (h : GSt bs ss) : beg (bs.map barD) (stD ss) = true := by
  have hl : ∀ {bs : List Bar} {ss : List Int}, GSt bs ss → ss.length = bs.length := by
    intro bs
    induction bs with
    | nil => intro ss h; cases ss with
      | nil => rfl
      | cons => exact h.elim
    | cons b bs ih => intro ss h; cases ss with
      | nil => exact h.elim
      | cons s ss => simp [ih h.2]
  have ha : ∀ {bs : List Bar} {ss : List Int}, GSt bs ss → (zipD (ss.map D.int) (bs.map barD)).all beg1 = true := by
    intro bs
    induction bs with
    | nil => intro ss h; cases ss with
      | nil => rfl
      | cons => exact h.elim
    | cons b bs ih => intro ss h; cases ss with
      | nil => exact h.elim
      | cons s ss =>
        simp only [List.map_cons]
        show (beg1 _ && (zipD (ss.map D.int) (bs.map barD)).all beg1) = true
        rw [ih h.2]
        simp [beg1, isW, tupL, barD, h.1.1, h.1.2]
  simp only [beg, stD, List.length_map, hl h, decide_true, Bool.true_and]
  exact ha h
theorem GSt.len : ∀ {bs : List Bar} {ss : List Int}, GSt bs ss → ss.length = bs.length
  | [], [], _ => rfl
  | b :: bs, s :: ss, h => by simp [GSt.len h.2]
/-! raises -/
def sp_need_box (e : Addr) : DSp := fun ds M P PX => match ds with | [v] => dkn 55 v = true ∧ ((isBox v = false ∧ PX (.ref e) none M) ∨ (isBox v = true ∧ P .non M)) | _ => False
theorem l_need_box (e : Addr) (ds : List D) (M : Mem) (P : D → Mem → Prop) (PX : DX) (h : sp_need_box e ds M P PX) : t_need_box sp_is_box_value e PX (dEnds P) (dstart ["value"] ds) M := by
  unfold sp_need_box at h
  split at h <;> try exact h.elim
  rename_i v
  obtain ⟨hk, h⟩ := h
  rcases h with ⟨e, h⟩ | ⟨e, h⟩
  · simp [t_need_box, dRet, dRetN, dSkip, dSeq, dExpr, dSet, dIf, dAsg, dPar, dgT, dgN, dgCons, dgNil, dgSub, dVar, dC, dUn, dBin, dNil, dCons, dApp, dB, dAnd, dOr, dNot, dAndV, dOrV, dNotV, dIfE, dChain, dTup, dLst, dLstH, dCall, dRaise, dFor, dIter, dRng1, dRng2, dZip, dEnum, dComp, dYes, dJoin, dSlice, dPart, dNoPart, dAppend, dSrtSet, dLenSet, dSplit, dZipE, dEnds, dstart, dst, dwipe, gI, gIC, gMod, gDiv, gSub, gPow, gNeg, gLt, gLe, gGt, gGe, gEq, gNe, gIsN, gNotN, gAdd, gMul, gIx, gLen, gIsi, gInt1, gTuple, gList, gSorted, gIn, gAll, gAny, dFrz, gMax2, gMin2, dComp2, sp_is_box_value, hk, e]; exact h
  · have h' := Fz.here h
    simp [t_need_box, dRet, dRetN, dSkip, dSeq, dExpr, dSet, dIf, dAsg, dPar, dgT, dgN, dgCons, dgNil, dgSub, dVar, dC, dUn, dBin, dNil, dCons, dApp, dB, dAnd, dOr, dNot, dAndV, dOrV, dNotV, dIfE, dChain, dTup, dLst, dLstH, dCall, dRaise, dFor, dIter, dRng1, dRng2, dZip, dEnum, dComp, dYes, dJoin, dSlice, dPart, dNoPart, dAppend, dSrtSet, dLenSet, dSplit, dZipE, dEnds, dstart, dst, dwipe, gI, gIC, gMod, gDiv, gSub, gPow, gNeg, gLt, gLe, gGt, gGe, gEq, gNe, gIsN, gNotN, gAdd, gMul, gIx, gLen, gIsi, gInt1, gTuple, gList, gSorted, gIn, gAll, gAny, dFrz, gMax2, gMin2, dComp2, sp_is_box_value, hk, e]; exact h'
def sp_need_beginning (e : Addr) : DSp := fun ds M P PX => match ds with | [.tup [k, .tup bs], s] => (∀ b ∈ bs, ∃ xs, b = .tup xs) ∧ bs.length ≤ 1000 ∧ dkn 50 s = true ∧ ((beg bs s = false ∧ PX (.ref e) none M) ∨ (beg bs s = true ∧ P .non M)) | _ => False
theorem l_need_beginning (e : Addr) (ds : List D) (M : Mem) (P : D → Mem → Prop) (PX : DX) (h : sp_need_beginning e ds M P PX) : t_need_beginning sp_begins e PX (dEnds P) (dstart ["box", "value"] ds) M := by
  unfold sp_need_beginning at h
  split at h <;> try exact h.elim
  obtain ⟨hb, hz, hk, h⟩ := h
  rcases h with ⟨e, h⟩ | ⟨e, h⟩
  · simp [t_need_beginning, dRet, dRetN, dSkip, dSeq, dExpr, dSet, dIf, dAsg, dPar, dgT, dgN, dgCons, dgNil, dgSub, dVar, dC, dUn, dBin, dNil, dCons, dApp, dB, dAnd, dOr, dNot, dAndV, dOrV, dNotV, dIfE, dChain, dTup, dLst, dLstH, dCall, dRaise, dFor, dIter, dRng1, dRng2, dZip, dEnum, dComp, dYes, dJoin, dSlice, dPart, dNoPart, dAppend, dSrtSet, dLenSet, dSplit, dZipE, dEnds, dstart, dst, dwipe, gI, gIC, gMod, gDiv, gSub, gPow, gNeg, gLt, gLe, gGt, gGe, gEq, gNe, gIsN, gNotN, gAdd, gMul, gIx, gLen, gIsi, gInt1, gTuple, gList, gSorted, gIn, gAll, gAny, dFrz, gMax2, gMin2, dComp2, sp_begins, hk, e, hz]; exact ⟨hb, h⟩
  · have h' := Fz.here h
    simp [t_need_beginning, dRet, dRetN, dSkip, dSeq, dExpr, dSet, dIf, dAsg, dPar, dgT, dgN, dgCons, dgNil, dgSub, dVar, dC, dUn, dBin, dNil, dCons, dApp, dB, dAnd, dOr, dNot, dAndV, dOrV, dNotV, dIfE, dChain, dTup, dLst, dLstH, dCall, dRaise, dFor, dIter, dRng1, dRng2, dZip, dEnum, dComp, dYes, dJoin, dSlice, dPart, dNoPart, dAppend, dSrtSet, dLenSet, dSplit, dZipE, dEnds, dstart, dst, dwipe, gI, gIC, gMod, gDiv, gSub, gPow, gNeg, gLt, gLe, gGt, gGe, gEq, gNe, gIsN, gNotN, gAdd, gMul, gIx, gLen, gIsi, gInt1, gTuple, gList, gSorted, gIn, gAll, gAny, dFrz, gMax2, gMin2, dComp2, sp_begins, hk, e, hz]; exact ⟨hb, h'⟩
def sp_need_tick (e : Addr) (G : Int) : DSp := fun ds M P PX => match ds with | [v] => top v = true ∧ ((isW v 0 G = false ∧ PX (.ref e) none M) ∨ (isW v 0 G = true ∧ P .non M)) | _ => False
theorem l_need_tick (e : Addr) (G : Int) (ds : List D) (M : Mem) (P : D → Mem → Prop) (PX : DX) (h : sp_need_tick e G ds M P PX) : t_need_tick sp_is_within (.int G) e PX (dEnds P) (dstart ["value"] ds) M := by
  unfold sp_need_tick at h
  split at h <;> try exact h.elim
  obtain ⟨hk, h⟩ := h
  rcases h with ⟨e, h⟩ | ⟨e, h⟩
  · simp [t_need_tick, dRet, dRetN, dSkip, dSeq, dExpr, dSet, dIf, dAsg, dPar, dgT, dgN, dgCons, dgNil, dgSub, dVar, dC, dUn, dBin, dNil, dCons, dApp, dB, dAnd, dOr, dNot, dAndV, dOrV, dNotV, dIfE, dChain, dTup, dLst, dLstH, dCall, dRaise, dFor, dIter, dRng1, dRng2, dZip, dEnum, dComp, dYes, dJoin, dSlice, dPart, dNoPart, dAppend, dSrtSet, dLenSet, dSplit, dZipE, dEnds, dstart, dst, dwipe, gI, gIC, gMod, gDiv, gSub, gPow, gNeg, gLt, gLe, gGt, gGe, gEq, gNe, gIsN, gNotN, gAdd, gMul, gIx, gLen, gIsi, gInt1, gTuple, gList, gSorted, gIn, gAll, gAny, dFrz, gMax2, gMin2, dComp2, sp_is_within, hk, e]; exact h
  · have h' := Fz.here h
    simp [t_need_tick, dRet, dRetN, dSkip, dSeq, dExpr, dSet, dIf, dAsg, dPar, dgT, dgN, dgCons, dgNil, dgSub, dVar, dC, dUn, dBin, dNil, dCons, dApp, dB, dAnd, dOr, dNot, dAndV, dOrV, dNotV, dIfE, dChain, dTup, dLst, dLstH, dCall, dRaise, dFor, dIter, dRng1, dRng2, dZip, dEnum, dComp, dYes, dJoin, dSlice, dPart, dNoPart, dAppend, dSrtSet, dLenSet, dSplit, dZipE, dEnds, dstart, dst, dwipe, gI, gIC, gMod, gDiv, gSub, gPow, gNeg, gLt, gLe, gGt, gGe, gEq, gNe, gIsN, gNotN, gAdd, gMul, gIx, gLen, gIsi, gInt1, gTuple, gList, gSorted, gIn, gAll, gAny, dFrz, gMax2, gMin2, dComp2, sp_is_within, hk, e]; exact h'
def sp_need_number (e : Addr) : DSp := fun ds M P PX => match ds with | [v, .int G] => top v = true ∧ ((isW v 0 G = false ∧ PX (.ref e) none M) ∨ (isW v 0 G = true ∧ P .non M)) | _ => False
theorem l_need_number (e : Addr) (ds : List D) (M : Mem) (P : D → Mem → Prop) (PX : DX) (h : sp_need_number e ds M P PX) : t_need_number sp_is_within e PX (dEnds P) (dstart ["value", "most"] ds) M := by
  unfold sp_need_number at h
  split at h <;> try exact h.elim
  obtain ⟨hk, h⟩ := h
  rcases h with ⟨e, h⟩ | ⟨e, h⟩
  · simp [t_need_number, dRet, dRetN, dSkip, dSeq, dExpr, dSet, dIf, dAsg, dPar, dgT, dgN, dgCons, dgNil, dgSub, dVar, dC, dUn, dBin, dNil, dCons, dApp, dB, dAnd, dOr, dNot, dAndV, dOrV, dNotV, dIfE, dChain, dTup, dLst, dLstH, dCall, dRaise, dFor, dIter, dRng1, dRng2, dZip, dEnum, dComp, dYes, dJoin, dSlice, dPart, dNoPart, dAppend, dSrtSet, dLenSet, dSplit, dZipE, dEnds, dstart, dst, dwipe, gI, gIC, gMod, gDiv, gSub, gPow, gNeg, gLt, gLe, gGt, gGe, gEq, gNe, gIsN, gNotN, gAdd, gMul, gIx, gLen, gIsi, gInt1, gTuple, gList, gSorted, gIn, gAll, gAny, dFrz, gMax2, gMin2, dComp2, sp_is_within, hk, e]; exact h
  · have h' := Fz.here h
    simp [t_need_number, dRet, dRetN, dSkip, dSeq, dExpr, dSet, dIf, dAsg, dPar, dgT, dgN, dgCons, dgNil, dgSub, dVar, dC, dUn, dBin, dNil, dCons, dApp, dB, dAnd, dOr, dNot, dAndV, dOrV, dNotV, dIfE, dChain, dTup, dLst, dLstH, dCall, dRaise, dFor, dIter, dRng1, dRng2, dZip, dEnum, dComp, dYes, dJoin, dSlice, dPart, dNoPart, dAppend, dSrtSet, dLenSet, dSplit, dZipE, dEnds, dstart, dst, dwipe, gI, gIC, gMod, gDiv, gSub, gPow, gNeg, gLt, gLe, gGt, gGe, gEq, gNe, gIsN, gNotN, gAdd, gMul, gIx, gLen, gIsi, gInt1, gTuple, gList, gSorted, gIn, gAll, gAny, dFrz, gMax2, gMin2, dComp2, sp_is_within, hk, e]; exact h'
end DL

set_option Elab.async false
set_option linter.all false
set_option maxRecDepth 100000
set_option maxHeartbeats 4000000
namespace DL
open PySem PySem.Spec PyProof.Rows L2
def pick (b : Bar) (i : Int) : List Nat := b.getD (i % (b.length : Int)).toNat []
def picks : List Bar → List Int → Int → List (List Nat)
  | b :: bs, s :: ss, t => pick b (s + t) :: picks bs ss t
  | _, _, _ => []
def heard (bs : List Bar) (ss : List Int) (t : Int) : List Nat := canon (picks bs ss t).flatten
def sp_items_at : DSp := fun ds M P _ => ∃ k bs ss t, ds = [bxD k bs, stD ss, .int t] ∧ GSt bs ss ∧ bs.length ≤ 1000 ∧ P (.lst ((picks bs ss t).map sD)) M
theorem atI_pick {b : Bar} {i : Int} (h : 1 ≤ b.length) : atI (b.map sD) (i % (b.length : Int)) = some (sD (pick b i)) := by
  have h1 : 0 ≤ i % (b.length : Int) := Int.emod_nonneg _ (by omega)
  have h2 : i % (b.length : Int) < b.length := Int.emod_lt_of_pos _ (by omega)
  have h3 : (i % (b.length : Int)).toNat < b.length := by omega
  unfold atI ixN
  rw [List.length_map, if_pos h1, if_pos h2]
  show (b.map sD)[_]? = _
  rw [List.getElem?_map, List.getElem?_eq_getElem h3]
  show some (sD _) = _
  unfold pick
  rw [List.getD_eq_getElem?_getD, List.getElem?_eq_getElem h3]
  rfl
def itF (t : Int) : D → Option D := fun x => match x with | .tup [.int s, .tup its] => atI its ((s + t) % (its.length : Int)) | _ => none
theorem itF_map (t : Int) : ∀ {bs : List Bar} {ss : List Int}, GSt bs ss → (zipD (ss.map D.int) (bs.map barD)).filterMap (itF t) = (picks bs ss t).map sD
  | [], [], _ => rfl
  | b :: bs, s :: ss, h => by
    show List.filterMap (itF t) (.tup [.int s, barD b] :: zipD (ss.map D.int) (bs.map barD)) = _
    have e : itF t (.tup [.int s, barD b]) = some (sD (pick b (s + t))) := by
      show atI (b.map sD) ((s + t) % ((b.map sD).length : Int)) = _
      rw [List.length_map, atI_pick (by have := h.1; omega)]
    rw [List.filterMap_cons, itF_map t h.2, e]
    rfl
theorem zipSt {bs : List Bar} {ss : List Int} (h : GSt bs ss) : ∀ x ∈ zipD (ss.map D.int) (bs.map barD), ∃ s b, x = .tup [.int s, barD b] ∧ 1 ≤ b.length := by
  induction bs generalizing ss with
  | nil => cases ss with
    | nil => intro x hx; cases hx
    | cons => exact h.elim
  | cons b bs ih => cases ss with
    | nil => exact h.elim
    | cons s ss =>
      intro x hx
      rcases List.mem_cons.mp hx with rfl | hx
      · exact ⟨s, b, rfl, by have := h.1; omega⟩
      · exact ih h.2 x hx
theorem l_items_at (ds : List D) (M : Mem) (P : D → Mem → Prop) (PX : DX) (h : sp_items_at ds M P PX) : t_items_at PX (dEnds P) (dstart ["box", "beginning", "tick", "begin", "barrel"] ds) M := by
  obtain ⟨k, bs, ss, t, rfl, hg, hz, h⟩ := h
  have h' := Fz.here h
  have hl := hg.len
  simp [t_items_at, dRet, dComp, dZip, dCons, dNil, dVar, dC, dBin, gIx, atI, ixN, dEnds, dstart, bxD, stD]
  refine ⟨by rw [sizeLine_eq]; simp [zipD]; omega, ?_⟩
  refine compL_by (itF t) _ [] (fun x hx R hR => ?_) ?_
  · obtain ⟨s, b, rfl, hb⟩ := zipSt hg x hx
    have e : itF t (.tup [.int s, barD b]) = some (sD (pick b (s + t))) := by
      show atI (b.map sD) ((s + t) % ((b.map sD).length : Int)) = _
      rw [List.length_map, atI_pick hb]
    rw [e] at hR
    simp [dgT, dgCons, dgNil, dgN, dYes, dVar, dC, dwipe, dBin, gMod, gIC, gAdd, dApp, dCons, dNil, gLen, barD]
    refine ⟨by omega, ?_⟩
    simp only [gIx, atI_pick hb]
    exact hR
  · rw [List.nil_append, itF_map t hg]
    exact h'
def sp_chord_at : DSp := fun ds M P _ => ∃ k bs ss t, ds = [bxD k bs, stD ss, .int t] ∧ GSt bs ss ∧ bs.length ≤ 1000 ∧ (∀ b ∈ bs, GBar b) ∧ P (sD (heard bs ss t)) M
theorem canon_le (l : List Nat) (h : canon l = l) : l.length ≤ 4 := by rw [← h]; exact canon_len l
theorem picks_ok (t : Int) : ∀ {bs : List Bar} {ss : List Int}, GSt bs ss → (∀ b ∈ bs, GBar b) → ∀ l ∈ picks bs ss t, canon l = l
  | [], [], _, _, l, hl => by cases hl
  | b :: bs, s :: ss, h, hb, l, hl => by
    rcases List.mem_cons.mp hl with rfl | hl
    · have g := hb b List.mem_cons_self
      have h1 : 0 ≤ (s + t) % (b.length : Int) := Int.emod_nonneg _ (by have := g.1; omega)
      have h2 : (s + t) % (b.length : Int) < b.length := Int.emod_lt_of_pos _ (by have := g.1; omega)
      refine g.2.2 _ ?_
      unfold pick
      rw [List.getD_eq_getElem?_getD, List.getElem?_eq_getElem (show ((s + t) % (b.length : Int)).toNat < b.length by omega)]
      exact List.getElem_mem _
    · exact picks_ok t h.2 (fun b hb' => hb b (List.mem_cons_of_mem _ hb')) l hl
theorem picks_len (t : Int) : ∀ {bs : List Bar} {ss : List Int}, GSt bs ss → (picks bs ss t).length = bs.length
  | [], [], _ => rfl
  | b :: bs, s :: ss, h => by simp [picks, picks_len t h.2]
theorem sum_le {l : List (List Nat)} (h : ∀ x ∈ l, canon x = x) : (l.map List.length).sum ≤ l.length * 4 := by
  induction l with
  | nil => simp
  | cons x l ih =>
    have := canon_le x (h x List.mem_cons_self)
    have := ih fun y hy => h y (List.mem_cons_of_mem _ hy)
    simp only [List.map_cons, List.sum_cons, List.length_cons]
    omega
theorem join_strs {l : List (List Nat)} {P : Str → Prop} (hl : (l.map List.length).sum ≤ 100000) (h : P (sN l.flatten)) : joinD (sN []) (l.map sD) P := by
  unfold joinD
  rw [strsOf_sD]
  refine ⟨?_, ?_⟩
  · have z : (List.map (fun x => x.length) (l.map sN)).sum = (l.map List.length).sum := by
      rw [List.map_map]; rfl
    rw [z]
    show _ + (List.map sN l).length * 0 ≤ _
    omega
  · rw [join_nil]
    exact h
theorem l_chord_at (ds : List D) (M : Mem) (P : D → Mem → Prop) (PX : DX) (h : sp_chord_at ds M P PX) : t_chord_at sp_items_at cTEETH PX (dEnds P) (dstart ["box", "beginning", "tick", "plucked", "tooth"] ds) M := by
  obtain ⟨k, bs, ss, t, rfl, hg, hz, hb, h⟩ := h
  have h' := Fz.here h
  simp [t_chord_at, dSeq, dSet, dJoin, dC, dCall, dCons, dNil, dVar, dEnds, dstart]
  refine ⟨k, bs, ss, t, rfl, hg, hz, ?_⟩
  refine join_strs ?_ ?_
  · have := sum_le (picks_ok t hg hb)
    rw [picks_len t hg] at this
    omega
  · simp [dRet, dJoin, dC, dComp, dIter, cTEETH, seqD]
    refine ⟨by rw [sizeLine_eq]; omega, ?_⟩
    refine canon_comp (by decide) rfl (by simp) ?_
    exact join_chars (Nat.le_trans (canon_len _) (by decide)) h'
def sp_chord (eB eS eT : Addr) (G : Int) : DSp := fun ds M P PX => ∃ b s t, ds = [b, s, t] ∧ dkn 50 b = true ∧ dkn 50 s = true ∧ top t = true ∧
  ((isBox b = false ∧ PX (.ref eB) none M) ∨ ∃ k bs, b = bxD k bs ∧ GBox k bs ∧ ((beg (bs.map barD) s = false ∧ PX (.ref eS) none M) ∨ ∃ ss, s = stD ss ∧ GSt bs ss ∧
    ((isW t 0 G = false ∧ PX (.ref eT) none M) ∨ ∃ i, t = .int i ∧ 0 ≤ i ∧ i ≤ G ∧ P (sD (heard bs ss i)) M)))
theorem barD_tup {bs : List Bar} : ∀ b ∈ bs.map barD, ∃ xs, b = .tup xs := fun b hb => by
  obtain ⟨l, _, rfl⟩ := List.mem_map.mp hb
  exact ⟨_, rfl⟩
theorem l_chord {eB eS eT : Addr} {G : Int} (ds : List D) (M : Mem) (P : D → Mem → Prop) (PX : DX) (h : sp_chord eB eS eT G ds M P PX) : t_chord (sp_need_box eB) (sp_need_beginning eS) (sp_need_tick eT G) sp_chord_at PX (dEnds P) (dstart ["box", "beginning", "tick"] ds) M := by
  obtain ⟨b, s, t, rfl, kb, ks, kt, h⟩ := h
  simp [t_chord, dSeq, dExpr, dCall, dCons, dNil, dVar, dEnds, dstart, sp_need_box]
  refine ⟨dkn_mono 50 55 b (by omega) kb, ?_⟩
  rcases h with ⟨e, h⟩ | ⟨k, bs, rfl, gb, h⟩
  · exact .inl ⟨e, h⟩
  refine .inr ⟨isBox_of gb, ?_⟩
  have hz : bs.length ≤ 1000 := by have := gb.2.2.2.1; omega
  refine ⟨barD_tup, by simpa using hz, ks, ?_⟩
  rcases h with ⟨e, h⟩ | ⟨ss, rfl, gs, h⟩
  · exact .inl ⟨e, h⟩
  refine .inr ⟨beg_of gs, ?_⟩
  refine ⟨kt, ?_⟩
  rcases h with ⟨e, h⟩ | ⟨i, rfl, h0, h1, h⟩
  · exact .inl ⟨e, h⟩
  refine .inr ⟨by simp [isW, h0, h1], ?_⟩
  exact ⟨k, bs, ss, i, rfl, gs, hz, gb.2.2.2.2, Fz.here h⟩
def sp_chords (eB eS eT eN : Addr) (G : Int) : DSp := fun ds M P PX => ∃ b s t n, ds = [b, s, t, n] ∧ dkn 50 b = true ∧ dkn 50 s = true ∧ top t = true ∧ top n = true ∧
  ((isBox b = false ∧ PX (.ref eB) none M) ∨ ∃ k bs, b = bxD k bs ∧ GBox k bs ∧ ((beg (bs.map barD) s = false ∧ PX (.ref eS) none M) ∨ ∃ ss, s = stD ss ∧ GSt bs ss ∧
    ((isW t 0 G = false ∧ PX (.ref eT) none M) ∨ ∃ i, t = .int i ∧ 0 ≤ i ∧ i ≤ G ∧
      ((isW n 0 100 = false ∧ PX (.ref eN) none M) ∨ ∃ m : Nat, n = .int m ∧ m ≤ 100 ∧ P (.lst ((List.range m).map fun j => sD (heard bs ss (i + (j : Nat))))) M))))
def chF (bs : List Bar) (ss : List Int) (i : Int) : D → D := fun x => match x with | .int j => sD (heard bs ss (i + j)) | _ => .non
theorem upto_eq (n : Nat) (i : Int) : upto i n = (List.range n).map fun j => D.int (i + (j : Nat)) := rfl
theorem l_chords {eB eS eT eN : Addr} {G : Int} (ds : List D) (M : Mem) (P : D → Mem → Prop) (PX : DX) (h : sp_chords eB eS eT eN G ds M P PX) : t_chords (sp_need_box eB) (sp_need_beginning eS) (sp_need_tick eT G) (sp_need_number eN) sp_chord_at PX (dEnds P) (dstart ["box", "beginning", "tick", "many", "more"] ds) M := by
  obtain ⟨b, s, t, n, rfl, kb, ks, kt, kn, h⟩ := h
  simp [t_chords, dSeq, dExpr, dCall, dCons, dNil, dVar, dC, dEnds, dstart, sp_need_box]
  refine ⟨dkn_mono 50 55 b (by omega) kb, ?_⟩
  rcases h with ⟨e, h⟩ | ⟨k, bs, rfl, gb, h⟩
  · exact .inl ⟨e, h⟩
  refine .inr ⟨isBox_of gb, ?_⟩
  have hz : bs.length ≤ 1000 := by have := gb.2.2.2.1; omega
  refine ⟨barD_tup, by simpa using hz, ks, ?_⟩
  rcases h with ⟨e, h⟩ | ⟨ss, rfl, gs, h⟩
  · exact .inl ⟨e, h⟩
  refine .inr ⟨beg_of gs, ?_⟩
  refine ⟨kt, ?_⟩
  rcases h with ⟨e, h⟩ | ⟨i, rfl, h0, h1, h⟩
  · exact .inl ⟨e, h⟩
  refine .inr ⟨by simp [isW, h0, h1], ?_⟩
  refine ⟨kn, ?_⟩
  rcases h with ⟨e, h⟩ | ⟨m, rfl, h2, h⟩
  · exact .inl ⟨e, h⟩
  refine .inr ⟨by simp [isW]; omega, ?_⟩
  simp [dRet, dComp, dRng1, dCons, dNil, dVar]
  refine ⟨by omega, ?_⟩
  rw [upto_eq]
  refine ⟨by rw [sizeLine_eq]; simp; omega, ?_⟩
  refine comp_map (chF bs ss i) _ (fun x hx R hR => ?_) ?_
  · obtain ⟨j, _, rfl⟩ := List.mem_map.mp hx
    simp [dCall, dCons, dNil, dVar, dwipe, dBin, gAdd]
    exact ⟨k, bs, ss, i + (0 + j), by simp, gs, hz, gb.2.2.2.2, hR⟩
  · have := Fz.here h
    rw [List.map_map]
    simpa [chF, Function.comp_def] using this
end DL

set_option Elab.async false
set_option linter.all false
set_option maxRecDepth 100000
set_option maxHeartbeats 4000000
namespace DL
open PySem PySem.Spec PyProof.Rows L2
/-! ### while -/
theorem whileN_rec {t : DTT} {tb : DTS} {W : DEnds} (Inv : Nat → DSt → Mem → Prop)
    (h : ∀ n ds M, Inv n ds M → ∀ Nx : DSt → Mem → Prop, (∀ m ds2 M2, m < n → Inv m ds2 M2 → Nx ds2 M2) → t ds M fun k M1 => (k = true → tb { nx := Nx, rt := W.rt, bk := W.nx, ct := Nx } ds M1) ∧ (k = false → W.nx ds M1)) :
    ∀ (N n : Nat) ds M, Inv n ds M → n < N → whileN t tb W N ds M
  | 0, n, ds, M, _, hn => absurd hn (by omega)
  | N + 1, n, ds, M, i, hn => h n ds M i _ fun m ds2 M2 hm i2 => whileN_rec Inv h N m ds2 M2 i2 (by omega)
theorem while_rec {t : DTT} {tb : DTS} {W : DEnds} {n : Nat} {ds : DSt} {M : Mem} (Inv : Nat → DSt → Mem → Prop) (i : Inv n ds M)
    (h : ∀ n ds M, Inv n ds M → ∀ V : DEnds, V.rt = W.rt → V.bk = W.nx → (∀ m ds2 M2, m < n → Inv m ds2 M2 → V.nx ds2 M2) → t ds M fun k M1 => (k = true → tb V ds M1) ∧ (k = false → W.nx ds M1)) : dWhile t tb W ds M :=
  ⟨n + 1, whileN_rec Inv (fun n ds M i Nx hN => h n ds M i { nx := Nx, rt := W.rt, bk := W.nx, ct := Nx } rfl rfl hN) (n + 1) n ds M i (by omega)⟩
/-! ### periods -/
theorem lcm_fold_dvd : ∀ (l : List Nat) (a : Nat), a ∣ l.foldl Nat.lcm a ∧ ∀ x ∈ l, x ∣ l.foldl Nat.lcm a
  | [], a => ⟨Nat.dvd_refl _, fun _ h => by cases h⟩
  | x :: l, a => by
    obtain ⟨h1, h2⟩ := lcm_fold_dvd l (Nat.lcm a x)
    refine ⟨Nat.dvd_trans (Nat.dvd_lcm_left a x) h1, fun y hy => ?_⟩
    rcases List.mem_cons.mp hy with rfl | hy
    · exact Nat.dvd_trans (Nat.dvd_lcm_right a y) h1
    · exact h2 y hy
theorem lcm_fold_min : ∀ (l : List Nat) (a n : Nat), a ∣ n → (∀ x ∈ l, x ∣ n) → l.foldl Nat.lcm a ∣ n
  | [], a, n, h, _ => h
  | x :: l, a, n, h, hl => lcm_fold_min l (Nat.lcm a x) n (Nat.lcm_dvd h (hl x List.mem_cons_self)) fun y hy => hl y (List.mem_cons_of_mem _ hy)
theorem lcm_fold_pos : ∀ (l : List Nat) (a : Nat), 0 < a → (∀ x ∈ l, 0 < x) → 0 < l.foldl Nat.lcm a
  | [], a, h, _ => h
  | x :: l, a, h, hl => lcm_fold_pos l (Nat.lcm a x) (Nat.lcm_pos h (hl x List.mem_cons_self)) fun y hy => hl y (List.mem_cons_of_mem _ hy)
theorem lcm_fold_le : ∀ (l : List Nat) (a : Nat), 0 < a → (∀ x ∈ l, 0 < x ∧ x ≤ 7) → l.foldl Nat.lcm a ≤ a * 7 ^ l.length
  | [], a, h, _ => by simp
  | x :: l, a, h, hl => by
    have hx := hl x List.mem_cons_self
    have h1 := lcm_fold_le l (Nat.lcm a x) (Nat.lcm_pos h hx.1) fun y hy => hl y (List.mem_cons_of_mem _ hy)
    have h2 : Nat.lcm a x ≤ a * 7 := Nat.le_trans (Nat.le_of_dvd (Nat.mul_pos h hx.1) (Nat.lcm_dvd (Nat.dvd_mul_right a x) (Nat.dvd_mul_left x a))) (Nat.mul_le_mul_left a hx.2)
    calc _ ≤ Nat.lcm a x * 7 ^ l.length := h1
      _ ≤ a * 7 * 7 ^ l.length := Nat.mul_le_mul_right _ h2
      _ = a * 7 ^ (x :: l).length := by rw [List.length_cons, Nat.pow_succ]; ac_rfl
/-! ### counting -/
def cnt (p : Nat → Bool) (n : Nat) : Nat := ((List.range n).filter p).length
theorem cnt_succ (p : Nat → Bool) (n : Nat) : cnt p (n + 1) = cnt p n + (if p n then 1 else 0) := by
  unfold cnt
  rw [List.range_succ, List.filter_append, List.length_append]
  cases h : p n <;> simp [h]
theorem cnt_add (p : Nat → Bool) (s : Nat) (hp : ∀ n, p (n + s) = p n) : ∀ n, cnt p (s + n) = cnt p s + cnt p n
  | 0 => by simp [cnt]
  | n + 1 => by
    rw [← Nat.add_assoc, cnt_succ, cnt_succ, cnt_add p s hp n, Nat.add_comm s n, hp n]
    omega
theorem cnt_mul (p : Nat → Bool) (s : Nat) (hp : ∀ n, p (n + s) = p n) (r : Nat) : ∀ q, cnt p (q * s + r) = q * cnt p s + cnt p r
  | 0 => by simp
  | q + 1 => by
    rw [show (q + 1) * s + r = s + (q * s + r) by rw [Nat.add_mul]; omega, cnt_add p s hp, cnt_mul p s hp r q, Nat.add_mul]
    omega
theorem cnt_div (p : Nat → Bool) (s : Nat) (hp : ∀ n, p (n + s) = p n) (n : Nat) : cnt p n = n / s * cnt p s + cnt p (n % s) := by
  rw [← cnt_mul p s hp]
  congr 1
  rw [Nat.mul_comm]
  exact (Nat.div_add_mod n s).symm
theorem filter_lt (p : Nat → Bool) (n : Nat) : ∀ m, n ≤ m → ((List.range m).filter p).filter (fun t => decide (t < n)) = (List.range n).filter p := by
  intro m h
  obtain ⟨k, rfl⟩ := Nat.exists_eq_add_of_le h
  induction k with
  | zero =>
    refine List.filter_eq_self.mpr fun x hx => ?_
    have := List.mem_range.mp (List.mem_filter.mp hx).1
    simpa using this
  | succ k ih =>
    rw [← Nat.add_assoc, List.range_succ, List.filter_append, List.filter_append, ih (by omega)]
    cases hp : p (n + k) <;> simp [hp]
end DL

set_option Elab.async false
set_option linter.all false
set_option maxRecDepth 100000
set_option maxHeartbeats 4000000
namespace DL
open PySem PySem.Spec PyProof.Rows L2
/-! ### data are told apart -/
theorem map_inj' {α : Type} {f : α → D} (h : ∀ a b, f a = f b → a = b) : ∀ {l m : List α}, l.map f = m.map f ↔ l = m := fun {l m} => List.map_inj_right (fun a b => h a b)
theorem sD_inj {a b : List Nat} : sD a = sD b ↔ a = b := by
  constructor
  · intro h
    injection h with h
    exact sN_inj.mp h
  · rintro rfl; rfl
theorem barD_inj {a b : Bar} : barD a = barD b ↔ a = b := by
  unfold barD
  rw [D.tup.injEq]
  exact map_inj' fun a b => sD_inj.mp
theorem stD_inj {a b : List Int} : stD a = stD b ↔ a = b := by
  unfold stD
  rw [D.tup.injEq]
  exact map_inj' fun a b h => by injection h
theorem bxD_inj {k k' : Int} {bs bs' : List Bar} : bxD k bs = bxD k' bs' ↔ k = k' ∧ bs = bs' := by
  unfold bxD
  simp only [D.tup.injEq, List.cons.injEq, D.int.injEq, and_true]
  rw [map_inj' fun a b => barD_inj.mp]
/-! ### comprehensions over the images of a list -/
theorem filterMap_if {α : Type} (p : α → Bool) (f : α → D) : ∀ l : List α, l.filterMap (fun a => if p a = true then some (f a) else none) = (l.filter p).map f
  | [] => rfl
  | a :: l => by
    rw [List.filterMap_cons, filterMap_if p f l, List.filter_cons]
    cases p a <;> rfl
theorem comp_f {α : Type} {vs : List Nat} {g : DTG} {tt : DTT} {te : DTE} {ds : DSt} {Q : List D → Mem → Prop} {M : Mem} {h : α → D} (p : α → Bool) (f : α → D) : ∀ (l : List α) (acc : List D),
    (∀ a ∈ l, ∀ R : Option D → Mem → Prop, (p a = true → R (some (f a)) M) → (p a = false → R none M) → g (h a) (dwipe ds vs) M fun ds2 M2 => tt ds2 M2 fun b M3 => (b = true → te ds2 M3 fun y M4 => R (some y) M4) ∧ (b = false → R none M3)) →
    Q (acc ++ (l.filter p).map f) M → compL vs g tt te ds Q (l.map h) acc M
  | [], acc, _, q => by
    simp only [List.filter_nil, List.map_nil, List.append_nil] at q
    exact q
  | a :: l, acc, s, q => by
    rw [List.filter_cons] at q
    refine s a List.mem_cons_self (fun o M' => match o with | some y => compL vs g tt te ds Q (l.map h) (acc ++ [y]) M' | none => compL vs g tt te ds Q (l.map h) acc M') (fun e => ?_) (fun e => ?_)
    · rw [if_pos e] at q
      refine comp_f p f l (acc ++ [f a]) (fun b hb => s b (List.mem_cons_of_mem _ hb)) ?_
      rw [List.append_assoc]
      exact q
    · rw [e] at q
      exact comp_f p f l acc (fun b hb => s b (List.mem_cons_of_mem _ hb)) q
theorem comp_m {α : Type} {vs : List Nat} {g : DTG} {te : DTE} {ds : DSt} {Q : List D → Mem → Prop} {M : Mem} {h : α → D} (f : α → D) (l : List α)
    (s : ∀ a ∈ l, ∀ R : D → Mem → Prop, R (f a) M → g (h a) (dwipe ds vs) M fun ds2 M2 => (true = true → te ds2 M2 R) ∧ (true = false → R .non M2)) (hg : ∀ a ∈ l, ∀ R S : DSt → Mem → Prop, (∀ x y, R x y → S x y) → g (h a) (dwipe ds vs) M R → g (h a) (dwipe ds vs) M S) (q : Q (l.map f) M) : compL vs g dYes te ds Q (l.map h) [] M := by
  refine comp_f (fun _ => true) f l [] (fun a ha R h1 _ => ?_) ?_
  · refine hg a ha _ _ (fun x y z => ?_) (s a ha (fun y M' => R (some y) M') (h1 rfl))
    exact ⟨z.1, fun z => by cases z⟩
  · rw [List.filter_eq_self.mpr (fun _ _ => rfl)]
    exact q
/-- one name, no test -/
theorem comp_1 {α : Type} {i : Nat} {te : DTE} {ds : DSt} {Q : List D → Mem → Prop} {M : Mem} {h : α → D} (f : α → D) (l : List α)
    (s : ∀ a ∈ l, ∀ R : D → Mem → Prop, R (f a) M → te ((dwipe ds [i]).set i (some (h a))) M R) (q : Q (l.map f) M) : compL [i] (dgN i) dYes te ds Q (l.map h) [] M := by
  refine comp_f (fun _ => true) f l [] (fun a ha R h1 _ => ?_) ?_
  · exact ⟨fun _ => s a ha (fun y M' => R (some y) M') (h1 rfl), fun z => by cases z⟩
  · rw [List.filter_eq_self.mpr (fun _ _ => rfl)]
    exact q
/-- one name, a test -/
theorem comp_1t {α : Type} {i : Nat} {tt : DTT} {te : DTE} {ds : DSt} {Q : List D → Mem → Prop} {M : Mem} {h : α → D} (p : α → Bool) (f : α → D) (l : List α)
    (s : ∀ a ∈ l, ∀ R : Bool → Mem → Prop, R (p a) M → tt ((dwipe ds [i]).set i (some (h a))) M R) (s2 : ∀ a ∈ l, p a = true → ∀ R : D → Mem → Prop, R (f a) M → te ((dwipe ds [i]).set i (some (h a))) M R) (q : Q ((l.filter p).map f) M) : compL [i] (dgN i) tt te ds Q (l.map h) [] M := by
  refine comp_f p f l [] (fun a ha R h1 h2 => ?_) q
  exact s a ha _ ⟨fun e => s2 a ha e _ (h1 e), h2⟩
theorem upto0 (n : Nat) : upto 0 n = (List.range n).map fun j : Nat => D.int j := by
  unfold upto
  exact List.map_congr_left fun j _ => by simp
theorem enum_range (f : Nat → D) (n : Nat) : enumD ((List.range n).map f) = (List.range n).map fun j : Nat => D.tup [.int j, f j] := by
  unfold enumD
  apply List.ext_getElem
  · simp
  · intro i h1 h2
    simp
/-! ### loops over the images of a list -/
theorem forL_fold {α β J : Type} {g : DTG} {tb : DTS} {W : DEnds} {h : α → D} {M : Mem} (σ : J → β → DSt) (f : β → α → β) : ∀ (l : List α) (j : J) (b : β),
    (∀ a ∈ l, ∀ j b, ∀ V : DEnds, (∀ j', V.nx (σ j' (f b a)) M) → V.rt = W.rt → g (h a) (σ j b) M fun ds1 M1 => tb V ds1 M1) →
    (∀ j, W.nx (σ j (l.foldl f b)) M) → forL g tb W (l.map h) (σ j b) M
  | [], j, b, _, q => q j
  | a :: l, j, b, s, q => by
    refine s a List.mem_cons_self j b _ (fun j' => ?_) rfl
    exact forL_fold σ f l j' (f b a) (fun x hx => s x (List.mem_cons_of_mem _ hx)) q
end DL

set_option Elab.async false
set_option linter.all false
set_option maxRecDepth 100000
set_option maxHeartbeats 4000000
namespace DL
open PySem PySem.Spec PyProof.Rows L2
/-! ### teeth one by one -/
def isO (v : D) : Bool := match v with | .str z => ([sD [97], sD [98], sD [99], sD [100]] : List D).any fun u => dq u (.str z) | _ => false
theorem isO_s (l : List Nat) : isO (sD l) = ([97] = l || [98] = l || [99] = l || [100] = l) := by
  show (([sD [97], sD [98], sD [99], sD [100]] : List D).any fun u => dq u (sD l)) = _
  simp only [List.any_cons, List.any_nil, dq_s, Bool.or_false, Bool.or_assoc]
theorem isO_iff {v : D} : isO v = true ↔ ∃ c, c ∈ teeth ∧ v = sD [c] := by
  constructor
  · intro h
    cases v <;> try (simp [isO] at h; done)
    rename_i z
    obtain ⟨l, rfl⟩ : ∃ l, z = sN l := ⟨z.cps.toList, (sN_tl z).symm⟩
    rw [isO_s] at h
    simp only [Bool.or_eq_true, decide_eq_true_eq, or_assoc] at h
    rcases h with rfl | rfl | rfl | rfl
    · exact ⟨97, by decide, rfl⟩
    · exact ⟨98, by decide, rfl⟩
    · exact ⟨99, by decide, rfl⟩
    · exact ⟨100, by decide, rfl⟩
  · rintro ⟨c, hc, rfl⟩
    rw [isO_s]
    simp [teeth] at hc
    rcases hc with rfl | rfl | rfl | rfl <;> rfl
def sp_is_tooth : DSp := fun ds M P _ => match ds with | [v] => dkn 60 v = true ∧ P (.bl (isO v)) M | _ => False
theorem l_is_tooth (ds : List D) (M : Mem) (P : D → Mem → Prop) (PX : DX) (h : sp_is_tooth ds M P PX) : t_is_tooth cTEETH PX (dEnds P) (dst 1 ds) M := by
  unfold sp_is_tooth at h
  split at h <;> try exact h.elim
  rename_i v
  obtain ⟨hk, h⟩ := h
  have h' := Fz.here h
  have ht := dkn_top hk
  cases v with
  | str z =>
    simp only [t_is_tooth, dRet, dAndV, dApp, dCons, dNil, dVar, dC, dEnds, dst, gIsi, isiN, isiB, cTEETH, dBin, gIn]
    simp [flatD]
    simpa [isO] using h'
  | _ =>
    simp [t_is_tooth, dRet, dRetN, dSkip, dSeq, dExpr, dSet, dIf, dAsg, dPar, dgT, dgN, dgCons, dgNil, dgSub, dVar, dC, dUn, dBin, dNil, dCons, dApp, dB, dAnd, dOr, dNot, dAndV, dOrV, dNotV, dIfE, dChain, dTup, dLst, dLstH, dCall, dRaise, dFor, dIter, dRng1, dRng2, dZip, dEnum, dComp, dYes, dJoin, dSlice, dPart, dNoPart, dAppend, dSrtSet, dLenSet, dSplit, dZipE, dEnds, dstart, dst, dwipe, gI, gIC, gMod, gDiv, gSub, gPow, gNeg, gLt, gLe, gGt, gGe, gEq, gNe, gIsN, gNotN, gAdd, gMul, gIx, gLen, gIsi, gInt1, gTuple, gList, gSorted, gIn, gAll, gAny, dFrz, gMax2, gMin2, dComp2, isiN, isiB, isO, top] at ht h' ⊢
    try exact h'
def sp_need_tooth (e : Addr) : DSp := fun ds M P PX => match ds with | [v] => dkn 60 v = true ∧ ((isO v = false ∧ PX (.ref e) none M) ∨ (isO v = true ∧ P .non M)) | _ => False
theorem l_need_tooth (e : Addr) (ds : List D) (M : Mem) (P : D → Mem → Prop) (PX : DX) (h : sp_need_tooth e ds M P PX) : t_need_tooth sp_is_tooth e PX (dEnds P) (dst 1 ds) M := by
  unfold sp_need_tooth at h
  split at h <;> try exact h.elim
  obtain ⟨hk, h⟩ := h
  rcases h with ⟨e, h⟩ | ⟨e, h⟩
  · simp [t_need_tooth, dRet, dRetN, dSkip, dSeq, dExpr, dSet, dIf, dAsg, dPar, dgT, dgN, dgCons, dgNil, dgSub, dVar, dC, dUn, dBin, dNil, dCons, dApp, dB, dAnd, dOr, dNot, dAndV, dOrV, dNotV, dIfE, dChain, dTup, dLst, dLstH, dCall, dRaise, dFor, dIter, dRng1, dRng2, dZip, dEnum, dComp, dYes, dJoin, dSlice, dPart, dNoPart, dAppend, dSrtSet, dLenSet, dSplit, dZipE, dEnds, dstart, dst, dwipe, gI, gIC, gMod, gDiv, gSub, gPow, gNeg, gLt, gLe, gGt, gGe, gEq, gNe, gIsN, gNotN, gAdd, gMul, gIx, gLen, gIsi, gInt1, gTuple, gList, gSorted, gIn, gAll, gAny, dFrz, gMax2, gMin2, dComp2, sp_is_tooth, hk, e]; exact h
  · have h' := Fz.here h
    simp [t_need_tooth, dRet, dRetN, dSkip, dSeq, dExpr, dSet, dIf, dAsg, dPar, dgT, dgN, dgCons, dgNil, dgSub, dVar, dC, dUn, dBin, dNil, dCons, dApp, dB, dAnd, dOr, dNot, dAndV, dOrV, dNotV, dIfE, dChain, dTup, dLst, dLstH, dCall, dRaise, dFor, dIter, dRng1, dRng2, dZip, dEnum, dComp, dYes, dJoin, dSlice, dPart, dNoPart, dAppend, dSrtSet, dLenSet, dSplit, dZipE, dEnds, dstart, dst, dwipe, gI, gIC, gMod, gDiv, gSub, gPow, gNeg, gLt, gLe, gGt, gGe, gEq, gNe, gIsN, gNotN, gAdd, gMul, gIx, gLen, gIsi, gInt1, gTuple, gList, gSorted, gIn, gAll, gAny, dFrz, gMax2, gMin2, dComp2, sp_is_tooth, hk, e]; exact h'
/-! ### gcd, the period -/
def sp_gcd : DSp := fun ds M P _ => ∃ a b : Nat, ds = [.int a, .int b] ∧ P (.int (Nat.gcd a b)) M
theorem l_gcd (ds : List D) (M : Mem) (P : D → Mem → Prop) (PX : DX) (h : sp_gcd ds M P PX) : t_gcd PX (dEnds P) (dst 2 ds) M := by
  obtain ⟨a, b, rfl, h⟩ := h
  have h' := Fz.here h
  simp only [t_gcd, dSeq]
  refine while_rec (n := b) (fun n ds M' => ∃ x y : Nat, ds = [some (.int x), some (.int y)] ∧ n = y ∧ Nat.gcd x y = Nat.gcd a b ∧ M' = M) ⟨a, b, rfl, rfl, rfl, rfl⟩ (fun n ds M' hI V hr hb hV => ?_)
  obtain ⟨x, y, rfl, rfl, e, rfl⟩ := hI
  simp [dB, dBin, dVar, dC, gGt, gI, gIC, dPar, dCons, dNil, gMod]
  refine ⟨fun hy => ⟨hy, ?_⟩, fun hy => ?_⟩
  · exact hV (x % n) _ _ (Nat.mod_lt _ hy) ⟨n, x % n, by simp, rfl, by rw [← e, Nat.gcd_comm x n, Nat.gcd_rec n x, Nat.gcd_comm], rfl⟩
  · subst hy
    rw [Nat.gcd_zero_right] at e
    subst e
    simp [dRet, dVar, dEnds]
    exact h'
def perN (bs : List Bar) : Nat := (bs.map List.length).foldl Nat.lcm 1
def GBs (bs : List Bar) : Prop := 1 ≤ bs.length ∧ bs.length ≤ 3 ∧ ∀ b ∈ bs, GBar b
theorem GBox.bs {k : Int} {bs : List Bar} (h : GBox k bs) : GBs bs := h.2.2
theorem perN_pos {bs : List Bar} (h : GBs bs) : 0 < perN bs := lcm_fold_pos _ 1 (by decide) fun x hx => by
  obtain ⟨b, hb, rfl⟩ := List.mem_map.mp hx
  exact (h.2.2 b hb).1
theorem perN_le {bs : List Bar} (h : GBs bs) : perN bs ≤ 343 := by
  have := lcm_fold_le (bs.map List.length) 1 (by decide) fun x hx => by
    obtain ⟨b, hb, rfl⟩ := List.mem_map.mp hx
    exact ⟨(h.2.2 b hb).1, (h.2.2 b hb).2.1⟩
  rw [List.length_map, Nat.one_mul] at this
  exact Nat.le_trans this (Nat.le_trans (Nat.pow_le_pow_right (by decide) h.2.1) (by decide))
theorem perN_dvd {bs : List Bar} {b : Bar} (h : b ∈ bs) : b.length ∣ perN bs := (lcm_fold_dvd (bs.map List.length) 1).2 _ (List.mem_map_of_mem h)
def sp_period_of : DSp := fun ds M P _ => ∃ k bs, ds = [bxD k bs] ∧ GBs bs ∧ P (.int (perN bs)) M
theorem lcm_div {a b : Nat} : ((a : Int) * (b : Int)) / ((Nat.gcd a b : Nat) : Int) = (Nat.lcm a b : Nat) := by
  unfold Nat.lcm
  push_cast
  rfl
theorem per_loop {M : Mem} {W : DEnds} {tb : DTS} {k : Int} {bs0 : List Bar}
    (htb : ∀ (a : Nat) (b : Bar) (x : Option D) (V : DEnds), 0 < a → a ≤ 343 → GBar b → V.nx [some (bxD k bs0), some (.int (Nat.lcm a b.length : Nat)), some (barD b)] M → tb V [some (bxD k bs0), some (.int a), some (barD b)] M) :
    ∀ (bs : List Bar) (a : Nat) (x : Option D), 0 < a → a * 7 ^ bs.length ≤ 343 → (∀ b ∈ bs, GBar b) → (∀ x, W.nx [some (bxD k bs0), some (.int ((bs.map List.length).foldl Nat.lcm a : Nat)), x] M) →
    forL (dgN 2) tb W (bs.map barD) [some (bxD k bs0), some (.int a), x] M
  | [], a, x, _, _, _, q => q x
  | b :: bs, a, x, ha, hl, hg, q => by
    have g := hg b List.mem_cons_self
    have h1 : a ≤ 343 := Nat.le_trans (Nat.le_mul_of_pos_right a (Nat.pow_pos (by decide))) hl
    have h2 : Nat.lcm a b.length ≤ a * 7 := Nat.le_trans (Nat.le_of_dvd (Nat.mul_pos ha g.1) (Nat.lcm_dvd (Nat.dvd_mul_right a _) (Nat.dvd_mul_left _ a))) (Nat.mul_le_mul_left a g.2.1)
    refine htb a b x _ ha h1 g ?_
    refine per_loop htb bs _ _ (Nat.lcm_pos ha g.1) ?_ (fun c hc => hg c (List.mem_cons_of_mem _ hc)) q
    rw [List.length_cons, Nat.pow_succ] at hl
    calc _ ≤ a * 7 * 7 ^ bs.length := Nat.mul_le_mul_right _ h2
      _ = a * (7 ^ bs.length * 7) := by ac_rfl
      _ ≤ 343 := hl
theorem l_period_of (ds : List D) (M : Mem) (P : D → Mem → Prop) (PX : DX) (h : sp_period_of ds M P PX) : t_period_of sp_gcd PX (dEnds P) (dst 3 ds) M := by
  obtain ⟨k, bs, rfl, g, h⟩ := h
  have h' := Fz.here h
  simp [t_period_of, dSeq, dSet, dC, dFor, dIter, dBin, dVar, dst, gIx, atI, ixN]
  show (match seqD (.tup (bs.map barD)) with | some xs => _ | none => False)
  simp only [seqD]
  refine per_loop (k := k) (bs0 := bs) (fun a b x V ha h1 gb hV => ?_) bs 1 none (by decide) ?_ g.2.2 (fun x => ?_)
  · have hb := gb.2.1
    have hp : 0 < Nat.gcd a b.length := Nat.gcd_pos_of_pos_left _ ha
    have hq : Nat.gcd a b.length ≤ 7 := Nat.le_trans (Nat.le_of_dvd gb.1 (Nat.gcd_dvd_right a b.length)) hb
    simp [dSet, dBin, dVar, dApp, dCons, dNil, gLen, barD, dCall, gMul, CMul, gDiv, gIC, CDiv]
    refine ⟨by omega, a, b.length, rfl, ?_⟩
    dsimp only
    refine ⟨by omega, ?_⟩
    rw [lcm_div (a := a) (b := b.length)]
    exact hV
  · have : 7 ^ bs.length ≤ 7 ^ 3 := Nat.pow_le_pow_right (by decide) g.2.1
    omega
  · simp [dRet, dVar, dEnds]
    exact h'
/-! ### what is heard has the period -/
theorem pick_per {b : Bar} {n : Nat} (h : b.length ∣ n) (i : Int) : pick b (i + n) = pick b i := by
  unfold pick
  obtain ⟨c, rfl⟩ := h
  rw [Int.natCast_mul, Int.add_mul_emod_self_left]
theorem picks_per {n : Nat} (t : Int) : ∀ {bs : List Bar} {ss : List Int}, (∀ b ∈ bs, b.length ∣ n) → picks bs ss (t + n) = picks bs ss t
  | [], _, _ => rfl
  | _ :: _, [], _ => rfl
  | b :: bs, s :: ss, h => by
    rw [picks, picks, picks_per t fun c hc => h c (List.mem_cons_of_mem _ hc), ← Int.add_assoc, pick_per (h b List.mem_cons_self)]
theorem heard_per (bs : List Bar) (ss : List Int) (t : Int) : heard bs ss (t + perN bs) = heard bs ss t := by
  unfold heard
  rw [picks_per t fun b hb => perN_dvd hb]
theorem heard_mod (bs : List Bar) (ss : List Int) (t q : Nat) : heard bs ss ((q * perN bs + t : Nat) : Int) = heard bs ss t := by
  induction q with
  | zero => rw [Nat.zero_mul, Nat.zero_add]
  | succ q ih =>
    rw [show (((q + 1) * perN bs + t : Nat) : Int) = ((q * perN bs + t : Nat) : Int) + perN bs by rw [Nat.add_mul]; omega, heard_per, ih]
/-! ### tunes -/
def tuneL (bs : List Bar) (ss : List Int) : List (List Nat) := (List.range (perN bs)).map fun j : Nat => heard bs ss j
def tuneD (bs : List Bar) (ss : List Int) : D := .tup ((tuneL bs ss).map sD)
def sp_tune_of : DSp := fun ds M P _ => ∃ k bs ss, ds = [bxD k bs, stD ss] ∧ GBs bs ∧ GSt bs ss ∧ P (tuneD bs ss) M
theorem l_tune_of (ds : List D) (M : Mem) (P : D → Mem → Prop) (PX : DX) (h : sp_tune_of ds M P PX) : t_tune_of sp_period_of sp_chord_at PX (dEnds P) (dst 3 ds) M := by
  obtain ⟨k, bs, ss, rfl, g, gs, h⟩ := h
  have h' := Fz.here h
  have hp := perN_le g
  simp [t_tune_of, dRet, dApp, dCons, dNil, dComp, dRng1, dCall, dVar, dst, dEnds]
  refine ⟨k, bs, rfl, g, ?_⟩
  simp only [upto0]
  refine ⟨by omega, by rw [sizeLine_eq]; simp; omega, ?_⟩
  refine comp_1 (fun j : Nat => sD (heard bs ss j)) _ (fun j hj R hR => ?_) ?_
  · simp [dCall, dCons, dNil, dVar, dwipe]
    exact ⟨k, bs, ss, j, rfl, gs, by have := g.2.1; omega, g.2.2, hR⟩
  · unfold tuneD tuneL at h'
    rw [List.map_map] at h'
    exact h'
def tickL (bs : List Bar) (ss : List Int) (c n : Nat) : List Nat := (List.range n).filter fun j : Nat => decide (c ∈ heard bs ss j)
def natsD (l : List Nat) : D := .lst (l.map fun j : Nat => D.int j)
def sp_ticks_of : DSp := fun ds M P _ => ∃ k bs ss c, ds = [bxD k bs, stD ss, sD [c]] ∧ GBs bs ∧ GSt bs ss ∧ P (natsD (tickL bs ss c (perN bs))) M
theorem l_ticks_of (ds : List D) (M : Mem) (P : D → Mem → Prop) (PX : DX) (h : sp_ticks_of ds M P PX) : t_ticks_of sp_tune_of PX (dEnds P) (dst 5 ds) M := by
  obtain ⟨k, bs, ss, c, rfl, g, gs, h⟩ := h
  have h' := Fz.here h
  have hp := perN_le g
  simp [t_ticks_of, dRet, dComp, dEnum, dCall, dCons, dNil, dVar, dst, dEnds]
  refine ⟨k, bs, ss, rfl, g, gs, ?_⟩
  simp only [tuneD, tuneL, List.map_map, enum_range]
  refine ⟨by rw [sizeLine_eq]; simp; omega, ?_⟩
  refine comp_f (fun j : Nat => decide (c ∈ heard bs ss j)) (fun j => D.int j) _ [] (fun j hj R h1 h2 => ?_) ?_
  · simp [dgT, dgCons, dgNil, dgN, dB, dBin, dVar, dwipe, gIn, strIn_one]
    refine ⟨fun e => h1 (by simpa using e), fun e => h2 (by simpa using e)⟩
  · exact h'
end DL

set_option Elab.async false
set_option linter.all false
set_option maxRecDepth 100000
set_option maxHeartbeats 4000000
namespace DL
open PySem PySem.Spec PyProof.Rows L2
/-! ### the harness: the deck -/
def deckO (x y z : Int) : MO := .lst [.int x, .int y, .int z]
def DeckAt (M : Mem) (a : Addr) (n : Nat) : Prop := ∃ x y z : Int, M a = some (deckO x y z) ∧ 0 ≤ x ∧ 0 ≤ y ∧ y < 2147483579 ∧ 0 ≤ z ∧ z + n ≤ 2 ^ 38
theorem DeckAt.less {M : Mem} {a : Addr} {n m : Nat} (h : DeckAt M a n) (hm : m ≤ n) : DeckAt M a m := by
  obtain ⟨x, y, z, e, h1, h2, h3, h4, h5⟩ := h
  exact ⟨x, y, z, e, h1, h2, h3, h4, by omega⟩
theorem DeckAt.some {M : Mem} {a : Addr} {n : Nat} (h : DeckAt M a n) : M a ≠ none := by
  obtain ⟨x, y, z, e, _⟩ := h
  rw [e]; exact nofun
structure KpM (a : Addr) (M M' : Mem) : Prop where
  at_ : ∀ b, b ≠ a → M b ≠ none → M' b = M b
  tb : ∀ b T, M' b = some (.tabs T) → M b = some (.tabs T)
theorem KpM.refl {a : Addr} {M : Mem} : KpM a M M := ⟨fun _ _ _ => rfl, fun _ _ h => h⟩
theorem KpM.trans {a : Addr} {M M' M'' : Mem} (h : KpM a M M') (g : KpM a M' M'') : KpM a M M'' :=
  ⟨fun b hb n => (g.at_ b hb (by rw [h.at_ b hb n]; exact n)).trans (h.at_ b hb n), fun b T e => h.tb b T (g.tb b T e)⟩
theorem KpM.put {a : Addr} {M : Mem} {o : MO} (h : ∀ T, o ≠ .tabs T) : KpM a M (mput M a (some o)) :=
  ⟨fun b hb _ => mput_ne hb, fun b T e => by
    by_cases hb : b = a
    · subst hb; rw [mput_same] at e; exact absurd (Option.some.inj e) (h T)
    · rw [mput_ne hb] at e; exact e⟩
theorem KpM.putN {a p : Addr} {M : Mem} {o : MO} (n : M p = none) (h : ∀ T, o ≠ .tabs T) : KpM a M (mput M p (some o)) :=
  ⟨fun b hb hn => mput_ne fun e => hn (e ▸ n), fun b T e => by
    by_cases hb : b = p
    · subst hb; rw [mput_same] at e; exact absurd (Option.some.inj e) (h T)
    · rw [mput_ne hb] at e; exact e⟩
def sp_law_deck : DSp := fun ds M P _ => ∃ c t : Int, ds = [.int c, .int t] ∧ 0 ≤ t ∧ t ≤ 1000 ∧ ∀ p M', M p = none → KpM p M M' → DeckAt M' p (2 ^ 37) → P (.ref p) M'
theorem deck_new {M : Mem} {p : Addr} {x y t : Int} (hx : 0 ≤ x) (hy : 0 ≤ y) (hy2 : y < 2147483579) (ht : 0 ≤ t) (ht2 : t ≤ 1000) : DeckAt (mput M p (some (deckO x y t))) p (2 ^ 37) :=
  ⟨x, y, t, mput_same, hx, hy, hy2, ht, by have : ((2 ^ 37 : Nat) : Int) = 137438953472 := by decide
                                           rw [this]; omega⟩
theorem l_law_deck (ds : List D) (M : Mem) (P : D → Mem → Prop) (PX : DX) (h : sp_law_deck ds M P PX) : t_law_deck PX (dEnds P) (dstart ["_law_cell", "_law_turn"] ds) M := by
  obtain ⟨c, t, rfl, h0, h1, h⟩ := h
  simp [t_law_deck, dRet, dRetN, dSkip, dSeq, dExpr, dSet, dIf, dAsg, dPar, dgT, dgN, dgCons, dgNil, dgSub, dVar, dC, dUn, dBin, dNil, dCons, dApp, dB, dAnd, dOr, dNot, dAndV, dOrV, dNotV, dIfE, dChain, dTup, dLst, dLstH, dCall, dRaise, dFor, dIter, dRng1, dRng2, dZip, dEnum, dComp, dYes, dJoin, dSlice, dPart, dNoPart, dAppend, dSrtSet, dLenSet, dSplit, dZipE, dEnds, dstart, dst, dwipe, gI, gIC, gMod, gDiv, gSub, gPow, gNeg, gLt, gLe, gGt, gGe, gEq, gNe, gIsN, gNotN, gAdd, gMul, gIx, gLen, gIsi, gInt1, gTuple, gList, gSorted, gIn, gAll, gAny, dFrz, gMax2, gMin2, dComp2, CPow]
  refine ⟨fun hc => ⟨by rw [sizeLine_eq]; omega, fun p hp => ?_⟩, fun hc => ⟨by rw [sizeLine_eq]; omega, fun p hp => ?_⟩⟩
  · exact Fz.here (h p _ hp (KpM.put nofun) (deck_new (by omega) (by omega) (by omega) h0 h1))
  · exact Fz.here (h p _ hp (KpM.put nofun) (deck_new (by omega) (by omega) (by omega) h0 h1))
def sp_law_pick : DSp := fun ds M P _ => ∃ (a : Addr) (size : Int) (n : Nat), ds = [.ref a, .int size] ∧ 0 < size ∧ size < 1073741824 ∧ DeckAt M a (n + 1) ∧ ∀ r M', 0 ≤ r → r < size → KpM a M M' → DeckAt M' a n → P (.int r) M'
theorem l_law_pick (ds : List D) (M : Mem) (P : D → Mem → Prop) (PX : DX) (h : sp_law_pick ds M P PX) : t_law_pick PX (dEnds P) (dstart ["_law_deck_here", "_law_size", "_law_found", "_law_number"] ds) M := by
  obtain ⟨a, size, n, rfl, s0, s1, ⟨x, y, z, e, hx, hy, hy2, hz, hn⟩, h⟩ := h
  have p38 : (2 : Int) ^ 38 = 274877906944 := by decide
  rw [p38] at hn
  simp [t_law_pick, dRet, dRetN, dSkip, dSeq, dExpr, dSet, dIf, dAsg, dPar, dgT, dgN, dgCons, dgNil, dgSub, dVar, dC, dUn, dBin, dNil, dCons, dApp, dB, dAnd, dOr, dNot, dAndV, dOrV, dNotV, dIfE, dChain, dTup, dLst, dLstH, dCall, dRaise, dFor, dIter, dRng1, dRng2, dZip, dEnum, dComp, dYes, dJoin, dSlice, dPart, dNoPart, dAppend, dSrtSet, dLenSet, dSplit, dZipE, dEnds, dstart, dst, dwipe, gI, gIC, gMod, gDiv, gSub, gPow, gNeg, gLt, gLe, gGt, gGe, gEq, gNe, gIsN, gNotN, gAdd, gMul, gIx, gLen, gIsi, gInt1, gTuple, gList, gSorted, gIn, gAll, gAny, dFrz, gMax2, gMin2, dComp2, e, deckO, atI, ixN, CPow, CDiv, CMul, setD, mput_same]
  refine ⟨fun h1 => ⟨s0, ⟨s0, s1⟩, ?_⟩, fun h1 => ⟨by omega, ?_, s0, ?_⟩⟩
  · refine Fz.here (h _ _ (Int.emod_nonneg _ (by omega)) (Int.emod_lt_of_pos _ s0) (KpM.put nofun) ⟨x / size, y, z, mput_same, ?_, hy, hy2, hz, by rw [p38]; omega⟩)
    exact Int.ediv_nonneg hx (by omega)
  · have k1 : 0 ≤ (y + 15485867 * (z + 1)) ^ 5 % 2147483647 := Int.emod_nonneg _ (by decide)
    have k2 : (y + 15485867 * (z + 1)) ^ 5 % 2147483647 < 2147483647 := Int.emod_lt_of_pos _ (by decide)
    generalize (y + 15485867 * (z + 1)) ^ 5 % 2147483647 = u at k1 k2 ⊢
    omega
  · exact Fz.here (h _ _ (Int.emod_nonneg _ (by omega)) (Int.emod_lt_of_pos _ s0) (KpM.put nofun) ⟨x, y, z + 1, mput_same, hx, hy, hy2, by omega, by rw [p38]; omega⟩)
def sp_law_one : DSp := fun ds M P _ => ∃ (a : Addr) (xs : List D) (n : Nat), ds = [.ref a, .lst xs] ∧ 0 < xs.length ∧ xs.length < 1000000 ∧ DeckAt M a (n + 1) ∧ ∀ x M', x ∈ xs → KpM a M M' → DeckAt M' a n → P x M'
theorem atI_mem {xs : List D} {r : Int} (h0 : 0 ≤ r) (h1 : r < xs.length) : ∃ x ∈ xs, atI xs r = some x := by
  have h3 : r.toNat < xs.length := by omega
  refine ⟨xs[r.toNat], List.getElem_mem _, ?_⟩
  unfold atI ixN
  rw [if_pos h0, if_pos h1]
  show xs[_]? = _
  rw [List.getElem?_eq_getElem h3]
theorem l_law_one (ds : List D) (M : Mem) (P : D → Mem → Prop) (PX : DX) (h : sp_law_one ds M P PX) : t_law_one sp_law_pick PX (dEnds P) (dstart ["_law_deck_here", "_law_some"] ds) M := by
  obtain ⟨a, xs, n, rfl, s0, s1, hd, h⟩ := h
  simp [t_law_one, dRet, dBin, dCall, dCons, dNil, dVar, dApp, gLen, dEnds, dstart]
  refine ⟨a, xs.length, n, rfl, by omega, by omega, hd, fun r M' r0 r1 kp hd' => ?_⟩
  obtain ⟨x, hx, e⟩ := atI_mem r0 r1
  simp only [gIx, e]
  exact Fz.here (h x M' hx kp hd')
/-! ### texts -/
theorem teeth_lt : (teeth.map fun c => sN [c]).Pairwise leT := by
  unfold teeth leT
  decide +kernel
theorem set_canon {l : List Nat} {xs : List Str} (hl : ∀ c ∈ l, c ∈ teeth) (hx : ∀ y, y ∈ xs ↔ ∃ c ∈ l, y = sN [c]) : srtT (setT xs) = (canon l).map fun c => sN [c] := by
  have sub : ((canon l).map fun c => sN [c]).Sublist (teeth.map fun c => sN [c]) := (List.filter_sublist).map _
  have srt : ((canon l).map fun c => sN [c]).Pairwise leT := teeth_lt.sublist sub
  have nd : ((canon l).map fun c => sN [c]).Nodup := List.Nodup.sublist sub (by decide +kernel)
  have pm : (setT xs).Perm ((canon l).map fun c => sN [c]) := by
    refine (List.perm_ext_iff_of_nodup (nodup_setT xs) nd).mpr fun y => ?_
    rw [mem_setT, hx, List.mem_map]
    constructor
    · rintro ⟨c, hc, rfl⟩
      exact ⟨c, List.mem_filter.mpr ⟨hl c hc, by simpa using hc⟩, rfl⟩
    · rintro ⟨c, hc, rfl⟩
      exact ⟨c, by simpa using (List.mem_filter.mp hc).2, rfl⟩
  exact List.Perm.eq_of_pairwise (le := leT) (fun _ _ _ _ a b => leT_anti a b) (srtT_sorted _) srt ((srtT_perm _).trans pm)
end DL

set_option Elab.async false
set_option linter.all false
set_option maxRecDepth 100000
set_option maxHeartbeats 4000000
namespace DL
open PySem PySem.Spec PyProof.Rows L2
/-- a list that is made while the store changes: Inv of what is left -/
theorem compL_dec {vs : List Nat} {g : DTG} {tt : DTT} {te : DTE} {ds : DSt} {Q : List D → Mem → Prop} (Inv : Nat → List D → Mem → Prop) : ∀ (xs acc : List D) (M : Mem),
    (∀ x ∈ xs, ∀ (k : Nat) (acc : List D) (M : Mem), Inv (k + 1) acc M → ∀ R : Option D → Mem → Prop, (∀ y M', Inv k (acc ++ [y]) M' → R (some y) M') → g x (dwipe ds vs) M fun ds2 M2 => tt ds2 M2 fun b M3 => (b = true → te ds2 M3 fun y M4 => R (some y) M4) ∧ (b = false → R none M3)) →
    Inv xs.length acc M → (∀ ys M', Inv 0 ys M' → Q ys M') → compL vs g tt te ds Q xs acc M
  | [], acc, M, _, i, q => q acc M i
  | x :: r, acc, M, h, i, q => by
    refine h x List.mem_cons_self r.length acc M i (fun o M' => match o with | some y => compL vs g tt te ds Q r (acc ++ [y]) M' | none => compL vs g tt te ds Q r acc M') fun y M' i' => ?_
    exact compL_dec Inv r (acc ++ [y]) M' (fun y hy => h y (List.mem_cons_of_mem _ hy)) i' q
theorem forL_dec {g : DTG} {tb : DTS} {W : DEnds} (Inv : Nat → DSt → Mem → Prop) : ∀ (xs : List D) (ds : DSt) (M : Mem),
    (∀ x ∈ xs, ∀ k ds M, Inv (k + 1) ds M → ∀ Nx : DSt → Mem → Prop, (∀ ds M, Inv k ds M → Nx ds M) → g x ds M fun ds1 M1 => tb { nx := Nx, rt := W.rt, bk := W.nx, ct := Nx } ds1 M1) →
    Inv xs.length ds M → (∀ ds M, Inv 0 ds M → W.nx ds M) → forL g tb W xs ds M
  | [], ds, M, _, i, q => q ds M i
  | x :: r, ds, M, h, i, q => by
    refine h x List.mem_cons_self r.length ds M i _ fun ds2 M2 i2 => ?_
    exact forL_dec Inv r ds2 M2 (fun y hy => h y (List.mem_cons_of_mem _ hy)) i2 q
theorem canon_idem (l : List Nat) : canon (canon l) = canon l := by
  unfold canon
  refine List.filter_congr fun c hc => ?_
  simp [hc]
theorem canon_teeth {l : List Nat} (h : canon l = l) : ∀ c ∈ l, c ∈ teeth := fun c hc => by
  rw [← h] at hc
  exact (List.mem_filter.mp hc).1
theorem strsOf_str (l : List Str) : strsOf (l.map D.str) = some l := by
  have := strsOf_sD (l.map fun z => z.cps.toList)
  simp only [List.map_map, Function.comp_def, sN_tl, List.map_id'] at this
  exact this
theorem join_canon {l : List Nat} {xs : List Str} {P : Str → Prop} (hl : ∀ c ∈ l, c ∈ teeth) (hx : ∀ y, y ∈ xs ↔ ∃ c ∈ l, y = sN [c]) (h : P (sN (canon l))) : joinD (sN []) ((srtT (setT xs)).map D.str) P := by
  rw [set_canon hl hx, List.map_map]
  exact join_chars (Nat.le_trans (canon_len l) (by decide)) h
def sp_law_some_teeth : DSp := fun ds M P _ => ∃ (a : Addr) (n : Nat), ds = [.ref a] ∧ DeckAt M a (n + 10) ∧ ∀ l M', canon l = l → KpM a M M' → DeckAt M' a n → P (sD l) M'
theorem l_law_some_teeth (ds : List D) (M : Mem) (P : D → Mem → Prop) (PX : DX) (h : sp_law_some_teeth ds M P PX) : t_law_some_teeth sp_law_one PX (dEnds P) (dstart ["_law_deck_here", "_law_size", "_law_turn"] ds) M := by
  obtain ⟨a, n, rfl, hd, h⟩ := h
  simp [t_law_some_teeth, dSeq, dSet, dCall, dCons, dNil, dVar, dC, dLst, dEnds, dstart]
  refine ⟨by rw [sizeLine_eq]; omega, a, _, n + 9, rfl, by simp, by simp, hd, fun x M1 hx kp hd1 => ?_⟩
  obtain ⟨N, rfl, hN⟩ : ∃ N : Nat, x = .int N ∧ N ≤ 3 := by
    simp at hx
    rcases hx with rfl | rfl | rfl | rfl
    · exact ⟨0, rfl, by omega⟩
    · exact ⟨1, rfl, by omega⟩
    · exact ⟨2, rfl, by omega⟩
    · exact ⟨3, rfl, by omega⟩
  simp [dRet, dJoin, dC, dSrtSet, dComp, dRng1, dCons, dNil, dVar]
  refine ⟨by omega, by rw [sizeLine_eq]; simp [upto]; omega, ?_⟩
  refine compL_dec (fun k acc M' => ∃ l : List Nat, acc = (l.map fun c => D.str (sN [c])) ∧ l.length + k = N ∧ (∀ c ∈ l, c ∈ teeth) ∧ KpM a M M' ∧ DeckAt M' a (n + k)) _ [] M1 (fun x hx k acc M2 hI R hR => ?_) ?_ ?_
  · obtain ⟨l, rfl, hl, ht, kp2, hd2⟩ := hI
    simp [dgN, dYes, dCall, dCons, dNil, dVar, dC, dLst, dwipe]
    refine ⟨by rw [sizeLine_eq]; omega, a, _, n + k, rfl, by simp, by simp, hd2, fun y M3 hy kp3 hd3 => ?_⟩
    obtain ⟨c, rfl, hc⟩ : ∃ c, y = .str (sN [c]) ∧ c ∈ teeth := by
      simp at hy
      rcases hy with rfl | rfl | rfl | rfl
      · exact ⟨97, rfl, by decide⟩
      · exact ⟨98, rfl, by decide⟩
      · exact ⟨99, rfl, by decide⟩
      · exact ⟨100, rfl, by decide⟩
    refine hR _ M3 ⟨l ++ [c], by simp, by simp; omega, fun d hd => ?_, kp2.trans kp3, hd3⟩
    rcases List.mem_append.mp hd with hd | hd
    · exact ht d hd
    · rw [List.mem_singleton.mp hd]; exact hc
  · refine ⟨[], rfl, by simp [upto], (fun _ h => by cases h), kp, hd1.less (by simp [upto]; omega)⟩
  · rintro ys M2 ⟨l, rfl, hl, ht, kp2, hd2⟩
    have e : txts (.lst (l.map fun c => D.str (sN [c]))) = some (l.map fun c => sN [c]) := by
      have := strsOf_str (l.map fun c => sN [c])
      rw [List.map_map] at this
      exact this
    simp only [e]
    refine ⟨by simp [scanBound]; omega, ?_⟩
    refine join_canon (l := l) ht (fun y => ?_) (Fz.here (h (canon l) M2 (canon_idem l) kp2 (hd2.less (by omega))))
    simp [eq_comm]
end DL

set_option Elab.async false
set_option linter.all false
set_option maxRecDepth 100000
set_option maxHeartbeats 4000000
namespace DL
open PySem PySem.Spec PyProof.Rows L2
theorem KpM.putQ {a q : Addr} {M M' : Mem} {o : MO} (n : M q = none) (h : ∀ T, o ≠ .tabs T) (k : KpM a M M') : KpM a M (mput M' q (some o)) :=
  ⟨fun b hb hn => by
    have e : b ≠ q := fun e => hn (e ▸ n)
    rw [mput_ne e]; exact k.at_ b hb hn, fun b T e => by
    by_cases hb : b = q
    · subst hb; rw [mput_same] at e; exact absurd (Option.some.inj e) (h T)
    · rw [mput_ne hb] at e; exact k.tb b T e⟩
theorem DeckAt.put {M : Mem} {a q : Addr} {n : Nat} {o : Option MO} (h : DeckAt M a n) (hq : q ≠ a) : DeckAt (mput M q o) a n := by
  obtain ⟨x, y, z, e, r⟩ := h
  exact ⟨x, y, z, by rw [mput_ne (Ne.symm hq)]; exact e, r⟩
theorem cut_to {b : List D} {m : Int} (h1 : 1 ≤ m) (hb : b ≠ []) : ∃ k, cutD b none (some m) = b.take k ∧ 1 ≤ k ∧ (k : Int) ≤ m := by
  have e : cutD b none (some m) = b.take (min m.toNat b.length) := by
    have z : HT.sIx b.length b.length (some m) = min m.toNat b.length := by
      show (if m < 0 then _ else _) = _
      rw [if_neg (by omega)]
    unfold cutD
    rw [z]
    show List.take (_ - 0) (List.drop 0 b) = _
    simp
  have hl : 1 ≤ b.length := by
    cases b with
    | nil => exact absurd rfl hb
    | cons => simp
  exact ⟨_, e, by omega, by omega⟩
def sp_law_a_box : DSp := fun ds M P _ => ∃ (a : Addr) (most : Int) (n : Nat), ds = [.ref a, .int most] ∧ 1 ≤ most ∧ most ≤ 7 ∧ DeckAt M a (n + 300) ∧ ∀ k bs M', GBox k bs → (∀ b ∈ bs, (b.length : Int) ≤ most) → KpM a M M' → DeckAt M' a n → P (bxD k bs) M'
theorem l_law_a_box (ds : List D) (M : Mem) (P : D → Mem → Prop) (PX : DX) (h : sp_law_a_box ds M P PX) : t_law_a_box sp_law_pick sp_law_some_teeth sp_law_one PX (dEnds P) (dstart ["_law_deck_here", "_law_most", "_law_barrels_so", "_law_turn", "_law_barrel_so", "_law_tick_so"] ds) M := by
  obtain ⟨a, most, n, rfl, m0, m1, hd, h⟩ := h
  simp [t_law_a_box, dSeq, dSet, dLstH, dNil, dEnds, dstart]
  intro q nq
  have qa : q ≠ a := fun e => hd.some (e ▸ nq)
  simp [dFor, dRng1, dCons, dNil, dBin, dCall, dVar, dC, gAdd]
  refine ⟨a, 3, n + 298, rfl, by decide, by decide, (hd.put qa).less (by omega), fun r M1 r0 r1 kp1 hd1 => ?_⟩
  have kq : KpM a M (mput M q (some (.lst []))) := .putQ nq nofun .refl
  have eq1 : M1 q = some (.lst []) := by rw [kp1.at_ q qa (by rw [mput_same]; exact nofun), mput_same]
  refine ⟨by omega, ?_⟩
  obtain ⟨N, hN⟩ : ∃ N : Nat, (1 + r).toNat = N := ⟨_, rfl⟩
  rw [hN]
  refine forL_dec (fun k ds M' => ∃ (x3 x4 x5 : Option D) (bs : List Bar), ds = [some (.ref a), some (.int most), some (.ref q), x3, x4, x5] ∧ M' q = some (.lst (bs.map barD)) ∧ bs.length + k = N ∧ (∀ b ∈ bs, GBar b ∧ (b.length : Int) ≤ most) ∧ KpM a M M' ∧ DeckAt M' a (n + 10 + 90 * k)) _ _ M1 (fun x hx k ds M2 hI Nx hNx => ?_) ?_ ?_
  · obtain ⟨x3, x4, x5, bs, rfl, hq2, hl, hb, kp2, hd2⟩ := hI
    simp [dgN, dSeq, dSet, dApp, dCons, dNil, dComp, dRng1, dBin, dCall, dVar, dC, gAdd]
    refine ⟨a, most, n + 10 + 90 * k + 89, rfl, by omega, by omega, hd2.less (by omega), fun r2 M3 r20 r21 kp3 hd3 => ?_⟩
    refine ⟨by omega, by rw [sizeLine_eq]; simp [upto]; omega, ?_⟩
    obtain ⟨L, hL⟩ : ∃ L : Nat, (1 + r2).toNat = L := ⟨_, rfl⟩
    rw [hL]
    refine compL_dec (fun j acc M' => ∃ b : Bar, acc = b.map sD ∧ b.length + j = L ∧ (∀ i ∈ b, canon i = i) ∧ KpM a M3 M' ∧ DeckAt M' a (n + 10 + 90 * k + 10 + 10 * j)) _ [] M3 (fun y hy j acc M4 hI R hR => ?_) ?_ ?_
    · obtain ⟨b, rfl, hbl, hbc, kp4, hd4⟩ := hI
      simp [dgN, dYes, dCall, dCons, dNil, dVar, dwipe]
      refine ⟨a, n + 10 + 90 * k + 10 + 10 * j, rfl, hd4.less (by omega), fun l M5 hl5 kp5 hd5 => ?_⟩
      refine hR _ M5 ⟨b ++ [l], by simp, by simp; omega, fun i hi => ?_, kp4.trans kp5, hd5⟩
      rcases List.mem_append.mp hi with hi | hi
      · exact hbc i hi
      · rw [List.mem_singleton.mp hi]; exact hl5
    · exact ⟨[], rfl, by simp [upto], (fun _ h => by cases h), .refl, hd3.less (by simp [upto]; omega)⟩
    · rintro ys M4 ⟨b, rfl, hbl, hbc, kp4, hd4⟩
      have kp24 := kp3.trans kp4
      have eq4 : M4 q = some (.lst (bs.map barD)) := by rw [kp24.at_ q qa (by rw [hq2]; exact nofun), hq2]
      have hb1 : 1 ≤ b.length := by omega
      have hb7 : (b.length : Int) ≤ most := by omega
      have key : ∀ (b' : Bar) (M5 : Mem), 1 ≤ b'.length → (b'.length : Int) ≤ most → (∀ i ∈ b', canon i = i) → KpM a M4 M5 → DeckAt M5 a (n + 10 + 90 * k) → ∀ x3' x5' (W : DEnds), W.nx = Nx → dExpr (dAppend (dVar 2) (dVar 4)) W [some (.ref a), some (.int most), some (.ref q), x3', some (barD b'), x5'] M5 := by
        intro b' M5 g1 g2 g3 kp5 hd5 x3' x5' W hW
        have eq5 : M5 q = some (.lst (bs.map barD)) := by rw [kp5.at_ q qa (by rw [eq4]; exact nofun), eq4]
        simp [dExpr, dAppend, dVar, eq5]
        rw [hW]
        refine ⟨by rw [sizeLine_eq]; omega, hNx _ _ ⟨_, _, _, bs ++ [b'], rfl, by simp [mput_same], by simp; omega, fun c hc => ?_, .putQ nq nofun (kp2.trans (kp24.trans kp5)), hd5.put qa⟩⟩
        rcases List.mem_append.mp hc with hc | hc
        · exact hb c hc
        · rw [List.mem_singleton.mp hc]; exact ⟨⟨g1, by omega, g3⟩, g2⟩
      simp [gTuple, dIf, dAnd, dB, dBin, dCall, dCons, dNil, dVar, dC, dApp, gLen, gLt, gEq, dSkip, dSet, dSlice, dNoPart, dPart, gAdd]
      refine ⟨a, 6, n + 10 + 90 * k, rfl, by decide, by decide, hd4.less (by omega), fun r5 M5 r50 r51 kp5 hd5 => ?_⟩
      refine ⟨⟨rfl, rfl⟩, fun _ => ?_, fun _ => key b M5 hb1 hb7 hbc kp5 hd5 _ _ _ rfl⟩
      simp only [gI]
      refine ⟨fun _ => ⟨by rw [sizeLine_eq]; omega, ?_⟩, fun _ => key b M5 hb1 hb7 hbc kp5 hd5 _ _ _ rfl⟩
      obtain ⟨c, e, c1, c2⟩ := cut_to (b := (b ++ b).map sD) m0 (by
        intro z
        have := congrArg List.length z
        simp at this
        simp [this] at hb1)
      rw [← List.map_append, e, ← List.map_take]
      refine key ((b ++ b).take c) M5 ?_ ?_ (fun i hi => ?_) kp5 hd5 _ _ _ rfl
      · simp; omega
      · simp; omega
      · rcases List.mem_append.mp (List.mem_of_mem_take hi) with hi | hi
        · exact hbc i hi
        · exact hbc i hi
  · refine ⟨none, none, none, [], rfl, eq1, by simp [upto], (fun _ h => by cases h), kq.trans kp1, hd1.less (by simp [upto]; omega)⟩
  · rintro ds M2 ⟨x3, x4, x5, bs, rfl, hq2, hl, hb, kp2, hd2⟩
    simp [dRet, dTup, dCall, dCons, dNil, dVar, dC, dLst, dApp, gTuple]
    refine ⟨by rw [sizeLine_eq]; omega, a, _, n, rfl, by simp, by simp, hd2.less (by omega), fun y M3 hy kp3 hd3 => ?_⟩
    have eq3 : M3 q = some (.lst (bs.map barD)) := by rw [kp3.at_ q qa (by rw [hq2]; exact nofun), hq2]
    simp only [eq3]
    obtain ⟨k, rfl, k0, k1⟩ : ∃ k, y = .int k ∧ 0 ≤ k ∧ k ≤ 3 := by
      simp at hy
      rcases hy with rfl | rfl | rfl | rfl
      · exact ⟨0, rfl, by decide⟩
      · exact ⟨1, rfl, by decide⟩
      · exact ⟨2, rfl, by decide⟩
      · exact ⟨3, rfl, by decide⟩
    refine ⟨by rw [sizeLine_eq]; simp, Fz.here (h k bs M3 ⟨k0, k1, by omega, by omega, fun b hb' => (hb b hb').1⟩ (fun b hb' => (hb b hb').2) (kp2.trans kp3) hd3)⟩
/-! starts, plucks -/
def sp_law_a_start : DSp := fun ds M P _ => ∃ (a : Addr) (k : Int) (bs : List Bar) (n : Nat), ds = [.ref a, bxD k bs] ∧ (∀ b ∈ bs, GBar b) ∧ bs.length ≤ 3 ∧ DeckAt M a (n + 3) ∧ ∀ ss M', GSt bs ss → KpM a M M' → DeckAt M' a n → P (stD ss) M'
theorem start_comp {a : Addr} {k : Int} {bs0 : List Bar} {n : Nat} {Q : List D → Mem → Prop} {te : DTE} (hte : ∀ (b : Bar) M P, te [some (.ref a), some (bxD k bs0), some (barD b)] M P = sp_law_pick [.ref a, .int b.length] M P DX0) : ∀ (bs : List Bar) (acc : List D) (M : Mem), (∀ b ∈ bs, GBar b) → DeckAt M a (n + bs.length) → (∀ ss M', GSt bs ss → KpM a M M' → DeckAt M' a n → Q (acc ++ ss.map D.int) M') →
    compL [2] (dgN 2) dYes te [some (.ref a), some (bxD k bs0), none] Q (bs.map barD) acc M
  | [], acc, M, _, hd, q => by
    have := q [] M trivial .refl hd
    rw [List.map_nil, List.append_nil] at this
    exact this
  | b :: bs, acc, M, hb, hd, q => by
    have g := hb b List.mem_cons_self
    show (true = true → te ((dwipe [some (D.ref a), some (bxD k bs0), none] [2]).set 2 (some (barD b))) M _) ∧ (true = false → _)
    refine ⟨fun _ => ?_, fun z => by cases z⟩
    show te [some (.ref a), some (bxD k bs0), some (barD b)] M _
    rw [hte]
    refine ⟨a, b.length, n + bs.length, rfl, by have := g.1; omega, by have := g.2.1; omega, hd, fun r M' r0 r1 kp hd' => ?_⟩
    refine start_comp hte bs _ M' (fun c hc => hb c (List.mem_cons_of_mem _ hc)) hd' fun ss M2 hs kp2 hd2 => ?_
    have := q (r :: ss) M2 ⟨⟨r0, by omega⟩, hs⟩ (kp.trans kp2) hd2
    rw [List.append_assoc]
    exact this
theorem l_law_a_start (ds : List D) (M : Mem) (P : D → Mem → Prop) (PX : DX) (h : sp_law_a_start ds M P PX) : t_law_a_start sp_law_pick PX (dEnds P) (dstart ["_law_deck_here", "_law_box_so", "_law_barrel_so"] ds) M := by
  obtain ⟨a, k, bs, n, rfl, hb, hz, hd, h⟩ := h
  simp [t_law_a_start, dRet, dApp, dCons, dNil, dComp, dIter, dBin, dVar, dC, gIx, atI, ixN, bxD, seqD, dEnds, dstart]
  refine ⟨by rw [sizeLine_eq]; omega, ?_⟩
  refine start_comp (n := n) (fun b M P => ?_) bs [] M hb (hd.less (by omega)) fun ss M' hs kp hd' => ?_
  · simp [dCall, dCons, dNil, dVar, dApp, gLen, barD]
  · exact Fz.here (h ss M' hs kp hd')
def sp_law_plucks : DSp := fun ds M P _ => ∃ (k : Int) (bs : List Bar) (ss : List Int) (t : Int), ds = [bxD k bs, stD ss, .int t] ∧ (∀ b ∈ bs, GBar b) ∧ bs.length ≤ 3 ∧ GSt bs ss ∧ P (.lst ((srtT ((picks bs ss t).flatten.map fun c => sN [c])).map D.str)) M
theorem GSt.at {t : Int} : ∀ {bs : List Bar} {ss : List Int} {i : Nat}, GSt bs ss → i < bs.length → ∃ b s, bs[i]? = some b ∧ ss[i]? = some s ∧ b ∈ bs ∧ 1 ≤ b.length ∧ (picks bs ss t).take (i + 1) = (picks bs ss t).take i ++ [pick b (s + t)]
  | b :: bs, s :: ss, 0, h, _ => ⟨b, s, rfl, rfl, List.mem_cons_self, by have := h.1; omega, rfl⟩
  | b :: bs, s :: ss, i + 1, h, hi => by
    obtain ⟨b', s', e1, e2, e3, e4, e5⟩ := GSt.at (t := t) (i := i) h.2 (by simpa using hi)
    exact ⟨b', s', e1, e2, List.mem_cons_of_mem _ e3, e4, by show pick b (s + t) :: (picks bs ss t).take (i + 1) = _; rw [e5]; rfl⟩
theorem atI_nat {α : Type} {xs : List α} {i : Nat} {x : α} (h : xs[i]? = some x) : atI xs (i : Int) = some x := by
  have hi : i < xs.length := by
    rw [List.getElem?_eq_some_iff] at h
    exact h.1
  unfold atI ixN
  rw [if_pos (by omega), if_pos (by omega)]
  show xs[_]? = _
  rw [Int.toNat_natCast]
  exact h
theorem pick_ok {b : Bar} {i : Int} (g : GBar b) : canon (pick b i) = pick b i := by
  have h1 : 0 ≤ i % (b.length : Int) := Int.emod_nonneg _ (by have := g.1; omega)
  have h2 : i % (b.length : Int) < b.length := Int.emod_lt_of_pos _ (by have := g.1; omega)
  refine g.2.2 _ ?_
  unfold pick
  rw [List.getD_eq_getElem?_getD, List.getElem?_eq_getElem (show (i % (b.length : Int)).toNat < b.length by omega)]
  exact List.getElem_mem _
theorem upto_at {n i : Nat} {x : D} (h : (upto 0 n)[i]? = some x) : x = .int i ∧ i < n := by
  have hi : i < n := by
    have := (List.getElem?_eq_some_iff.mp h).1
    simpa [upto] using this
  refine ⟨?_, hi⟩
  unfold upto at h
  rw [List.getElem?_map, List.getElem?_range hi] at h
  have := Option.some.inj h
  rw [← this]
  simp
theorem l_law_plucks (ds : List D) (M : Mem) (P : D → Mem → Prop) (PX : DX) (h : sp_law_plucks ds M P PX) : t_law_plucks PX (dEnds P) (dstart ["_law_box_so", "_law_start_so", "_law_tick_so", "_law_found", "_law_at", "_law_barrel_so"] ds) M := by
  obtain ⟨k, bs, ss, t, rfl, hb, hz, hg, h⟩ := h
  have hl := hg.len
  simp [t_law_plucks, dSeq, dSet, dFor, dLst, dNil, dRng1, dCons, dApp, dVar, gLen, stD, dEnds, dstart]
  refine ⟨by omega, ?_⟩
  refine forL_inv (fun i ds M' => ∃ (x4 x5 : Option D), ds = [some (bxD k bs), some (stD ss), some (.int t), some (.lst (((picks bs ss t).take i).flatten.map fun c => sD [c])), x4, x5] ∧ ((picks bs ss t).take i).flatten.length ≤ 4 * i ∧ M' = M) _ 0 _ M (fun i x hx ds M' hI Nx hNx => ?_) ⟨none, none, rfl, by simp, rfl⟩ ?_
  · obtain ⟨x4, x5, rfl, hlen, rfl⟩ := hI
    obtain ⟨ex, hi⟩ := upto_at hx
    rw [hl] at hi
    obtain ⟨b, s, e1, e2, e3, e4, e5⟩ := GSt.at (t := t) hg hi
    subst ex
    have a1 : atI (bs.map barD) (i : Int) = some (barD b) := atI_nat (by rw [List.getElem?_map, e1]; rfl)
    have a2 : atI (ss.map D.int) (i : Int) = some (.int s) := atI_nat (by rw [List.getElem?_map, e2]; rfl)
    have c1 : (pick b (s + t)).length ≤ 4 := canon_le _ (pick_ok (hb b e3))
    have a3 := atI_pick (b := b) (i := s + t) e4
    simp only [Nat.zero_add] at hlen hNx ⊢
    simp [dgN, dSeq, dSet, dBin, dApp, dCons, dNil, dVar, dC, gIx, ixN, bxD, stD, gInt1, gAdd, gMod, gIC, gLen, gList, -List.map_flatten, -List.length_flatten]
    simp [show ∀ y : D, atI [D.int k, y] 1 = some y from fun _ => rfl, a1, a2, barD]
    refine ⟨by omega, ?_⟩
    rw [a3]
    have hs := hlen
    simp at hs
    simp only [List.length_append, List.length_map, signs, List.size_toArray]
    refine ⟨by rw [sizeLine_eq]; omega, by rw [sizeLine_eq]; omega, ?_⟩
    refine hNx _ _ ⟨some (.int i), some (.tup (b.map sD)), ?_, ?_, rfl⟩
    · rw [e5, List.flatten_append, List.map_append]
      simp [bxD, stD, barD]
    · rw [e5, List.flatten_append, List.length_append]
      simp at hlen ⊢
      omega
  · rintro ds M' ⟨x4, x5, rfl, hlen, rfl⟩
    have eu : (upto 0 ss.length).length = (picks bs ss t).length := by rw [picks_len t hg]; simp [upto, hl]
    rw [Nat.zero_add, eu, List.take_length] at hlen ⊢
    rw [picks_len t hg] at hlen
    simp [dRet, dApp, dCons, dNil, dVar, gSorted, -List.map_flatten]
    have e := strsOf_str ((picks bs ss t).flatten.map fun c => sN [c])
    rw [List.map_map] at e
    have e' : strsOf ((picks bs ss t).flatten.map fun c => sD [c]) = some ((picks bs ss t).flatten.map fun c => sN [c]) := e
    rw [e']
    exact ⟨by rw [sizeLine_eq, List.length_map]; omega, Fz.here h⟩
def sp_law_heard : DSp := fun ds M P _ => ∃ (k : Int) (bs : List Bar) (ss : List Int) (t : Int), ds = [bxD k bs, stD ss, .int t] ∧ (∀ b ∈ bs, GBar b) ∧ bs.length ≤ 3 ∧ GSt bs ss ∧ P (sD (heard bs ss t)) M
theorem l_law_heard (ds : List D) (M : Mem) (P : D → Mem → Prop) (PX : DX) (h : sp_law_heard ds M P PX) : t_law_heard sp_law_plucks PX (dEnds P) (dstart ["_law_box_so", "_law_start_so", "_law_tick_so"] ds) M := by
  obtain ⟨k, bs, ss, t, rfl, hb, hz, hg, h⟩ := h
  simp [t_law_heard, dRet, dJoin, dC, dSrtSet, dCall, dCons, dNil, dVar, dEnds, dstart]
  refine ⟨k, bs, ss, t, rfl, hb, hz, hg, ?_⟩
  have e : txts (.lst ((srtT ((picks bs ss t).flatten.map fun c => sN [c])).map D.str)) = some (srtT ((picks bs ss t).flatten.map fun c => sN [c])) := strsOf_str _
  have p := picks_ok t hg hb
  simp only [e]
  refine ⟨?_, ?_⟩
  · rw [(srtT_perm _).length_eq, List.length_map, List.length_flatten]
    have := sum_le p
    rw [picks_len t hg] at this
    simp only [scanBound]
    omega
  · refine join_canon (l := (picks bs ss t).flatten) (fun c hc => ?_) (fun y => ?_) (Fz.here h)
    · obtain ⟨l, hl, hc⟩ := List.mem_flatten.mp hc
      exact canon_teeth (p l hl) c hc
    · rw [(srtT_perm _).mem_iff, List.mem_map]
      simp only [eq_comm]
end DL

set_option Elab.async false
set_option linter.all false
set_option maxRecDepth 100000
set_option maxHeartbeats 4000000
namespace DL
open PySem PySem.Spec PyProof.Rows L2
/-! ### same -/
mutual
theorem eqv_refl : ∀ a : D, PyData.eqv (py a) (py a) = true
  | .non => by simp [py, PyData.eqv]
  | .bl b => by simp [py, PyData.eqv]
  | .int b => by simp [py, PyData.eqv]
  | .str b => by simp [py, PyData.eqv]
  | .tup xs => by simp only [py, PyData.eqv]; exact eqvL_refl xs
  | .lst xs => by simp only [py, PyData.eqv]; exact eqvL_refl xs
  | .ref b => by simp [py, PyData.eqv]
  | .ty b => by simp [py, PyData.eqv]
theorem eqvL_refl : ∀ a : List D, PyData.eqvAll (pyL a) (pyL a) = true
  | [] => by simp [pyL, PyData.eqvAll]
  | d :: r => by simp only [pyL, PyData.eqvAll, eqv_refl d, eqvL_refl r, Bool.and_true]
end
theorem dq_refl (a : D) : dq a a = true := eqv_refl a
/-- small things: at most d deep -/
def dsm : Nat → D → Bool
  | _, .non => true
  | _, .bl _ => true
  | _, .int _ => true
  | _, .str x => PyData.strOk x
  | 0, .tup _ => false
  | 0, .lst _ => false
  | n + 1, .tup xs => decide (xs.length ≤ 1000000) && xs.all (dsm n)
  | n + 1, .lst xs => decide (xs.length ≤ 1000000) && xs.all (dsm n)
  | _, .ref _ => false
  | _, .ty _ => false
theorem dsm_dkn : ∀ (n : Nat) (v : D), dsm n v = true → dkn n v = true := by
  intro n
  induction n with
  | zero => intro v h; cases v <;> simp [dkn, dsm] at h ⊢; exact h
  | succ n ih =>
    intro v h
    cases v <;> simp [dkn, dsm] at h ⊢
    · exact h
    · exact fun x hx => ih x (h.2 x hx)
    · exact fun x hx => ih x (h.2 x hx)
def sortD : D → Int
  | .bl _ => 1
  | .int _ => 2
  | .str _ => 3
  | .lst _ => 4
  | .tup _ => 5
  | _ => 6
def sp_law_sort : DSp := fun ds M P _ => ∃ v, ds = [v] ∧ top v = true ∧ P (.int (sortD v)) M
theorem l_law_sort (ds : List D) (M : Mem) (P : D → Mem → Prop) (PX : DX) (h : sp_law_sort ds M P PX) : t_law_sort PX (dEnds P) (dstart ["_law_thing"] ds) M := by
  obtain ⟨v, rfl, ht, h⟩ := h
  have h' := Fz.here h
  cases v <;> simp [t_law_sort, dRet, dRetN, dSkip, dSeq, dExpr, dSet, dIf, dAsg, dPar, dgT, dgN, dgCons, dgNil, dgSub, dVar, dC, dUn, dBin, dNil, dCons, dApp, dB, dAnd, dOr, dNot, dAndV, dOrV, dNotV, dIfE, dChain, dTup, dLst, dLstH, dCall, dRaise, dFor, dIter, dRng1, dRng2, dZip, dEnum, dComp, dYes, dJoin, dSlice, dPart, dNoPart, dAppend, dSrtSet, dLenSet, dSplit, dZipE, dEnds, dstart, dst, dwipe, gI, gIC, gMod, gDiv, gSub, gPow, gNeg, gLt, gLe, gGt, gGe, gEq, gNe, gIsN, gNotN, gAdd, gMul, gIx, gLen, gIsi, gInt1, gTuple, gList, gSorted, gIn, gAll, gAny, dFrz, gMax2, gMin2, dComp2, isiN, isiB, top, sortD] at ht h' ⊢ <;> exact h'
def sp_law_same (d : Nat) : DSp := fun ds M P _ => ∃ a, ds = [a, a] ∧ dsm d a = true ∧ P (.bl true) M
theorem top_lst {xs : List D} : top (.lst xs) = true := rfl
theorem sort_call {v : D} {M : Mem} {P : D → Mem → Prop} {PX : DX} (h : top v = true) (q : P (.int (sortD v)) M) : sp_law_sort [v] M P PX := ⟨v, rfl, h, q⟩
theorem enum_mem {xs : List D} {x : D} (h : x ∈ enumD xs) : ∃ (i : Nat) (y : D), x = .tup [.int i, y] ∧ y ∈ xs ∧ atI xs i = some y := by
  obtain ⟨j, hj⟩ := List.getElem?_of_mem h
  obtain ⟨y, hy, e⟩ := enumD_at hj
  exact ⟨j, y, e, List.mem_of_getElem? hy, atI_nat hy⟩
theorem filterMap_none {xs : List D} : xs.filterMap (fun _ : D => (none : Option D)) = [] := by
  induction xs with
  | nil => rfl
  | cons x r ih => rw [List.filterMap_cons]; exact ih
theorem l_law_same {rec : DSp} (d : Nat) (hd : d ≤ 60) (hr : ∀ x M P PX, dsm (d - 1) x = true → 0 < d → P (.bl true) M → rec [x, x] M P PX) (ds : List D) (M : Mem) (P : D → Mem → Prop) (PX : DX) (h : sp_law_same d ds M P PX) : t_law_same sp_law_sort rec PX (dEnds P) (dstart ["_law_told", "_law_due", "_law_k", "_law_part"] ds) M := by
  obtain ⟨v, rfl, hs, h⟩ := h
  have h' := Fz.here h
  have hk := dkn_mono d 64 v (by omega) (dsm_dkn d v hs)
  have ht := dkn_top hk
  have e0 : dq (.int (sortD v)) (.int (sortD v)) = true := dq_refl _
  have seq : ∀ xs : List D, (v = .tup xs ∨ v = .lst xs) → ∃ n, d = n + 1 ∧ xs.length ≤ 1000000 ∧ ∀ x ∈ xs, dsm n x = true := by
    intro xs hx
    cases d with
    | zero => rcases hx with rfl | rfl <;> simp [dsm] at hs
    | succ n => rcases hx with rfl | rfl <;> simp [dsm] at hs <;> exact ⟨n, rfl, hs.1, hs.2⟩
  cases v with
  | tup xs =>
    obtain ⟨n, rfl, hl, hx⟩ := seq xs (.inl rfl)
    simp [t_law_same, dSeq, dIf, dAnd, dB, dCall, dCons, dNil, dVar, dC, dEnds, dstart, dBin, sp_law_sort, top_tup, sortD, gNe, gGt, gLt, gI, gIC, dkn, eqv_refl, dApp, gLen, dRet, dSkip]
    simp [dComp, dEnum, dCons, dNil, dVar]
    refine ⟨by rw [enumD_len, sizeLine_eq]; omega, ?_⟩
    refine compL_by (fun _ => none) _ [] (fun x hx' R hR => ?_) ?_
    · obtain ⟨i, y, rfl, hy, e⟩ := enum_mem hx'
      simp [dgT, dgCons, dgNil, dgN, dwipe, dNot, dB, dCall, dCons, dNil, dVar, dBin, gIx, e]
      refine hr y _ _ _ (hx y hy) (by omega) ?_
      simpa using hR
    · rw [filterMap_none]
      simp [dLst, dNil, gEq, dkn, eqv_refl]
      exact h'
  | lst xs =>
    obtain ⟨n, rfl, hl, hx⟩ := seq xs (.inr rfl)
    simp [t_law_same, dSeq, dIf, dAnd, dB, dCall, dCons, dNil, dVar, dC, dEnds, dstart, dBin, sp_law_sort, top_lst, sortD, gNe, gGt, gLt, gI, gIC, dkn, eqv_refl, dApp, gLen, dRet, dSkip]
    simp [dComp, dEnum, dCons, dNil, dVar]
    refine ⟨by rw [enumD_len, sizeLine_eq]; omega, ?_⟩
    refine compL_by (fun _ => none) _ [] (fun x hx' R hR => ?_) ?_
    · obtain ⟨i, y, rfl, hy, e⟩ := enum_mem hx'
      simp [dgT, dgCons, dgNil, dgN, dwipe, dNot, dB, dCall, dCons, dNil, dVar, dBin, gIx, e]
      refine hr y _ _ _ (hx y hy) (by omega) ?_
      simpa using hR
    · rw [filterMap_none]
      simp [dLst, dNil, gEq, dkn, eqv_refl]
      exact h'
  | _ =>
    simp [t_law_same, dRet, dRetN, dSkip, dSeq, dExpr, dSet, dIf, dAsg, dPar, dgT, dgN, dgCons, dgNil, dgSub, dVar, dC, dUn, dBin, dNil, dCons, dApp, dB, dAnd, dOr, dNot, dAndV, dOrV, dNotV, dIfE, dChain, dTup, dLst, dLstH, dCall, dRaise, dFor, dIter, dRng1, dRng2, dZip, dEnum, dComp, dYes, dJoin, dSlice, dPart, dNoPart, dAppend, dSrtSet, dLenSet, dSplit, dZipE, dEnds, dstart, dst, dwipe, gI, gIC, gMod, gDiv, gSub, gPow, gNeg, gLt, gLe, gGt, gGe, gEq, gNe, gIsN, gNotN, gAdd, gMul, gIx, gLen, gIsi, gInt1, gTuple, gList, gSorted, gIn, gAll, gAny, dFrz, gMax2, gMin2, dComp2, sp_law_sort, sortD, top, dkn, eqv_refl] at hk ht h' ⊢
    try exact h'
    try exact ⟨hk, h'⟩
/-! kin -/
def words : List (List Nat) := [[98, 111, 120], [98, 101, 103, 105, 110, 110, 105, 110, 103], [116, 105, 99, 107], [116, 111, 111, 116, 104], [102, 97, 99, 116, 115], [110, 117, 109, 98, 101, 114], [105, 110, 100, 101, 120], [110, 111, 110, 101], [117, 110, 108, 105, 107, 101], [117, 110, 100, 111], [109, 97, 110, 121], [116, 101, 120, 116], [43]]
def kinF : D → Option D := fun x => match x with | .tup [l, .bl true] => some l | _ => none
def kinL (fs : List Bool) : List (List Nat) := ((words.zip fs).filter (·.2)).map (·.1)
/-- the flags, then the label -/
def sp_law_kin (cs : List D) : DSpE := fun g ds M P => ∃ (a : Addr) (fs : List Bool), ds = [.ref a] ∧ fs.length = 13 ∧ (∀ (i : Nat) (c : D) (f : Bool), cs[i]? = some c → fs[i]? = some f → ∀ (M : Mem) (Q : D → Mem → Prop), Q (.bl f) M → g [.ref a, c] M Q) ∧ P (.str (Txt.join (sN [32]) ((kinL fs).map sN))) M
theorem kin_map : ∀ (ws : List (List Nat)) (fs : List Bool), (zipD (ws.map sD) (fs.map D.bl)).filterMap kinF = (((ws.zip fs).filter (·.2)).map (·.1)).map sD
  | [], fs => by simp [zipD]
  | w :: ws, [] => by simp [zipD]
  | w :: ws, f :: fs => by
    show List.filterMap kinF (.tup [sD w, .bl f] :: zipD (ws.map sD) (fs.map D.bl)) = _
    rw [List.filterMap_cons, kin_map ws fs]
    cases f <;> simp [kinF]
theorem kin_len : ∀ (ws : List (List Nat)) (fs : List Bool), ((((ws.zip fs).filter (·.2)).map (·.1)).map List.length).sum ≤ (ws.map List.length).sum ∧ (((ws.zip fs).filter (·.2)).map (·.1)).length ≤ ws.length
  | [], fs => by simp
  | w :: ws, [] => by simp
  | w :: ws, f :: fs => by
    have := kin_len ws fs
    cases f <;> simp at this ⊢ <;> omega
theorem splitW : Txt.split (Str.ofString "box beginning tick tooth facts number index none unlike undo many text +") (Str.ofString " ") = words.map sN := by decide +kernel
theorem l_law_kin {c1 c2 c3 c4 c5 c6 c7 c8 c9 c10 c11 c12 : D} (g : DOL) (ds : List D) (M : Mem) (P : D → Mem → Prop) (h : sp_law_kin [c3, c2, c1, c6, c5, c4, c9, c8, c7, c12, c11, c10, .ty "ValueError"] g ds M P) :
    t_law_kin c1 c2 c3 c4 c5 c6 c7 c8 c9 c10 c11 c12 g (dEnds P) (dstart ["_law_e", "_law_sorts", "_law_labels", "_law_label", "_law_good"] ds) M := by
  obtain ⟨a, fs, rfl, hf, hg, h⟩ := h
  match fs, hf with
  | [f1, f2, f3, f4, f5, f6, f7, f8, f9, f10, f11, f12, f13], _ =>
    have k1 := hg 0 _ _ rfl rfl
    have k2 := hg 1 _ _ rfl rfl
    have k3 := hg 2 _ _ rfl rfl
    have k4 := hg 3 _ _ rfl rfl
    have k5 := hg 4 _ _ rfl rfl
    have k6 := hg 5 _ _ rfl rfl
    have k7 := hg 6 _ _ rfl rfl
    have k8 := hg 7 _ _ rfl rfl
    have k9 := hg 8 _ _ rfl rfl
    have k10 := hg 9 _ _ rfl rfl
    have k11 := hg 10 _ _ rfl rfl
    have k12 := hg 11 _ _ rfl rfl
    have k13 := hg 12 _ _ rfl rfl
    have z : ∀ n : Nat, n ≤ 20 → n ≤ sizeLine := fun n h => by rw [sizeLine_eq]; omega
    simp [t_law_kin, dSeq, dSet, dLst, dBin, dApp, dCons, dNil, dVar, dC, dEnds, dstart]
    refine k1 _ _ (k2 _ _ (k3 _ _ ?_))
    refine ⟨z _ (by decide), ?_⟩
    refine k4 _ _ (k5 _ _ (k6 _ _ ?_))
    simp [gAdd]
    refine ⟨z _ (by decide), z _ (by decide), ?_⟩
    refine k7 _ _ (k8 _ _ (k9 _ _ ?_))
    refine ⟨z _ (by decide), z _ (by decide), ?_⟩
    refine k10 _ _ (k11 _ _ (k12 _ _ ?_))
    refine ⟨z _ (by decide), z _ (by decide), ?_⟩
    refine k13 _ _ ?_
    refine ⟨z _ (by decide), z _ (by decide), ?_⟩
    simp [dRet, dJoin, dComp, dZipE, dSplit, dCons, dNil, dVar, dC]
    rw [splitW, List.map_map]
    refine ⟨⟨by decide +kernel, by rw [sizeLine_eq]; decide +kernel⟩, by decide, by rw [sizeLine_eq]; simp [zipD, words], ?_⟩
    refine compL_by kinF _ [] (fun x hx R hR => ?_) ?_
    · obtain ⟨u, v, rfl, _, hv⟩ := zipD_mem hx
      obtain ⟨f, rfl⟩ : ∃ f, v = .bl f := by
        simp only [List.mem_cons, List.not_mem_nil, or_false] at hv
        rcases hv with rfl | rfl | rfl | rfl | rfl | rfl | rfl | rfl | rfl | rfl | rfl | rfl | rfl <;> exact ⟨_, rfl⟩
      simp [dgT, dgCons, dgNil, dgN, dB, dVar, dwipe]
      cases f with
      | true => simpa [kinF] using hR
      | false => simpa [kinF] using hR
    · have e := kin_map words [f1, f2, f3, f4, f5, f6, f7, f8, f9, f10, f11, f12, f13]
      rw [List.nil_append]
      show joinD _ (List.filterMap kinF (zipD (words.map sD) ([f1, f2, f3, f4, f5, f6, f7, f8, f9, f10, f11, f12, f13].map D.bl))) _
      rw [e]
      unfold joinD
      rw [strsOf_sD]
      refine ⟨?_, Fz.here h⟩
      have b := kin_len words [f1, f2, f3, f4, f5, f6, f7, f8, f9, f10, f11, f12, f13]
      have b1 : (words.map List.length).sum = 60 := by decide
      have b2 : words.length = 13 := by decide
      have zz : (List.map (fun x => x.length) ((kinL [f1, f2, f3, f4, f5, f6, f7, f8, f9, f10, f11, f12, f13]).map sN)).sum = ((kinL [f1, f2, f3, f4, f5, f6, f7, f8, f9, f10, f11, f12, f13]).map List.length).sum := by rw [List.map_map]; rfl
      have b3 : (Str.ofString " ").length = 1 := by decide +kernel
      unfold kinL at zz
      rw [zz, b3, List.length_map]
      omega
/-! known -/
def bxK1 : D := bxD 0 [[[97], [98]]]
def bxK2 : D := bxD 1 [[[97], [], [98]], [[98], []]]
def bxK3 : D := bxD 0 [[[97, 98]], [[99], [], [99], []]]
def bxK4 : D := bxD 0 [[[], []]]
def sp_law_known : DSp := fun ds M P _ => ds = [] ∧ P (.tup [bxK1, bxK2, bxK3, bxK4]) M
theorem l_law_known (ds : List D) (M : Mem) (P : D → Mem → Prop) (PX : DX) (h : sp_law_known ds M P PX) : t_law_known PX (dEnds P) (dstart ["_law_one_here", "_law_two"] ds) M := by
  obtain ⟨rfl, h⟩ := h
  have h' := Fz.here h
  have z : ∀ n : Nat, n ≤ 20 → n ≤ sizeLine := fun n h => by rw [sizeLine_eq]; omega
  simp [t_law_known, dRet, dRetN, dSkip, dSeq, dExpr, dSet, dIf, dAsg, dPar, dgT, dgN, dgCons, dgNil, dgSub, dVar, dC, dUn, dBin, dNil, dCons, dApp, dB, dAnd, dOr, dNot, dAndV, dOrV, dNotV, dIfE, dChain, dTup, dLst, dLstH, dCall, dRaise, dFor, dIter, dRng1, dRng2, dZip, dEnum, dComp, dYes, dJoin, dSlice, dPart, dNoPart, dAppend, dSrtSet, dLenSet, dSplit, dZipE, dEnds, dstart, dst, dwipe, gI, gIC, gMod, gDiv, gSub, gPow, gNeg, gLt, gLe, gGt, gGe, gEq, gNe, gIsN, gNotN, gAdd, gMul, gIx, gLen, gIsi, gInt1, gTuple, gList, gSorted, gIn, gAll, gAny, dFrz, gMax2, gMin2, dComp2, z]
  exact h'
end DL

set_option Elab.async false
set_option linter.all false
set_option maxRecDepth 100000
set_option maxHeartbeats 4000000
namespace DL
open PySem PySem.Spec PyProof.Rows L2
abbrev GR : Int := 1000000000000000000000000000000
theorem dq_nil (xs : List D) : dq (.lst xs) (.lst []) = decide (xs = []) := by
  cases xs <;> simp [dq, py, pyL, PyData.eqv, PyData.eqvAll]
theorem dkn_nats (l : List Nat) : dkn 64 (natsD l) = true := by
  simp [natsD, dkn]
theorem dsm_int (n : Nat) (i : Int) : dsm n (.int i) = true := by cases n <;> rfl
theorem dsm_bl (n : Nat) (i : Bool) : dsm n (.bl i) = true := by cases n <;> rfl
theorem dsm_non (n : Nat) : dsm n .non = true := by cases n <;> rfl
theorem dkn_int (n : Nat) (i : Int) : dkn n (.int i) = true := by cases n <;> rfl
theorem dkn_bl (n : Nat) (i : Bool) : dkn n (.bl i) = true := by cases n <;> rfl
theorem dkn_non (n : Nat) : dkn n .non = true := by cases n <;> rfl
/-! ### count_sounds -/
theorem tick_cnt (bs : List Bar) (ss : List Int) (c n : Nat) : (tickL bs ss c n).length = cnt (fun j : Nat => decide (c ∈ heard bs ss j)) n := rfl
theorem tick_per (bs : List Bar) (ss : List Int) (c : Nat) (j : Nat) : (decide (c ∈ heard bs ss ((j + perN bs : Nat) : Int))) = decide (c ∈ heard bs ss j) := by
  rw [Int.natCast_add, heard_per]
theorem tick_div {bs : List Bar} (ss : List Int) (c m : Nat) (h : 0 < perN bs) : (tickL bs ss c m).length = m / perN bs * (tickL bs ss c (perN bs)).length + ((tickL bs ss c (perN bs)).filter fun t => decide (t < m % perN bs)).length := by
  rw [tick_cnt, cnt_div _ _ (tick_per bs ss c) m]
  congr 1
  unfold tickL
  rw [filter_lt _ _ _ (Nat.le_of_lt (Nat.mod_lt _ h))]
  rfl
theorem tick_len (bs : List Bar) (ss : List Int) (c n : Nat) : (tickL bs ss c n).length ≤ n := by
  unfold tickL
  exact Nat.le_trans (List.length_filter_le _ _) (by simp)
theorem tick_lt {bs : List Bar} {ss : List Int} {c n t : Nat} (h : t ∈ tickL bs ss c n) : t < n ∧ c ∈ heard bs ss t := by
  unfold tickL at h
  obtain ⟨h1, h2⟩ := List.mem_filter.mp h
  exact ⟨List.mem_range.mp h1, by simpa using h2⟩
def sp_count_sounds (eB eS eO eN : Addr) (G : Int) : DSp := fun ds M P PX => ∃ b s o n, ds = [b, s, o, n] ∧ dkn 50 b = true ∧ dkn 50 s = true ∧ dkn 50 o = true ∧ top n = true ∧
  ((isBox b = false ∧ PX (.ref eB) none M) ∨ ∃ k bs, b = bxD k bs ∧ GBox k bs ∧ ((beg (bs.map barD) s = false ∧ PX (.ref eS) none M) ∨ ∃ ss, s = stD ss ∧ GSt bs ss ∧
    ((isO o = false ∧ PX (.ref eO) none M) ∨ ∃ c, o = sD [c] ∧ c ∈ teeth ∧ ((isW n 0 G = false ∧ PX (.ref eN) none M) ∨ ∃ m : Nat, n = .int m ∧ (m : Int) ≤ G ∧ P (.int (tickL bs ss c m).length) M))))
theorem l_count_sounds {eB eS eO eN : Addr} {G : Int} (ds : List D) (M : Mem) (P : D → Mem → Prop) (PX : DX) (h : sp_count_sounds eB eS eO eN G ds M P PX) :
    t_count_sounds (sp_need_box eB) (sp_need_beginning eS) (sp_need_tooth eO) (sp_need_number eN) sp_period_of sp_ticks_of (.int G) PX (dEnds P) (dst 7 ds) M := by
  obtain ⟨b, s, o, n, rfl, kb, ks, ko, kn, h⟩ := h
  simp [t_count_sounds, dSeq, dExpr, dCall, dCons, dNil, dVar, dC, dEnds, dst, sp_need_box]
  refine ⟨dkn_mono 50 55 b (by omega) kb, ?_⟩
  rcases h with ⟨e, h⟩ | ⟨k, bs, rfl, gb, h⟩
  · exact .inl ⟨e, h⟩
  refine .inr ⟨isBox_of gb, ?_⟩
  have hz : bs.length ≤ 1000 := by have := gb.2.2.2.1; omega
  refine ⟨barD_tup, by simpa using hz, ks, ?_⟩
  rcases h with ⟨e, h⟩ | ⟨ss, rfl, gs, h⟩
  · exact .inl ⟨e, h⟩
  refine .inr ⟨beg_of gs, ?_⟩
  refine ⟨dkn_mono 50 60 o (by omega) ko, ?_⟩
  rcases h with ⟨e, h⟩ | ⟨c, rfl, hc, h⟩
  · exact .inl ⟨e, h⟩
  refine .inr ⟨isO_iff.mpr ⟨c, hc, rfl⟩, ?_⟩
  refine ⟨kn, ?_⟩
  rcases h with ⟨e, h⟩ | ⟨m, rfl, hm, h⟩
  · exact .inl ⟨e, h⟩
  refine .inr ⟨by simp [isW]; omega, ?_⟩
  have g := gb.bs
  have pp := perN_pos g
  have pl := perN_le g
  have tl := tick_len bs ss c (perN bs)
  simp [dAsg, dTup, dCall, dCons, dNil, dVar]
  refine ⟨k, bs, ss, c, rfl, g, gs, k, bs, rfl, g, by rw [sizeLine_eq]; omega, ?_⟩
  simp [dgT, dgCons, dgNil, dgN, dRet, dBin, dVar, dApp, dCons, dNil, natsD, gLen, gDiv, gIC, CDiv, gMul, CMul, dComp, dIter, seqD]
  refine ⟨⟨by omega, by omega⟩, by omega, by rw [sizeLine_eq]; omega, ?_⟩
  refine comp_1t (fun t : Nat => decide (t < m % perN bs)) (fun t => D.int t) _ (fun t ht R hR => ?_) (fun t ht e R hR => ?_) ?_
  · simp [dB, dBin, dVar, dwipe, gLt, gI, gMod, gIC]
    refine ⟨by omega, ?_⟩
    have e : (decide ((t : Int) < (m : Int) % (perN bs : Int))) = decide (t < m % perN bs) := by
      rw [decide_eq_decide]; omega
    rw [e]; exact hR
  · simpa [dVar, dwipe] using hR
  · simp [gAdd]
    have e := tick_div ss c m pp
    rw [e] at h
    have := Fz.here h
    simpa using this
/-! ### nth_sound -/
theorem filter_take : ∀ {T : List Nat} {r : Nat} (h : r < T.length), T.Pairwise (· < ·) → T.filter (fun t => decide (t < T[r])) = T.take r
  | x :: T, 0, _, p => by
    obtain ⟨p1, p2⟩ := List.pairwise_cons.mp p
    simp only [List.getElem_cons_zero, List.take_zero]
    refine List.filter_eq_nil_iff.mpr fun a ha => ?_
    rcases List.mem_cons.mp ha with rfl | ha
    · simp
    · have := p1 a ha
      simp; omega
  | x :: T, r + 1, h, p => by
    obtain ⟨p1, p2⟩ := List.pairwise_cons.mp p
    have h' : r < T.length := by simpa using h
    simp only [List.getElem_cons_succ, List.take_succ_cons]
    rw [List.filter_cons, if_pos (by simpa using p1 _ (List.getElem_mem h')), filter_take h' p2]
theorem tick_sorted (bs : List Bar) (ss : List Int) (c n : Nat) : (tickL bs ss c n).Pairwise (· < ·) := List.pairwise_lt_range.filter _
def nthN (bs : List Bar) (ss : List Int) (c m : Nat) : Nat := m / (tickL bs ss c (perN bs)).length * perN bs + (tickL bs ss c (perN bs)).getD (m % (tickL bs ss c (perN bs)).length) 0
def nthV (bs : List Bar) (ss : List Int) (c m : Nat) : D := if tickL bs ss c (perN bs) = [] then .non else .int (nthN bs ss c m)
def sp_nth_sound (eB eS eO eN : Addr) (G : Int) : DSp := fun ds M P PX => ∃ b s o n, ds = [b, s, o, n] ∧ dkn 50 b = true ∧ dkn 50 s = true ∧ dkn 50 o = true ∧ top n = true ∧
  ((isBox b = false ∧ PX (.ref eB) none M) ∨ ∃ k bs, b = bxD k bs ∧ GBox k bs ∧ ((beg (bs.map barD) s = false ∧ PX (.ref eS) none M) ∨ ∃ ss, s = stD ss ∧ GSt bs ss ∧
    ((isO o = false ∧ PX (.ref eO) none M) ∨ ∃ c, o = sD [c] ∧ c ∈ teeth ∧ ((isW n 0 G = false ∧ PX (.ref eN) none M) ∨ ∃ m : Nat, n = .int m ∧ (m : Int) ≤ G ∧ P (nthV bs ss c m) M))))
theorem l_nth_sound {eB eS eO eN : Addr} {G : Int} (ds : List D) (M : Mem) (P : D → Mem → Prop) (PX : DX) (h : sp_nth_sound eB eS eO eN G ds M P PX) :
    t_nth_sound (sp_need_box eB) (sp_need_beginning eS) (sp_need_tooth eO) (sp_need_number eN) sp_ticks_of sp_period_of (.int G) PX (dEnds P) (dst 5 ds) M := by
  obtain ⟨b, s, o, n, rfl, kb, ks, ko, kn, h⟩ := h
  simp [t_nth_sound, dSeq, dExpr, dCall, dCons, dNil, dVar, dC, dEnds, dst, sp_need_box]
  refine ⟨dkn_mono 50 55 b (by omega) kb, ?_⟩
  rcases h with ⟨e, h⟩ | ⟨k, bs, rfl, gb, h⟩
  · exact .inl ⟨e, h⟩
  refine .inr ⟨isBox_of gb, ?_⟩
  have hz : bs.length ≤ 1000 := by have := gb.2.2.2.1; omega
  refine ⟨barD_tup, by simpa using hz, ks, ?_⟩
  rcases h with ⟨e, h⟩ | ⟨ss, rfl, gs, h⟩
  · exact .inl ⟨e, h⟩
  refine .inr ⟨beg_of gs, ?_⟩
  refine ⟨dkn_mono 50 60 o (by omega) ko, ?_⟩
  rcases h with ⟨e, h⟩ | ⟨c, rfl, hc, h⟩
  · exact .inl ⟨e, h⟩
  refine .inr ⟨isO_iff.mpr ⟨c, hc, rfl⟩, ?_⟩
  refine ⟨kn, ?_⟩
  rcases h with ⟨e, h⟩ | ⟨m, rfl, hm, h⟩
  · exact .inl ⟨e, h⟩
  refine .inr ⟨by simp [isW]; omega, ?_⟩
  have g := gb.bs
  have pp := perN_pos g
  have pl := perN_le g
  have tl := tick_len bs ss c (perN bs)
  have h' := Fz.here h
  simp [dSet, dCall, dCons, dNil, dVar]
  refine ⟨k, bs, ss, c, rfl, g, gs, ?_⟩
  have dk := dkn_nats (tickL bs ss c (perN bs))
  unfold nthV at h'
  simp only [dIf, dB, dBin, dVar, dLst, dNil, gEq, dSkip, dRet, dC, List.getElem?_cons_succ, List.getElem?_cons_zero, List.length_nil]
  refine ⟨Nat.zero_le _, ⟨dk, by simp [dkn]⟩, ?_⟩
  have e0 : dq (natsD (tickL bs ss c (perN bs))) (.lst []) = decide (tickL bs ss c (perN bs) = []) := by
    unfold natsD
    rw [dq_nil]
    simp
  simp only [e0, decide_eq_true_eq, decide_eq_false_iff_not]
  refine ⟨fun e => by rw [if_pos e] at h'; exact h', fun e => ?_⟩
  rw [if_neg e] at h'
  have tp : 0 < (tickL bs ss c (perN bs)).length := List.length_pos_iff.mpr e
  simp [dApp, dCons, dNil, dVar, natsD, gLen, gDiv, gIC, CDiv, gMul, CMul, dCall]
  refine ⟨⟨by omega, by omega⟩, k, bs, rfl, g, ?_⟩
  dsimp only
  refine ⟨by omega, ?_⟩
  simp [gMod, gIC]
  refine ⟨tp, ?_⟩
  have hr : m % (tickL bs ss c (perN bs)).length < (tickL bs ss c (perN bs)).length := Nat.mod_lt _ tp
  have ea : atI ((tickL bs ss c (perN bs)).map fun j : Nat => D.int j) ((m : Int) % ((tickL bs ss c (perN bs)).length : Int)) = some (.int ((tickL bs ss c (perN bs)).getD (m % (tickL bs ss c (perN bs)).length) 0 : Nat)) := by
    have := atI_nat (xs := (tickL bs ss c (perN bs)).map fun j : Nat => D.int j) (i := m % (tickL bs ss c (perN bs)).length) (x := .int ((tickL bs ss c (perN bs)).getD (m % (tickL bs ss c (perN bs)).length) 0 : Nat)) (by
      rw [List.getElem?_map, List.getElem?_eq_getElem hr, List.getD_eq_getElem?_getD, List.getElem?_eq_getElem hr]; rfl)
    rw [← this]
    congr 1
  simp only [gIx, ea]
  simp [gAdd]
  unfold nthN at h'
  simpa using h'
theorem nth_ok {bs : List Bar} {ss : List Int} {c m : Nat} (h : 0 < perN bs) (e : tickL bs ss c (perN bs) ≠ []) : c ∈ heard bs ss (nthN bs ss c m) ∧ nthN bs ss c m / perN bs = m / (tickL bs ss c (perN bs)).length ∧
    nthN bs ss c m / perN bs * (tickL bs ss c (perN bs)).length + ((tickL bs ss c (perN bs)).filter fun t => decide (t < nthN bs ss c m % perN bs)).length = m := by
  have tp : 0 < (tickL bs ss c (perN bs)).length := List.length_pos_iff.mpr e
  have hr : m % (tickL bs ss c (perN bs)).length < (tickL bs ss c (perN bs)).length := Nat.mod_lt _ tp
  have hm := tick_lt (List.getElem_mem hr)
  have en : nthN bs ss c m = m / (tickL bs ss c (perN bs)).length * perN bs + (tickL bs ss c (perN bs))[m % (tickL bs ss c (perN bs)).length] := by
    unfold nthN
    rw [List.getD_eq_getElem?_getD, List.getElem?_eq_getElem hr]
    rfl
  have e1 : nthN bs ss c m / perN bs = m / (tickL bs ss c (perN bs)).length := by
    rw [en, Nat.mul_comm, Nat.mul_add_div h, Nat.div_eq_of_lt hm.1, Nat.add_zero]
  have e2 : nthN bs ss c m % perN bs = (tickL bs ss c (perN bs))[m % (tickL bs ss c (perN bs)).length] := by
    rw [en, Nat.mul_comm, Nat.mul_add_mod, Nat.mod_eq_of_lt hm.1]
  refine ⟨?_, e1, ?_⟩
  · rw [en, heard_mod]
    exact hm.2
  · rw [e1, e2, filter_take hr (tick_sorted bs ss c _), List.length_take, Nat.min_eq_left (Nat.le_of_lt hr), Nat.mul_comm]
    exact Nat.div_add_mod m _
end DL

set_option Elab.async false
set_option linter.all false
set_option maxRecDepth 100000
set_option maxHeartbeats 4000000
namespace DL
open PySem PySem.Spec PyProof.Rows L2
/-! ### tools for the laws' own loops -/
theorem cutD_mem {xs : List D} {lo hi : Option Int} {x : D} (h : x ∈ cutD xs lo hi) : x ∈ xs := List.mem_of_mem_drop (List.mem_of_mem_take h)
def TabOk (T : List (Addr × Str)) (Pt : Addr) (M : Mem) : Prop := M Pt = some (.tabs T) ∧ ∀ a T', M a = some (.tabs T') → T' = T
theorem TabOk.kp {T : List (Addr × Str)} {Pt a : Addr} {M M' : Mem} (h : TabOk T Pt M) (k : KpM a M M') (ha : a ≠ Pt) : TabOk T Pt M' :=
  ⟨by rw [k.at_ Pt (Ne.symm ha) (by rw [h.1]; exact nofun)]; exact h.1, fun b T' e => h.2 b T' (k.tb b T' e)⟩
theorem memT_ok {T : List (Addr × Str)} {Pt : Addr} : TabOk T Pt (memT Pt T) := ⟨by unfold memT; rw [if_pos rfl], fun a T' e => by
  unfold memT at e
  split at e
  · cases e; rfl
  · cases e⟩
theorem dkn_bx {k : Int} {bs : List Bar} (h : ∀ b ∈ bs, GBar b) : dkn 50 (bxD k bs) = true := by
  simp only [bxD, dkn, List.all_cons, List.all_nil, Bool.true_and, Bool.and_true, List.all_eq_true]
  intro x hx
  obtain ⟨b, hb, rfl⟩ := List.mem_map.mp hx
  simp only [barD, dkn, List.all_eq_true]
  intro y hy
  obtain ⟨l, hl, rfl⟩ := List.mem_map.mp hy
  have := canon_ok l
  rw [(h b hb).2.2 l hl] at this
  simpa [dkn] using this
theorem dkn_st {ss : List Int} : dkn 50 (stD ss) = true := by
  simp only [stD, dkn, List.all_eq_true]
  intro y hy
  obtain ⟨l, hl, rfl⟩ := List.mem_map.mp hy
  simp [dkn]
theorem dsm_s (l : List Nat) (n : Nat) : dsm n (sD (canon l)) = true := by
  have := canon_ok l
  cases n <;> simpa [dsm] using this
theorem beg_rep {bs : List Bar} {v : D} (h1 : 1 ≤ bs.length) (hv : ∀ b ∈ bs, beg1 (.tup [v, barD b]) = false) : beg (bs.map barD) (.tup (List.replicate bs.length [v]).flatten) = false := by
  cases bs with
  | nil => simp at h1
  | cons b r =>
    have e : (List.replicate (b :: r).length [v]).flatten = v :: (List.replicate r.length [v]).flatten := by simp [List.replicate_succ]
    rw [e]
    show (_ && (zipD (v :: _) (barD b :: r.map barD)).all beg1) = false
    rw [show zipD (v :: (List.replicate r.length [v]).flatten) (barD b :: r.map barD) = .tup [v, barD b] :: zipD (List.replicate r.length [v]).flatten (r.map barD) from rfl, List.all_cons, hv b List.mem_cons_self]
    simp
theorem rep_flat {v : D} (n : Nat) : (List.replicate n [v]).flatten = List.replicate n v := by simp
theorem dkn_rep {v : D} (n : Nat) (h : dkn 49 v = true) : dkn 50 (.tup (List.replicate n [v]).flatten) = true := by
  simp [dkn, h]
theorem forL_decW {g : DTG} {tb : DTS} {W : DEnds} (Inv : Nat → DSt → Mem → Prop) : ∀ (xs : List D) (ds : DSt) (M : Mem),
    (∀ x ∈ xs, ∀ k ds M, Inv (k + 1) ds M → ∀ V : DEnds, (∀ ds M, Inv k ds M → V.nx ds M) → V.rt = W.rt → g x ds M fun ds1 M1 => tb V ds1 M1) →
    Inv xs.length ds M → (∀ ds M, Inv 0 ds M → W.nx ds M) → forL g tb W xs ds M := fun xs ds M h i q =>
  forL_dec Inv xs ds M (fun x hx k ds M i Nx hN => h x hx k ds M i _ hN rfl) i q
section
variable {K : Fg} {mg : Str → Option Value} {sk : DSpE} {T : List (Addr × Str)} {Pt eB eS eT eN : Addr}
theorem px_try {e : Addr} {l : Str} {P : D → Mem → Prop} {M : Mem} (h : Lbl K mg sk e l) (q : P (.str l) M) : PXtry K mg sk P (.ref e) none M := ⟨rfl, e, l, rfl, h, q⟩
theorem try_ne {tb : DX → DTE} {l : Str} {e : Addr} {W : DEnds} {ds : DSt} {M : Mem} {st : DTS} (hM : TabOk T Pt M) (hL : Lbl K mg sk e l) (hl : PyData.strOk l = true) (h : ∀ (PX : DX) (P : D → Mem → Prop), PX (.ref e) none M → tb PX ds M P) (q : W.nx ds M) : dIf (dB (dBin gNe (dTry K mg sk T Pt tb) (dC (.str l)))) st dSkip W ds M := by
  simp only [dIf, dB, dBin, dTry, dC]
  refine ⟨hM, h _ _ (px_try hL ?_)⟩
  simp only [gNe, eqv_refl, Bool.not_true, Bool.false_eq_true, false_implies, true_implies, true_and]
  exact ⟨⟨by simpa [dkn] using hl, by simpa [dkn] using hl⟩, q⟩
theorem ne_skip {ta tb : DTE} {v : D} {W : DEnds} {ds : DSt} {M : Mem} {st : DTS} (hv : dkn 64 v = true) (ha : ∀ P : D → Mem → Prop, P v M → ta ds M P) (hb : ∀ P : D → Mem → Prop, P v M → tb ds M P) (q : W.nx ds M) : dIf (dB (dBin gNe ta tb)) st dSkip W ds M :=
  ha _ (hb _ ⟨⟨hv, hv⟩, by
    simp only [eqv_refl, Bool.not_true, Bool.false_eq_true, false_implies, true_implies, true_and]
    exact q⟩)
theorem eq_yes {ta tb : DTE} {v : D} {P : D → Mem → Prop} {ds : DSt} {M : Mem} (hv : dkn 64 v = true) (ha : ∀ P : D → Mem → Prop, P v M → ta ds M P) (hb : ∀ P : D → Mem → Prop, P v M → tb ds M P) (q : P (.bl true) M) : dBin gEq ta tb ds M P :=
  ha _ (hb _ ⟨⟨hv, hv⟩, by
    simp only [eqv_refl]
    exact q⟩)
end
theorem isBoxG (k : Int) (bs : List Bar) (h : isBox (bxD k bs) = true) : GBox k bs := by
  obtain ⟨k', bs', e, g⟩ := isBox_inv h
  have : k = k' ∧ bs = bs' := by
    unfold bxD at e
    injection e with e
    injection e with e1 e2
    injection e1 with e1
    injection e2 with e2 _
    injection e2 with e2
    refine ⟨e1, List.map_inj_right (f := barD) (fun x y h => ?_) |>.mp e2⟩
    unfold barD at h
    injection h with h
    refine List.map_inj_right (f := sD) (fun x y h => ?_) |>.mp h
    injection h with h
    exact sN_inj.mp h
  rw [this.1, this.2]
  exact g
/-- one statement at a time -/
theorem seq_ {t u : DTS} {W : DEnds} {ds : DSt} {M : Mem} (h : ∀ V : DEnds, V.rt = W.rt → V.bk = W.bk → V.ct = W.ct → (∀ ds' M', u W ds' M' → V.nx ds' M') → t V ds M) : dSeq t u W ds M :=
  h { W with nx := fun ds' M' => u W ds' M' } rfl rfl rfl fun _ _ h => h
/-- for over a list, no state but what is named -/
theorem for_ {ti : DTI} {g : DTG} {tb : DTS} {W : DEnds} {ds : DSt} {M : Mem} (h : ti ds M fun xs M1 => forL g tb W xs ds M1) : dFor ti g tb W ds M := h
/-! tests that turn out so -/
def No (u : DTT) (ds : DSt) (M : Mem) : Prop := ∀ P : Bool → Mem → Prop, P false M → u ds M P
def Yes (u : DTT) (ds : DSt) (M : Mem) : Prop := ∀ P : Bool → Mem → Prop, P true M → u ds M P
def Is (t : DTE) (v : D) (ds : DSt) (M : Mem) : Prop := ∀ P : D → Mem → Prop, P v M → t ds M P
theorem if_no {u : DTT} {st : DTS} {W : DEnds} {ds : DSt} {M : Mem} (h : No u ds M) (q : W.nx ds M) : dIf u st dSkip W ds M := h _ ⟨fun z => (by cases z), fun _ => q⟩
theorem no_or {u w : DTT} {ds : DSt} {M : Mem} (h : No u ds M) (h2 : No w ds M) : No (dOr u w) ds M := fun P q => h _ ⟨fun z => (by cases z), fun _ => h2 P q⟩
theorem no_and1 {u w : DTT} {ds : DSt} {M : Mem} (h : No u ds M) : No (dAnd u w) ds M := fun P q => h _ ⟨fun z => (by cases z), fun _ => q⟩
theorem no_not {u : DTT} {ds : DSt} {M : Mem} (h : Yes u ds M) : No (dNot u) ds M := fun P q => h _ q
theorem yes_not {u : DTT} {ds : DSt} {M : Mem} (h : No u ds M) : Yes (dNot u) ds M := fun P q => h _ q
theorem no_b {t : DTE} {ds : DSt} {M : Mem} (h : Is t (.bl false) ds M) : No (dB t) ds M := fun P q => h _ q
theorem yes_b {t : DTE} {ds : DSt} {M : Mem} (h : Is t (.bl true) ds M) : Yes (dB t) ds M := fun P q => h _ q
theorem no_ne {ta tb : DTE} {ds : DSt} {M : Mem} (v : D) (hv : dkn 64 v = true) (ha : Is ta v ds M) (hb : Is tb v ds M) : No (dB (dBin gNe ta tb)) ds M := fun P q => ha _ (hb _ ⟨⟨hv, hv⟩, by
    simp only [eqv_refl, Bool.not_true]
    exact q⟩)
theorem is_eq {ta tb : DTE} {ds : DSt} {M : Mem} (v : D) (hv : dkn 64 v = true) (ha : Is ta v ds M) (hb : Is tb v ds M) : Is (dBin gEq ta tb) (.bl true) ds M := fun P q => ha _ (hb _ ⟨⟨hv, hv⟩, by
    simp only [eqv_refl]
    exact q⟩)
theorem no_notN {ta : DTE} {ds : DSt} {M : Mem} (ha : Is ta .non ds M) : No (dB (dBin gNotN ta (dC .non))) ds M := fun P q => ha _ q
theorem is_isN {ta : DTE} {ds : DSt} {M : Mem} (ha : Is ta .non ds M) : Is (dBin gIsN ta (dC .non)) (.bl true) ds M := fun P q => ha _ q
theorem yes_same {d : Nat} {ta tb : DTE} {ds : DSt} {M : Mem} {PX : DX} (v : D) (hv : dsm d v = true) (ha : Is ta v ds M) (hb : Is tb v ds M) : Yes (dB (dCall (sp_law_same d) PX (dCons ta (dCons tb dNil)))) ds M := fun P q => ha _ (hb _ ⟨v, rfl, hv, q⟩)
end DL

set_option Elab.async false
set_option linter.all false
set_option maxRecDepth 100000
set_option maxHeartbeats 4000000
namespace DL
open PySem PySem.Spec PyProof.Rows L2
/-! ### the text of a box -/
def wordN (t : List Nat) : List Nat := if t = [] then [45] else t
def lineN (b : Bar) : List Nat := TL.joinL [32] (b.map wordN)
def hdN (k : Int) : List Nat := [104, 111, 108, 100, 32, 48 + k.toNat]
def textN (k : Int) (bs : List Bar) : List Nat := TL.joinL [10] (hdN k :: bs.map lineN)
abbrev textD (k : Int) (bs : List Bar) : D := sD (textN k bs)
theorem mem_joinL {S : List Nat} {x : Nat} : ∀ {l : List (List Nat)}, x ∈ TL.joinL S l → x ∈ S ∨ ∃ p ∈ l, x ∈ p
  | [], h => by cases h
  | [p], h => .inr ⟨p, List.mem_singleton.mpr rfl, h⟩
  | p :: q :: r, h => by
    have h' : x ∈ p ++ (S ++ TL.joinL S (q :: r)) := h
    rcases List.mem_append.mp h' with h1 | h1
    · exact .inr ⟨p, List.mem_cons_self, h1⟩
    · rcases List.mem_append.mp h1 with h2 | h2
      · exact .inl h2
      · rcases mem_joinL h2 with h3 | ⟨u, h3, h4⟩
        · exact .inl h3
        · exact .inr ⟨u, List.mem_cons_of_mem _ h3, h4⟩
theorem len_joinL {S : List Nat} : ∀ (l : List (List Nat)), (TL.joinL S l).length ≤ (l.map List.length).sum + l.length * S.length
  | [] => by simp [TL.joinL]
  | [p] => by show p.length ≤ _; simp
  | p :: q :: r => by
    have e : TL.joinL S (p :: q :: r) = p ++ (S ++ TL.joinL S (q :: r)) := rfl
    have ih := len_joinL (S := S) (q :: r)
    rw [e, List.length_append, List.length_append, List.map_cons, List.sum_cons, List.length_cons, Nat.succ_mul]
    omega
theorem sum_by {l : List (List Nat)} {n : Nat} (h : ∀ x ∈ l, x.length ≤ n) : (l.map List.length).sum ≤ l.length * n := by
  induction l with
  | nil => simp
  | cons x l ih =>
    have := h x List.mem_cons_self
    have := ih fun y hy => h y (List.mem_cons_of_mem _ hy)
    rw [List.map_cons, List.sum_cons, List.length_cons, Nat.succ_mul]
    omega
theorem teethOf {l : List Nat} (h : canon l = l) {c : Nat} (hc : c ∈ l) : c ∈ teeth := by
  rw [← h] at hc
  exact (List.mem_filter.mp hc).1
theorem word_mem {t : List Nat} (h : canon t = t) {c : Nat} (hc : c ∈ wordN t) : c = 45 ∨ c ∈ teeth := by
  unfold wordN at hc
  split at hc
  · exact .inl (List.mem_singleton.mp hc)
  · exact .inr (teethOf h hc)
theorem word_len {t : List Nat} (h : canon t = t) : (wordN t).length ≤ 4 := by
  unfold wordN
  split
  · decide
  · exact canon_le t h
theorem line_mem {b : Bar} (g : GBar b) {c : Nat} (hc : c ∈ lineN b) : c = 32 ∨ c = 45 ∨ c ∈ teeth := by
  rcases mem_joinL hc with h | ⟨p, hp, h⟩
  · exact .inl (List.mem_singleton.mp h)
  · obtain ⟨t, ht, rfl⟩ := List.mem_map.mp hp
    exact .inr (word_mem (g.2.2 t ht) h)
theorem line_sum {b : Bar} (g : GBar b) : ((b.map wordN).map List.length).sum ≤ 28 := by
  have h := sum_by (l := b.map wordN) (n := 4) fun x hx => by
    obtain ⟨t, ht, rfl⟩ := List.mem_map.mp hx
    exact word_len (g.2.2 t ht)
  rw [List.length_map] at h
  have := g.2.1
  omega
theorem line_len {b : Bar} (g : GBar b) : (lineN b).length ≤ 35 := by
  have h := len_joinL (S := [32]) (b.map wordN)
  have h2 := line_sum g
  have := g.2.1
  rw [List.length_map, show ([32] : List Nat).length = 1 from rfl] at h
  unfold lineN
  omega
theorem text_sum {k : Int} {bs : List Bar} (g : GBox k bs) : ((hdN k :: bs.map lineN).map List.length).sum ≤ 111 := by
  have h := sum_by (l := bs.map lineN) (n := 35) fun x hx => by
    obtain ⟨b, hb, rfl⟩ := List.mem_map.mp hx
    exact line_len (g.2.2.2.2 b hb)
  rw [List.length_map] at h
  have := g.2.2.2.1
  rw [List.map_cons, List.sum_cons, show (hdN k).length = 6 from rfl]
  omega
theorem text_len {k : Int} {bs : List Bar} (g : GBox k bs) : (textN k bs).length ≤ 120 := by
  have h := len_joinL (S := [10]) (hdN k :: bs.map lineN)
  have h2 := text_sum g
  have := g.2.2.2.1
  rw [List.length_cons, List.length_map, show ([10] : List Nat).length = 1 from rfl] at h
  unfold textN
  omega
theorem teethB {c : Nat} (h : c ∈ teeth) : 97 ≤ c ∧ c ≤ 100 := by
  simp only [teeth, List.mem_cons, List.not_mem_nil, or_false] at h
  omega
theorem text_ok {k : Int} {bs : List Bar} (g : GBox k bs) : PyData.strOk (sN (textN k bs)) = true := by
  have hm : ∀ c ∈ textN k bs, c < 128 := fun c hc => by
    rcases mem_joinL hc with h | ⟨p, hp, h⟩
    · have := List.mem_singleton.mp h; omega
    · rcases List.mem_cons.mp hp with rfl | hp
      · have := g.2.1
        simp only [hdN, List.mem_cons, List.not_mem_nil, or_false] at h
        omega
      · obtain ⟨b, hb, rfl⟩ := List.mem_map.mp hp
        rcases line_mem (g.2.2.2.2 b hb) h with h | h | h
        · omega
        · omega
        · have := teethB h; omega
  exact okS fun c hc => by have := hm c hc; omega
theorem join_sD {sep : List Nat} {l : List (List Nat)} {P : Str → Prop} (hl : (l.map List.length).sum + l.length * sep.length ≤ 16777216) (h : P (sN (TL.joinL sep l))) : joinD (sN sep) (l.map sD) P := by
  unfold joinD
  rw [strsOf_sD]
  refine ⟨?_, ?_⟩
  · have z : (List.map (fun x => x.length) (l.map sN)).sum = (l.map List.length).sum := by rw [List.map_map]; rfl
    rw [z, List.length_map]
    exact hl
  · show P (Txt.join (sN sep) (l.map sN))
    rw [show Txt.join (sN sep) (l.map sN) = sN (TL.joinL sep l) from _root_.SX.join_S sep l]
    exact h
theorem split_sN {c : Nat} {l : List (List Nat)} (hc : c < 256) (hne : l ≠ []) (h : ∀ p ∈ l, c ∉ p) : Txt.split (sN (TL.joinL [c] l)) (sN [c]) = l.map sN := by
  rw [← show Txt.join (sN [c]) (l.map sN) = sN (TL.joinL [c] l) from _root_.SX.join_S [c] l]
  refine TL.split_join (y := sN [c]) (s := c) (S := []) rfl (by simp [hc]) (fun e => hne (List.map_eq_nil_iff.mp e)) fun p hp => ?_
  obtain ⟨z, hz, rfl⟩ := List.mem_map.mp hp
  simpa using h z hz
theorem split_line {b : Bar} (g : GBar b) : Txt.split (sN (lineN b)) (sN [32]) = (b.map wordN).map sN := by
  refine split_sN (by decide) (fun e => ?_) fun p hp hc => ?_
  · have := g.1
    rw [List.map_eq_nil_iff.mp e] at this
    exact absurd this (by decide)
  · obtain ⟨t, ht, rfl⟩ := List.mem_map.mp hp
    rcases word_mem (g.2.2 t ht) hc with h | h
    · omega
    · have := teethB h; omega
theorem split_text {k : Int} {bs : List Bar} (g : GBox k bs) : Txt.split (sN (textN k bs)) (sN [10]) = (hdN k :: bs.map lineN).map sN := by
  refine split_sN (by decide) (by simp) fun p hp hc => ?_
  rcases List.mem_cons.mp hp with rfl | hp
  · have := g.1
    simp only [hdN, List.mem_cons, List.not_mem_nil, or_false] at hc
    omega
  · obtain ⟨b, hb, rfl⟩ := List.mem_map.mp hp
    rcases line_mem (g.2.2.2.2 b hb) hc with h | h | h
    · omega
    · omega
    · have := teethB h; omega
theorem hd_str {k : Int} {bs : List Bar} (g : GBox k bs) : (("hold " : Str) ++ (toString k : Str)) = sN (hdN k) := by
  have h1 := g.1
  have h2 := g.2.1
  have : k = 0 ∨ k = 1 ∨ k = 2 ∨ k = 3 := by omega
  rcases this with rfl | rfl | rfl | rfl <;> decide +kernel
theorem log_small {k : Int} {bs : List Bar} (g : GBox k bs) : k.natAbs.log2 < 1920 := by
  have h1 := g.1
  have h2 := g.2.1
  have : k = 0 ∨ k = 1 ∨ k = 2 ∨ k = 3 := by omega
  rcases this with rfl | rfl | rfl | rfl <;> decide +kernel
/-! ### writing -/
def sp_word_of : DSp := fun ds M P _ => ∃ t, ds = [sD t] ∧ canon t = t ∧ P (sD (wordN t)) M
theorem l_word_of (ds : List D) (M : Mem) (P : D → Mem → Prop) (PX : DX) (h : sp_word_of ds M P PX) : t_word_of PX (dEnds P) (dst 1 ds) M := by
  obtain ⟨t, rfl, ht, h⟩ := h
  have hk : dkn 64 (sD t) = true := by have := canon_ok t; rw [ht] at this; simpa [dkn] using this
  have hk0 : dkn 64 (.str "") = true := by decide +kernel
  simp only [t_word_of, dRet, dIfE, dB, dBin, dVar, dC, gEq, dst, List.getElem?_cons_zero]
  refine ⟨⟨hk, hk0⟩, ?_⟩
  have e : dq (sD t) (.str "") = decide (t = []) := dq_s t []
  rw [e]
  by_cases q : t = []
  · subst q
    refine ⟨fun _ => Fz.here h, fun z => by cases z⟩
  · refine ⟨fun z => absurd (of_decide_eq_true z) q, fun _ => ?_⟩
    have ew : wordN t = t := by unfold wordN; rw [if_neg q]
    rw [ew] at h
    exact Fz.here h
def sp_lines_of : DSp := fun ds M P _ => ∃ k bs, ds = [bxD k bs] ∧ GBox k bs ∧ P (.lst ((hdN k :: bs.map lineN).map sD)) M
theorem l_lines_of (ds : List D) (M : Mem) (P : D → Mem → Prop) (PX : DX) (h : sp_lines_of ds M P PX) : t_lines_of sp_word_of PX (dEnds P) (dst 3 ds) M := by
  obtain ⟨k, bs, rfl, g, h⟩ := h
  have ed : dst 3 [bxD k bs] = [some (bxD k bs), none, none] := rfl
  rw [ed]
  simp only [t_lines_of, dRet, dBin, dLst, dCons, dNil, dFmtI, dVar, dC, List.getElem?_cons_zero]
  simp only [bxD, gIx, atI, ixN]
  refine ⟨⟨log_small g, by decide +kernel, ?_⟩, ?_⟩
  · rw [hd_str g, sizeLine_eq]
    show 6 ≤ _
    omega
  · rw [hd_str g]
    refine ⟨by rw [sizeLine_eq]; simp, ?_⟩
    simp only [dComp, dIter, dBin, dVar, dC, gIx, atI, ixN, seqD, List.getElem?_cons_zero]
    refine ⟨by rw [List.length_map, sizeLine_eq]; have := g.2.2.2.1; omega, ?_⟩
    refine comp_map (fun x => match x with | .tup its => (match strsOf its with | some l => .str (Txt.join (sN [32]) (l.map fun z => sN (wordN z.cps.toList))) | none => .non) | _ => .non) _ (fun x hx R hR => ?_) ?_
    · obtain ⟨b, hb, rfl⟩ := List.mem_map.mp hx
      have gb := g.2.2.2.2 b hb
      have er : (match strsOf (b.map sD) with | some l => D.str (Txt.join (sN [32]) (l.map fun z => sN (wordN z.cps.toList))) | none => .non) = sD (lineN b) := by
        rw [strsOf_sD]
        show D.str (Txt.join (sN [32]) ((b.map sN).map fun z => sN (wordN z.cps.toList))) = _
        rw [List.map_map]
        rw [show (b.map ((fun z : Str => sN (wordN z.cps.toList)) ∘ sN)) = (b.map wordN).map sN by rw [List.map_map]; rfl]
        exact congrArg D.str (_root_.SX.join_S [32] (b.map wordN))
      have hR' : R (sD (lineN b)) M := by rw [← er]; exact hR
      simp only [dJoin, dC, dComp, dIter, dVar, barD, seqD, dwipe, List.set, List.foldl, List.getElem?_cons_succ, List.getElem?_cons_zero]
      refine ⟨by rw [List.length_map, sizeLine_eq]; have := gb.2.1; omega, ?_⟩
      refine comp_map (fun x => match x with | .str z => sD (wordN z.cps.toList) | _ => .non) _ (fun x hx R2 hR2 => ?_) ?_
      · obtain ⟨t, ht, rfl⟩ := List.mem_map.mp hx
        simp only [dCall, dCons, dNil, dVar, dwipe, List.set, List.foldl, List.getElem?_cons_succ, List.getElem?_cons_zero]
        exact ⟨t, rfl, gb.2.2 t ht, hR2⟩
      · rw [List.map_map]
        have e2 : (b.map ((fun x : D => match x with | .str z => sD (wordN z.cps.toList) | _ => .non) ∘ sD)) = (b.map wordN).map sD := by rw [List.map_map]; rfl
        rw [e2]
        refine join_sD (sep := [32]) ?_ hR'
        have h1 := line_sum gb
        have h2 := gb.2.1
        rw [List.length_map, show ([32] : List Nat).length = 1 from rfl]
        omega
    · simp only [gAdd]
      have e3 : List.map (fun x : D => match x with | .tup its => (match strsOf its with | some l => D.str (Txt.join (sN [32]) (l.map fun z => sN (wordN z.cps.toList))) | none => .non) | _ => .non) (bs.map barD) = (bs.map lineN).map sD := by
        rw [List.map_map, List.map_map]
        refine List.map_congr_left fun b _ => ?_
        show (match strsOf (b.map sD) with | some l => D.str (Txt.join (sN [32]) (l.map fun z => sN (wordN z.cps.toList))) | none => .non) = sD (lineN b)
        rw [strsOf_sD]
        show D.str (Txt.join (sN [32]) ((b.map sN).map fun z => sN (wordN z.cps.toList))) = _
        rw [List.map_map]
        rw [show (b.map ((fun z : Str => sN (wordN z.cps.toList)) ∘ sN)) = (b.map wordN).map sN by rw [List.map_map]; rfl]
        exact congrArg D.str (_root_.SX.join_S [32] (b.map wordN))
      rw [e3]
      refine ⟨by rw [sizeLine_eq]; simp; have := g.2.2.2.1; omega, ?_⟩
      exact Fz.here h
theorem text_join {k : Int} {bs : List Bar} (g : GBox k bs) {P : Str → Prop} (h : P (sN (textN k bs))) : joinD (sN [10]) ((hdN k :: bs.map lineN).map sD) P := by
  refine join_sD (sep := [10]) ?_ h
  have h1 := text_sum g
  have h2 := g.2.2.2.1
  rw [List.length_cons, List.length_map, show ([10] : List Nat).length = 1 from rfl]
  omega
def sp_box_text (eB : Addr) : DSp := fun ds M P PX => ∃ v, ds = [v] ∧ dkn 55 v = true ∧ ((isBox v = false ∧ PX (.ref eB) none M) ∨ ∃ k bs, v = bxD k bs ∧ GBox k bs ∧ P (textD k bs) M)
theorem l_box_text {eB : Addr} (ds : List D) (M : Mem) (P : D → Mem → Prop) (PX : DX) (h : sp_box_text eB ds M P PX) : t_box_text (sp_need_box eB) sp_lines_of PX (dEnds P) (dst 1 ds) M := by
  obtain ⟨v, rfl, hk, h⟩ := h
  simp only [t_box_text]
  refine seq_ fun V hr _ _ hV => ?_
  simp only [dExpr, dCall, dCons, dNil, dVar, dst, List.getElem?_cons_zero]
  refine ⟨hk, ?_⟩
  rcases h with ⟨h1, h2⟩ | ⟨k, bs, rfl, g, h⟩
  · exact .inl ⟨h1, h2⟩
  · refine .inr ⟨isBox_of g, hV _ _ ?_⟩
    simp only [dRet, dJoin, dC, dCall, dCons, dNil, dVar, dst, List.getElem?_cons_zero]
    exact ⟨k, bs, rfl, g, text_join g (Fz.here h)⟩
def sp_law_writing : DSp := fun ds M P _ => ∃ k bs, ds = [bxD k bs] ∧ GBox k bs ∧ P (textD k bs) M
/-! ### reading -/
def sp_teeth_in : DSp := fun ds M P _ => ∃ t, ds = [sD (wordN t)] ∧ canon t = t ∧ P (sD t) M
theorem l_teeth_in (ds : List D) (M : Mem) (P : D → Mem → Prop) (PX : DX) (h : sp_teeth_in ds M P PX) : t_teeth_in sp_are_teeth PX (dEnds P) (dst 1 ds) M := by
  obtain ⟨t, rfl, ht, h⟩ := h
  simp only [t_teeth_in]
  refine seq_ fun V hr _ _ hV => ?_
  by_cases q : t = []
  · subst q
    simp only [dIf, dB, dBin, dVar, dC, gEq, dst, List.getElem?_cons_zero, dRet]
    refine ⟨⟨by decide +kernel, by decide +kernel⟩, fun _ => ?_, fun z => absurd z (by decide +kernel)⟩
    rw [hr]
    exact Fz.here h
  · have ew : wordN t = t := by unfold wordN; rw [if_neg q]
    have ok : PyData.strOk (sN t) = true := by have := canon_ok t; rw [ht] at this; exact this
    have hk : dkn 64 (sD t) = true := by simpa [dkn] using ok
    have hk6 : dkn 60 (sD t) = true := by simpa [dkn] using ok
    rw [ew]
    have n1 : dq (sD t) (.str "-") = false := by
      have e : dq (sD t) (.str "-") = decide (t = [45]) := dq_s t [45]
      rw [e, decide_eq_false_iff_not]
      rintro rfl
      exact absurd ht (by decide)
    have n2 : dq (sD t) (.str "") = false := by
      have e : dq (sD t) (.str "") = decide (t = []) := dq_s t []
      rw [e, decide_eq_false_iff_not]
      exact q
    refine if_no (no_b fun P' q' => ?_) (hV _ _ ?_)
    · simp only [dBin, dVar, dC, gEq, dst, List.getElem?_cons_zero]
      refine ⟨⟨hk, by decide +kernel⟩, ?_⟩
      rw [n1]; exact q'
    · simp only [dRet, dIfE, dAnd, dB, dBin, dVar, dC, gNe, dCall, dCons, dNil, dst, List.getElem?_cons_zero]
      refine ⟨⟨hk, by decide +kernel⟩, ?_⟩
      rw [n2]
      have iT : isT (sD t) = true := by simp [isT, ht]
      refine ⟨fun _ => ⟨hk6, ?_⟩, fun z => by cases z⟩
      rw [iT]
      exact ⟨fun _ => Fz.here h, fun z => by cases z⟩
end DL

set_option Elab.async false
set_option linter.all false
set_option maxRecDepth 100000
set_option maxHeartbeats 4000000
namespace DL
open PySem PySem.Spec PyProof.Rows L2
theorem cut1 (x : D) (xs : List D) : cutD (x :: xs) (some 1) none = xs := by
  have e : HT.sIx (x :: xs).length 0 (some ((1 : Nat) : Int)) = 1 := by rw [HT.sIx_nat, List.length_cons]; omega
  show ((x :: xs).drop (HT.sIx (x :: xs).length 0 (some ((1 : Nat) : Int)))).take ((x :: xs).length - HT.sIx (x :: xs).length 0 (some ((1 : Nat) : Int))) = xs
  rw [e]
  simp
/-! ### the law's own writing -/
theorem l_law_writing (ds : List D) (M : Mem) (P : D → Mem → Prop) (PX : DX) (h : sp_law_writing ds M P PX) : t_law_writing PX (dEnds P) (dst 4 ds) M := by
  obtain ⟨k, bs, rfl, g, h⟩ := h
  have ed : dst 4 [bxD k bs] = [some (bxD k bs), none, none, none] := rfl
  rw [ed]
  simp only [t_law_writing]
  refine seq_ fun V hr _ _ hV => ?_
  simp only [dSet, dLstH, dCons, dNil, dBin, dApp, dVar, dC, List.getElem?_cons_zero]
  simp only [bxD, gIx, atI, ixN]
  simp only [gStr1]
  refine ⟨log_small g, ?_⟩
  simp only [gAdd]
  refine ⟨by rw [sizeLine_eq]; have := g.1; have := g.2.1; have : k = 0 ∨ k = 1 ∨ k = 2 ∨ k = 3 := by omega
             rcases this with rfl | rfl | rfl | rfl <;> decide +kernel, ?_⟩
  rw [hd_str g]
  refine ⟨by rw [sizeLine_eq]; simp, fun p hp => hV _ _ ?_⟩
  simp only [List.set]
  refine seq_ fun V2 hr2 _ _ hV2 => ?_
  simp only [dFor, dIter, dBin, dVar, dC, gIx, atI, ixN, seqD, List.getElem?_cons_zero]
  refine forL_inv (fun n ds M' => ∃ x2 : Option D, ds = [some (bxD k bs), some (.ref p), x2, none] ∧ M' = mput M p (some (.lst ((hdN k :: (bs.take n).map lineN).map sD)))) (bs.map barD) 0 _ _ (fun i x hx ds M' hI Nx hN => ?_) ⟨none, rfl, rfl⟩ ?_
  · obtain ⟨x2, rfl, rfl⟩ := hI
    rw [List.getElem?_map] at hx
    obtain ⟨b, hb, rfl⟩ := Option.map_eq_some_iff.mp hx
    have gb := g.2.2.2.2 b (List.mem_of_getElem? hb)
    simp only [dgN, List.set, dExpr, dAppend, dVar, List.getElem?_cons_succ, List.getElem?_cons_zero, mput_same]
    refine ⟨⟨_, rfl⟩, ?_⟩
    simp only [dJoin, dC, dComp, dIter, dVar, barD, seqD, List.getElem?_cons_succ, List.getElem?_cons_zero]
    refine ⟨by rw [List.length_map, sizeLine_eq]; have := gb.2.1; omega, ?_⟩
    refine comp_map (fun x => match x with | .str z => sD (wordN z.cps.toList) | _ => .non) _ (fun x hx R2 hR2 => ?_) ?_
    · obtain ⟨t, ht, rfl⟩ := List.mem_map.mp hx
      have ct := gb.2.2 t ht
      have ok : dkn 64 (sD t) = true := by have := canon_ok t; rw [ct] at this; simpa [dkn] using this
      have hR3 : R2 (sD (wordN t)) _ := hR2
      simp only [dIfE, dB, dBin, dVar, dC, gNe, dwipe, List.set, List.foldl, List.getElem?_cons_succ, List.getElem?_cons_zero]
      refine ⟨⟨ok, by decide +kernel⟩, ?_⟩
      have e : dq (sD t) (.str "") = decide (t = []) := dq_s t []
      rw [e]
      unfold wordN at hR3
      by_cases q : t = []
      · subst q
        exact ⟨fun z => (by cases z), fun _ => hR3⟩
      · rw [if_neg q] at hR3
        exact ⟨fun _ => hR3, fun z => by simp [q] at z⟩
    · rw [List.map_map]
      have e2 : (b.map ((fun x : D => match x with | .str z => sD (wordN z.cps.toList) | _ => .non) ∘ sD)) = (b.map wordN).map sD := by rw [List.map_map]; rfl
      rw [e2]
      refine join_sD (sep := [32]) ?_ ?_
      · have h1 := line_sum gb
        have h2 := gb.2.1
        rw [List.length_map, show ([32] : List Nat).length = 1 from rfl]
        omega
      simp only [mput_same]
      refine ⟨by rw [sizeLine_eq]; simp; have := g.2.2.2.1; omega, ?_⟩
      rw [mput_mput]
      refine hN _ _ ⟨_, rfl, ?_⟩
      have et : bs.take (0 + i + 1) = bs.take (0 + i) ++ [b] := by rw [Nat.zero_add, List.take_succ, hb]; rfl
      rw [et]
      simp [lineN]
  · rintro ds M' ⟨x2, rfl, rfl⟩
    refine hV2 _ _ ?_
    simp only [dFrz]
    refine ⟨p, _, rfl, mput_same, ?_⟩
    rw [mput_mput, mput_self hp]
    simp only [dRet, dJoin, dC, dVar, List.set, List.getElem?_cons_succ, List.getElem?_cons_zero]
    have et : bs.take (0 + (bs.map barD).length) = bs := by rw [Nat.zero_add, List.length_map, List.take_length]
    rw [et]
    exact text_join g (Fz.here h)
/-! ### reading a text -/
def sp_barrel_in : DSp := fun ds M P _ => ∃ b, ds = [sD (lineN b)] ∧ GBar b ∧ P (barD b) M
theorem dkn_bar {b : Bar} (g : GBar b) : dkn 58 (barD b) = true := by
  have h := g.2.1
  simp only [barD, dkn, Bool.and_eq_true, decide_eq_true_eq, List.length_map, List.all_eq_true]
  refine fun y hy => ?_
  obtain ⟨l, hl, rfl⟩ := List.mem_map.mp hy
  have := canon_ok l
  rw [g.2.2 l hl] at this
  simpa [dkn] using this
theorem l_barrel_in (ds : List D) (M : Mem) (P : D → Mem → Prop) (PX : DX) (h : sp_barrel_in ds M P PX) : t_barrel_in sp_teeth_in sp_is_barrel PX (dEnds P) (dst 3 ds) M := by
  obtain ⟨b, rfl, g, h⟩ := h
  have ed : dst 3 [sD (lineN b)] = [some (sD (lineN b)), none, none] := rfl
  rw [ed]
  simp only [t_barrel_in]
  refine seq_ fun V hr _ _ hV => ?_
  simp only [dSet, dApp, dCons, dNil, dComp, dIter, dSplit, dVar, dC, List.getElem?_cons_zero]
  refine ⟨⟨by decide +kernel, ?_⟩, ?_⟩
  · have := line_len g
    rw [sizeLine_eq]
    show (lineN b).length + 2 ≤ _
    omega
  have es : Txt.split (sN (lineN b)) " " = (b.map wordN).map sN := split_line g
  rw [es]
  simp only [seqD]
  refine ⟨by rw [sizeLine_eq]; simp; have := g.2.1; omega, ?_⟩
  rw [List.map_map]
  refine comp_map (fun x => match x with | .str z => if z.cps.toList = [45] then sD [] else x | _ => .non) _ (fun x hx R hR => ?_) ?_
  · obtain ⟨w, hw, rfl⟩ := List.mem_map.mp hx
    obtain ⟨t, ht, rfl⟩ := List.mem_map.mp hw
    have ct := g.2.2 t ht
    have e : (if (sN (wordN t)).cps.toList = [45] then sD [] else sD (wordN t)) = sD t := by
      show (if wordN t = [45] then sD [] else sD (wordN t)) = sD t
      unfold wordN
      by_cases q : t = []
      · subst q; rfl
      · rw [if_neg q, if_neg]
        rintro rfl
        exact absurd ct (by decide)
    have hR' : R (sD t) M := by rw [← e]; exact hR
    simp only [dCall, dCons, dNil, dVar, dwipe, List.set, List.foldl, List.getElem?_cons_succ, List.getElem?_cons_zero]
    exact ⟨t, rfl, ct, hR'⟩
  · have e3 : List.map (fun x : D => match x with | .str z => if z.cps.toList = [45] then sD [] else x | _ => .non) ((b.map wordN).map (D.str ∘ sN)) = b.map sD := by
      rw [List.map_map, List.map_map]
      refine List.map_congr_left fun t ht => ?_
      have ct := g.2.2 t ht
      show (if wordN t = [45] then sD [] else sD (wordN t)) = sD t
      unfold wordN
      by_cases q : t = []
      · subst q; rfl
      · rw [if_neg q, if_neg]
        rintro rfl
        exact absurd ct (by decide)
    rw [e3]
    simp only [gTuple]
    refine hV _ _ ?_
    simp only [dRet, dIfE, dAnd, dB, dBin, dVar, dC, List.set, gIn, List.getElem?_cons_succ, List.getElem?_cons_zero]
    refine ⟨⟨rfl, ?_⟩, ?_⟩
    · rw [List.all_eq_true]
      intro y hy
      obtain ⟨l, hl, rfl⟩ := List.mem_map.mp hy
      rfl
    · have e4 : ((b.map sD).any fun u => dq u .non) = false := by
        rw [List.any_eq_false]
        intro y hy
        obtain ⟨l, hl, rfl⟩ := List.mem_map.mp hy
        exact (by simp [dq, py, PyData.eqv])
      rw [e4]
      simp only [if_true, Bool.not_false, dCall, dCons, dNil, dVar, List.getElem?_cons_succ, List.getElem?_cons_zero]
      refine ⟨fun _ => ?_, fun z => by cases z⟩
      show dkn 58 (barD b) = true ∧ _
      refine ⟨dkn_bar g, ?_⟩
      have := isBar_of g
      rw [show isBar (.tup (b.map sD)) = true from this]
      exact ⟨fun _ => Fz.here h, fun z => by cases z⟩
def cHOLDS : D := .tup (holdsL.map D.str)
def sp_box_in : DSp := fun ds M P _ => ∃ k bs, ds = [textD k bs] ∧ GBox k bs ∧ P (bxD k bs) M
theorem hd_in {k : Int} {bs : List Bar} (g : GBox k bs) : ∃ i : Nat, (i : Int) = k ∧ holdsL[i]? = some (sN (hdN k)) ∧ (∀ m, m < i → holdsL[m]? ≠ some (sN (hdN k))) ∧ ((holdsL.map D.str).any fun u => dq u (sD (hdN k))) = true := by
  have h1 := g.1
  have h2 := g.2.1
  have : k = 0 ∨ k = 1 ∨ k = 2 ∨ k = 3 := by omega
  rcases this with rfl | rfl | rfl | rfl
  · exact ⟨0, rfl, by decide +kernel, fun m hm => absurd hm (by omega), by decide +kernel⟩
  · refine ⟨1, rfl, by decide +kernel, fun m hm => ?_, by decide +kernel⟩
    have : m = 0 := by omega
    subst this; decide +kernel
  · refine ⟨2, rfl, by decide +kernel, fun m hm => ?_, by decide +kernel⟩
    have : m = 0 ∨ m = 1 := by omega
    rcases this with rfl | rfl <;> decide +kernel
  · refine ⟨3, rfl, by decide +kernel, fun m hm => ?_, by decide +kernel⟩
    have : m = 0 ∨ m = 1 ∨ m = 2 := by omega
    rcases this with rfl | rfl | rfl <;> decide +kernel
theorem l_box_in (ds : List D) (M : Mem) (P : D → Mem → Prop) (PX : DX) (h : sp_box_in ds M P PX) : t_box_in sp_barrel_in sp_is_box_value cHOLDS PX (dEnds P) (dst 7 ds) M := by
  obtain ⟨k, bs, rfl, g, h⟩ := h
  have z : ∀ n : Nat, n ≤ 20 → n ≤ sizeLine := fun n h => by rw [sizeLine_eq]; omega
  have ed : dst 7 [textD k bs] = [some (textD k bs), none, none, none, none, none, none] := rfl
  rw [ed]
  simp only [t_box_in]
  refine seq_ fun V hr _ _ hV => ?_
  refine if_no (no_not (yes_b fun P' q' => ?_)) (hV _ _ ?_)
  · simp [dRet, dRetN, dSkip, dSeq, dExpr, dSet, dIf, dAsg, dPar, dgT, dgN, dgCons, dgNil, dgSub, dVar, dC, dUn, dBin, dNil, dCons, dApp, dB, dAnd, dOr, dNot, dAndV, dOrV, dNotV, dIfE, dChain, dTup, dLst, dLstH, dCall, dRaise, dFor, dIter, dRng1, dRng2, dZip, dEnum, dComp, dYes, dJoin, dSlice, dPart, dNoPart, dAppend, dSrtSet, dLenSet, dSplit, dZipE, dEnds, dstart, dst, dwipe, gI, gIC, gMod, gDiv, gSub, gPow, gNeg, gLt, gLe, gGt, gGe, gEq, gNe, gIsN, gNotN, gAdd, gMul, gIx, gLen, gIsi, gInt1, gTuple, gList, gSorted, gIn, gAll, gAny, dFrz, gMax2, gMin2, dComp2]
    exact ⟨by decide, q'⟩
  refine seq_ fun V hr _ _ hV => ?_
  simp only [dSet, dSplit, dVar, dC, List.getElem?_cons_zero]
  refine ⟨⟨by decide +kernel, ?_⟩, hV _ _ ?_⟩
  · have := text_len g
    rw [sizeLine_eq]
    show (textN k bs).length + 2 ≤ _
    omega
  have es : Txt.split (sN (textN k bs)) "\n" = (hdN k :: bs.map lineN).map sN := split_text g
  rw [es]
  have el : ((hdN k :: bs.map lineN).map sN).map D.str = sD (hdN k) :: (bs.map fun b => sD (lineN b)) := by simp
  rw [el]
  simp only [List.set]
  obtain ⟨i, hi, i1, i2, i3⟩ := hd_in g
  have e0 : atI (sD (hdN k) :: (bs.map fun b => sD (lineN b))) 0 = some (sD (hdN k)) := atI_nat (i := 0) rfl
  refine seq_ fun V hr _ _ hV => ?_
  refine if_no (no_b fun P' q' => ?_) (hV _ _ ?_)
  · simp only [dBin, dVar, dC, List.getElem?_cons_succ, List.getElem?_cons_zero, gIx, e0]
    simp only [cHOLDS, gIn]
    refine ⟨⟨rfl, by decide +kernel⟩, ?_⟩
    rw [i3]
    exact q'
  refine seq_ fun V hr _ _ hV => ?_
  simp only [dSet, dLstH, dNil, List.length_nil]
  refine ⟨z 0 (by decide), fun p hp => hV _ _ ?_⟩
  simp only [List.set]
  refine seq_ fun V hr _ _ hV => ?_
  simp only [dFor, dEnum, dCons, dNil, dSlice, dPart, dNoPart, dVar, dC, List.getElem?_cons_succ, List.getElem?_cons_zero]
  rw [cut1]
  refine forL_inv (fun n ds M' => ∃ x3 x4 x5 : Option D, ds = [some (textD k bs), some (.lst (sD (hdN k) :: (bs.map fun b => sD (lineN b)))), some (.ref p), x3, x4, x5, none] ∧ M' = mput M p (some (.lst ((bs.take n).map barD)))) _ 0 _ _ (fun j x hx ds M' hI Nx hN => ?_) ⟨none, none, none, rfl, rfl⟩ ?_
  · obtain ⟨x3, x4, x5, rfl, rfl⟩ := hI
    obtain ⟨y, hy, rfl⟩ := enumD_at hx
    rw [List.getElem?_map] at hy
    obtain ⟨b, hb, rfl⟩ := Option.map_eq_some_iff.mp hy
    have gb := g.2.2.2.2 b (List.mem_of_getElem? hb)
    simp only [dgT, dgCons, dgN, dgNil, List.set]
    refine ⟨rfl, ?_⟩
    refine seq_ fun V hr _ _ hV => ?_
    simp only [dSet, dCall, dCons, dNil, dVar, List.getElem?_cons_succ, List.getElem?_cons_zero]
    refine ⟨b, rfl, gb, hV _ _ ?_⟩
    simp only [List.set]
    refine seq_ fun V hr _ _ hV => ?_
    refine if_no (no_b fun P' q' => ?_) (hV _ _ ?_)
    · simp only [dBin, dVar, dC, List.getElem?_cons_succ, List.getElem?_cons_zero]
      exact q'
    simp only [dExpr, dAppend, dVar, List.getElem?_cons_succ, List.getElem?_cons_zero, mput_same]
    refine ⟨⟨_, rfl⟩, by rw [sizeLine_eq]; simp; have := g.2.2.2.1; omega, ?_⟩
    rw [mput_mput]
    refine hN _ _ ⟨_, _, _, rfl, ?_⟩
    have et : bs.take (0 + j + 1) = bs.take (0 + j) ++ [b] := by rw [Nat.zero_add, List.take_succ, hb]; rfl
    rw [et, List.map_append]
    rfl
  rintro ds M' ⟨x3, x4, x5, rfl, rfl⟩
  have et : bs.take (0 + (enumD (bs.map fun b => sD (lineN b))).length) = bs := by rw [enumD_len, Nat.zero_add, List.length_map, List.take_length]
  rw [et]
  refine hV _ _ ?_
  refine seq_ fun V hr _ _ hV => ?_
  simp only [dFrz]
  refine ⟨p, _, rfl, mput_same, ?_⟩
  rw [mput_mput, mput_self hp]
  simp only [dSet, dTup, dCons, dNil, dTIx, dApp, dBin, dVar, dC, List.set, List.getElem?_cons_succ, List.getElem?_cons_zero, gIx, e0]
  refine ⟨i, i1, i2, ?_⟩
  simp only [gTuple, hi]
  refine ⟨z 2 (by decide), hV _ _ ?_⟩
  refine seq_ fun V hr _ _ hV => ?_
  refine if_no (no_not (yes_b fun P' q' => ?_)) (hV _ _ ?_)
  · simp only [dCall, dCons, dNil, dVar, List.getElem?_cons_succ, List.getElem?_cons_zero]
    show dkn 55 (bxD k bs) = true ∧ P' (.bl (isBox (bxD k bs))) M
    refine ⟨dkn_mono 50 55 _ (by decide) (dkn_bx g.2.2.2.2), ?_⟩
    rw [isBox_of g]
    exact q'
  simp only [dRet, dVar, List.getElem?_cons_succ, List.getElem?_cons_zero]
  exact Fz.here h
theorem l_read_box (ds : List D) (M : Mem) (P : D → Mem → Prop) (PX : DX) (h : sp_box_in ds M P PX) : t_read_box sp_box_in PX (dEnds P) (dst 1 ds) M := by
  obtain ⟨k, bs, rfl, g, h⟩ := h
  simp only [t_read_box, dRet, dCall, dCons, dNil, dVar, dst, List.getElem?_cons_zero]
  exact ⟨k, bs, rfl, g, Fz.here h⟩
end DL

set_option Elab.async false
set_option linter.all false
set_option maxRecDepth 100000
set_option maxHeartbeats 4000000
namespace DL
open PySem PySem.Spec PyProof.Rows L2
/-! ### boxes as values -/
abbrev insO (kB : Addr) (k : Int) (bs : List Bar) : MO := .ins kB [("whole", bxD k bs)]
theorem dkn_box {k : Int} {bs : List Bar} (g : GBox k bs) : dkn 55 (bxD k bs) = true := dkn_mono 50 55 _ (by decide) (dkn_bx g.2.2.2.2)
def sp_Box_init (kB : Addr) : DSp := fun ds M P _ => ∃ p k bs, ds = [.ref p, .int k, .tup (bs.map barD)] ∧ GBox k bs ∧ M p = some (.ins kB []) ∧ P .non (mput M p (some (insO kB k bs)))
theorem l_Box_init {kB eB : Addr} (ds : List D) (M : Mem) (P : D → Mem → Prop) (PX : DX) (h : sp_Box_init kB ds M P PX) : t_Box_init (sp_need_box eB) kB PX (dEnds P) (dst 3 ds) M := by
  obtain ⟨p, k, bs, rfl, g, hp, h⟩ := h
  have z : ∀ n : Nat, n ≤ 20 → n ≤ sizeLine := fun n h => by rw [sizeLine_eq]; omega
  have ed : dst 3 [.ref p, .int k, .tup (bs.map barD)] = [some (.ref p), some (.int k), some (.tup (bs.map barD))] := rfl
  rw [ed]
  simp only [t_Box_init]
  refine seq_ fun V hr _ _ hV => ?_
  simp only [dExpr, dCall, dTup, dCons, dNil, dVar, List.getElem?_cons_succ, List.getElem?_cons_zero]
  refine ⟨z 2 (by decide), ?_⟩
  show dkn 55 (bxD k bs) = true ∧ _
  refine ⟨dkn_box g, .inr ⟨isBox_of g, hV _ _ ?_⟩⟩
  simp only [dSetFld, dTup, dCons, dNil, dVar, List.getElem?_cons_succ, List.getElem?_cons_zero]
  refine ⟨z 2 (by decide), ?_⟩
  rw [hp]
  refine ⟨rfl, by decide, ?_⟩
  exact Fz.here h
theorem make_box {kB : Addr} {k : Int} {bs : List Bar} {M : Mem} {P : D → Mem → Prop} {PX : DX} (g : GBox k bs) (h : ∀ p, M p = none → P (.ref p) (mput M p (some (insO kB k bs)))) (p : Addr) (hp : M p = none) :
    spStar 2 (sp_Box_init kB) (.ref p :: .int k :: bs.map barD) (mput M p (some (.ins kB []))) (fun r M2 => r = .non ∧ P (.ref p) M2) PX := by
  refine ⟨by simp, by rw [sizeLine_eq]; simp; have := g.2.2.2.1; omega, p, k, bs, by simp, g, mput_same, rfl, ?_⟩
  rw [mput_mput]
  exact h p hp
def sp_Box_read (kB : Addr) : DSp := fun ds M P _ => ∃ k bs, ds = [.ref kB, textD k bs] ∧ GBox k bs ∧ ∀ p, M p = none → P (.ref p) (mput M p (some (insO kB k bs)))
theorem l_Box_read {kB : Addr} (ds : List D) (M : Mem) (P : D → Mem → Prop) (PX : DX) (h : sp_Box_read kB ds M P PX) : t_Box_read sp_box_in (spStar 2 (sp_Box_init kB)) kB PX (dEnds P) (dst 4 ds) M := by
  obtain ⟨k, bs, rfl, g, h⟩ := h
  have ed : dst 4 [.ref kB, textD k bs] = [some (.ref kB), some (textD k bs), none, none] := rfl
  rw [ed]
  simp only [t_Box_read]
  refine seq_ fun V hr _ _ hV => ?_
  simp only [dAsg, dCall, dCons, dNil, dVar, List.getElem?_cons_succ, List.getElem?_cons_zero]
  refine ⟨k, bs, rfl, g, ?_⟩
  simp only [bxD, dgT, dgCons, dgNil, dgN, List.set]
  refine ⟨rfl, hV _ _ ?_⟩
  simp only [dRet, dMakeL, dMake, dCons, dNil, dStar, dVar, List.getElem?_cons_succ, List.getElem?_cons_zero, List.append_nil]
  exact ⟨trivial, make_box g fun p hp => Fz.here (h p hp)⟩
def sp_Box_source (kB : Addr) : DSp := fun ds M P _ => ∃ a v, ds = [.ref a] ∧ M a = some (.ins kB [("whole", v)]) ∧ P v M
theorem look_w {v : D} : List.lookup ("whole" : Str) [(("whole" : Str), v)] = some v := by
  simp [List.lookup]
theorem look_m {v : D} : List.lookup ("made" : Str) [(("whole" : Str), v)] = none := by
  have e : (("made" : Str) == ("whole" : Str)) = false := by decide +kernel
  simp [List.lookup, e]
theorem l_Box_source {kB : Addr} (ds : List D) (M : Mem) (P : D → Mem → Prop) (PX : DX) (h : sp_Box_source kB ds M P PX) : t_Box_source_k12 kB PX (dEnds P) (dst 1 ds) M := by
  obtain ⟨a, v, rfl, ha, h⟩ := h
  have ed : dst 1 [.ref a] = [some (.ref a)] := rfl
  rw [ed]
  simp only [t_Box_source_k12, dRet, dFld, dVar, List.getElem?_cons_zero]
  rw [ha]
  refine ⟨rfl, ?_⟩
  rw [look_w]
  exact Fz.here h
def sp_checked : DSp := fun ds M P _ => ∃ k bs, ds = [bxD k bs] ∧ GBox k bs ∧ P (bxD k bs) M
theorem l_checked {eB : Addr} (ds : List D) (M : Mem) (P : D → Mem → Prop) (PX : DX) (h : sp_checked ds M P PX) : t_checked sp_is_box_value eB PX (dEnds P) (dst 1 ds) M := by
  obtain ⟨k, bs, rfl, g, h⟩ := h
  simp only [t_checked]
  refine seq_ fun V hr _ _ hV => ?_
  refine if_no (no_not (yes_b fun P' q' => ?_)) (hV _ _ ?_)
  · simp only [dCall, dCons, dNil, dVar, dst, List.getElem?_cons_zero]
    show dkn 55 (bxD k bs) = true ∧ P' (.bl (isBox (bxD k bs))) M
    refine ⟨dkn_box g, ?_⟩
    rw [isBox_of g]
    exact q'
  simp only [dRet, dVar, dst, List.getElem?_cons_zero]
  exact Fz.here h
def sp_Box_made (kB : Addr) : DSp := fun ds M P _ => ∃ a k bs0 bs, ds = [.ref a, .tup (bs.map barD)] ∧ M a = some (insO kB k bs0) ∧ GBox k bs ∧ ∀ p, M p = none → P (.ref p) (mput M p (some (insO kB k bs)))
theorem l_Box_made {kB : Addr} (ds : List D) (M : Mem) (P : D → Mem → Prop) (PX : DX) (h : sp_Box_made kB ds M P PX) : t_Box_made sp_checked (spStar 2 (sp_Box_init kB)) kB PX (dEnds P) (dst 4 ds) M := by
  obtain ⟨a, k, bs0, bs, rfl, ha, g, h⟩ := h
  have z : ∀ n : Nat, n ≤ 20 → n ≤ sizeLine := fun n h => by rw [sizeLine_eq]; omega
  have ed : dst 4 [.ref a, .tup (bs.map barD)] = [some (.ref a), some (.tup (bs.map barD)), none, none] := rfl
  rw [ed]
  simp only [t_Box_made]
  refine seq_ fun V hr _ _ hV => ?_
  simp only [dAsg, dCall, dTup, dCons, dNil, dBin, dFld, dVar, dC, List.getElem?_cons_succ, List.getElem?_cons_zero]
  rw [ha]
  refine ⟨rfl, ?_⟩
  rw [look_w]
  have e0 : atI [D.int k, .tup (bs0.map barD)] 0 = some (.int k) := rfl
  simp only [bxD, gIx, e0]
  refine ⟨z 2 (by decide), k, bs, rfl, g, ?_⟩
  simp only [bxD, dgT, dgCons, dgNil, dgN, List.set]
  refine ⟨rfl, hV _ _ ?_⟩
  simp only [dRet, dMake, dCons, dNil, dStar, dVar, List.getElem?_cons_succ, List.getElem?_cons_zero, List.append_nil]
  exact make_box g fun p hp => Fz.here (h p hp)
def sp_Box_add (kB : Addr) : DSp := fun ds M P _ => ∃ a k bs b, ds = [.ref a, barD b] ∧ M a = some (insO kB k bs) ∧ GBox k (bs ++ [b]) ∧ ∀ p, M p = none → P (.ref p) (mput M p (some (insO kB k (bs ++ [b]))))
theorem l_Box_add {kB : Addr} (ds : List D) (M : Mem) (P : D → Mem → Prop) (PX : DX) (h : sp_Box_add kB ds M P PX) : t_Box_add (sp_Box_made kB) kB PX (dEnds P) (dst 2 ds) M := by
  obtain ⟨a, k, bs, b, rfl, ha, g, h⟩ := h
  have z : ∀ n : Nat, n ≤ 20 → n ≤ sizeLine := fun n h => by rw [sizeLine_eq]; omega
  have ed : dst 2 [.ref a, barD b] = [some (.ref a), some (barD b)] := rfl
  rw [ed]
  simp only [t_Box_add, dRet, dMeth, dTup, dCons, dNil, dBin, dFld, dVar, dC, List.getElem?_cons_succ, List.getElem?_cons_zero]
  rw [ha]
  refine ⟨rfl, look_m, rfl, ?_⟩
  rw [look_w]
  have e0 : atI [D.int k, .tup (bs.map barD)] 1 = some (.tup (bs.map barD)) := rfl
  simp only [bxD, gIx, e0]
  refine ⟨z 1 (by decide), ?_⟩
  simp only [gAdd]
  have hl := g.2.2.2.1
  rw [List.length_append] at hl
  refine ⟨by rw [sizeLine_eq]; simp at hl ⊢; omega, ?_⟩
  exact ⟨a, k, bs, bs ++ [b], by simp, ha, g, fun p hp => Fz.here (h p hp)⟩
def sp_Box_str (kB : Addr) : DSp := fun ds M P _ => ∃ a k bs, ds = [.ref a] ∧ M a = some (insO kB k bs) ∧ GBox k bs ∧ P (textD k bs) M
theorem l_Box_str {kB : Addr} (ds : List D) (M : Mem) (P : D → Mem → Prop) (PX : DX) (h : sp_Box_str kB ds M P PX) : t_Box_str sp_lines_of kB PX (dEnds P) (dst 1 ds) M := by
  obtain ⟨a, k, bs, rfl, ha, g, h⟩ := h
  have ed : dst 1 [.ref a] = [some (.ref a)] := rfl
  rw [ed]
  simp only [t_Box_str, dRet, dJoin, dCall, dCons, dNil, dFld, dVar, dC, List.getElem?_cons_zero]
  rw [ha]
  refine ⟨rfl, ?_⟩
  rw [look_w]
  exact ⟨k, bs, rfl, g, text_join g (Fz.here h)⟩
def sp_law_value (kB : Addr) : DSp := fun ds M P _ => ∃ k bs, ds = [bxD k bs] ∧ GBox k bs ∧ ∀ p M', M' p = some (insO kB k bs) → (∀ q, KpM q M M') → P (.ref p) M'
theorem take_box {k : Int} {bs : List Bar} (g : GBox k bs) (n : Nat) (hn : 1 ≤ n) : GBox k (bs.take n) := by
  refine ⟨g.1, g.2.1, ?_, ?_, fun b hb => g.2.2.2.2 b (List.mem_of_mem_take hb)⟩
  · rw [List.length_take]; have := g.2.2.1; omega
  · rw [List.length_take]; have := g.2.2.2.1; omega
theorem l_law_value {kB : Addr} (ds : List D) (M : Mem) (P : D → Mem → Prop) (PX : DX) (h : sp_law_value kB ds M P PX) : t_law_value (spStar 2 (sp_Box_init kB)) (sp_Box_add kB) kB PX (dEnds P) (dst 3 ds) M := by
  obtain ⟨k, bs, rfl, g, h⟩ := h
  have ed : dst 3 [bxD k bs] = [some (bxD k bs), none, none] := rfl
  rw [ed]
  obtain ⟨b0, bt, rfl⟩ : ∃ b0 bt, bs = b0 :: bt := by
    cases bs with
    | nil => exact absurd g.2.2.1 (by decide)
    | cons b bt => exact ⟨b, bt, rfl⟩
  have e0 : atI [D.int k, .tup ((b0 :: bt).map barD)] 0 = some (.int k) := rfl
  have e1 : atI [D.int k, .tup ((b0 :: bt).map barD)] 1 = some (.tup ((b0 :: bt).map barD)) := rfl
  have e2 : atI ((b0 :: bt).map barD) 0 = some (barD b0) := atI_nat (i := 0) rfl
  simp only [t_law_value]
  refine seq_ fun V hr _ _ hV => ?_
  simp only [dSet, dMake, dCons, dNil, dBin, dVar, dC, List.getElem?_cons_succ, List.getElem?_cons_zero]
  simp only [bxD, gIx, e0, e1, e2]
  refine make_box (bs := [b0]) (P := fun v M2 => V.nx [some (bxD k (b0 :: bt)), some v, none] M2) (take_box g 1 (by decide)) fun p hp => hV _ _ ?_
  refine seq_ fun V2 hr2 _ _ hV2 => ?_
  simp only [dFor, dIter, dSlice, dPart, dNoPart, dBin, dVar, dC, List.getElem?_cons_succ, List.getElem?_cons_zero]
  simp only [bxD, gIx, e1]
  rw [List.map_cons, cut1]
  simp only [seqD]
  refine forL_inv (fun n ds M' => ∃ (q : Addr) (x2 : Option D), ds = [some (bxD k (b0 :: bt)), some (.ref q), x2] ∧ M' q = some (insO kB k ((b0 :: bt).take (n + 1))) ∧ ∀ r, KpM r M M') (bt.map barD) 0 _ _ (fun i x hx ds M' hI Nx hN => ?_) ⟨p, none, rfl, mput_same, fun r => KpM.putN hp nofun⟩ ?_
  · obtain ⟨q, x2, rfl, hq, kp⟩ := hI
    rw [List.getElem?_map] at hx
    obtain ⟨b, hb, rfl⟩ := Option.map_eq_some_iff.mp hx
    simp only [dgN, List.set, dSet, dBinO, barD, dVar, List.getElem?_cons_succ, List.getElem?_cons_zero]
    rw [hq]
    have et : (b0 :: bt).take (0 + i + 1) ++ [b] = (b0 :: bt).take (0 + i + 1 + 1) := by
      rw [List.take_succ (i := 0 + i + 1), Nat.zero_add, List.getElem?_cons_succ, hb]; rfl
    refine ⟨rfl, q, k, _, b, rfl, hq, ?_, fun p2 hp2 => hN _ _ ⟨p2, _, rfl, ?_, fun r => (kp r).trans (KpM.putN hp2 nofun)⟩⟩
    · rw [et]; exact take_box g _ (by omega)
    · rw [mput_same, et]
  · rintro ds M' ⟨q, x2, rfl, hq, kp⟩
    refine hV2 _ _ ?_
    simp only [dRet, dVar, List.getElem?_cons_succ, List.getElem?_cons_zero]
    have et : (b0 :: bt).take (0 + (bt.map barD).length + 1) = b0 :: bt := by rw [Nat.zero_add, List.length_map, List.take_of_length_le]; simp
    rw [et] at hq
    exact Fz.here (h q M' hq kp)
end DL

set_option Elab.async false
set_option linter.all false
set_option maxRecDepth 100000
set_option maxHeartbeats 4000000
namespace DL
open PySem PySem.Spec PyProof.Rows L2
theorem cutX_ints {ns : List Int} {x : D} {n : Int} (h : x ∈ cutD (.int 0 :: ns.map D.int) none (some n)) : ∃ c, x = .int c := by
  have := cutD_mem h
  rcases List.mem_cons.mp this with rfl | h
  · exact ⟨0, rfl⟩
  · obtain ⟨c, _, rfl⟩ := List.mem_map.mp h
    exact ⟨c, rfl⟩
theorem rep_mulX {x : D} {n : Nat} {k : Int} {M : Mem} {P : D → Mem → Prop} (hk : k = n) (h2 : 2 ≤ n) (h3 : n ≤ 1000) (q : P (.tup (List.replicate n x)) M) : gMul (.tup [x]) (.int k) M P := by
  subst hk
  simp only [gMul]
  refine ⟨⟨by simp, by omega, by omega, by simp⟩, ?_⟩
  have e : (List.replicate ((n : Int)).toNat [x]).flatten = List.replicate n x := by simp
  rw [e]
  exact q
theorem deck_kp {M M' : Mem} {a : Addr} {n : Nat} (h : DeckAt M a n) (k : ∀ q, KpM q M M') : DeckAt M' a n := by
  obtain ⟨x, y, z, e, r⟩ := h
  refine ⟨x, y, z, ?_, r⟩
  rw [(k (a + 1)).at_ a (Nat.succ_ne_self a).symm (by rw [e]; nofun)]
  exact e
theorem dsm_box {k : Int} {bs : List Bar} (g : GBox k bs) (n : Nat) : dsm (n + 3) (bxD k bs) = true := by
  have hl := g.2.2.2.1
  simp only [bxD, dsm, List.length_cons, List.length_nil, List.length_map, List.all_cons, List.all_nil, Bool.and_true, Bool.and_eq_true, decide_eq_true_eq, List.all_eq_true, true_and]
  refine ⟨by omega, by omega, fun y hy => ?_⟩
  obtain ⟨b, hb, rfl⟩ := List.mem_map.mp hy
  have gb := g.2.2.2.2 b hb
  have hb7 := gb.2.1
  simp only [barD, dsm, List.length_map, Bool.and_eq_true, decide_eq_true_eq, List.all_eq_true]
  refine ⟨by omega, fun y hy => ?_⟩
  obtain ⟨l, hl, rfl⟩ := List.mem_map.mp hy
  have := canon_ok l
  rw [gb.2.2 l hl] at this
  cases n <;> simpa [dsm] using this
theorem dsm_text {k : Int} {bs : List Bar} (g : GBox k bs) (n : Nat) : dsm n (textD k bs) = true := by
  have := text_ok g
  cases n <;> simpa [dsm] using this
theorem bt_call {eB : Addr} {k : Int} {bs : List Bar} {M : Mem} {P : D → Mem → Prop} {PX : DX} (g : GBox k bs) (q : P (textD k bs) M) : sp_box_text eB [bxD k bs] M P PX := ⟨_, rfl, dkn_box g, .inr ⟨k, bs, rfl, g, q⟩⟩
def bsW : List Bar := [[[97, 98, 99, 100]], [[], [], [], [], [], [], []], [[98], [97, 100]]]
theorem cut0 (a b : D) : cutD [a, b] none (some 1) = [a] := rfl
section
variable {K : Fg} {mg : Str → Option Value} {sk : DSpE} {T : List (Addr × Str)} {Pt eB kB : Addr}
theorem l_law_k12 (hB : Lbl K mg sk eB "box +") (a : Addr) (ns : List Int) (hns : ns.length ≤ 63) :
    t_law_k12 sp_law_deck sp_law_a_box sp_law_writing (sp_Box_str kB) (sp_law_value kB) (sp_Box_read kB) (sp_Box_source kB) sp_box_in (sp_box_text eB) (sp_law_same 4) sp_law_known kB (dTry K mg sk T Pt) (dScr a ns) DX0 (dEnds fun d _ => d = .bl true) (dst 13 [.ref a]) (memT Pt T) := by
  have z : ∀ n : Nat, n ≤ 20 → n ≤ sizeLine := fun n h => by rw [sizeLine_eq]; omega
  simp only [t_law_k12]
  refine seq_ fun V hr _ _ hV => ?_
  simp only [dFor, dIter, dSlice, dScr, dNoPart, dPart, dC, seqD]
  refine ⟨rfl, ?_⟩
  refine forL_decW (fun k ds M' => (∃ x0 x1 x2 x3 x4 x5 x6 x7 x8 x9 x10 x11 x12 : Option D, ds = [x0, x1, x2, x3, x4, x5, x6, x7, x8, x9, x10, x11, x12]) ∧ TabOk T Pt M') _ _ _ (fun x hx k ds M hI V hV hR => ?_) ⟨⟨_, _, _, _, _, _, _, _, _, _, _, _, _, rfl⟩, memT_ok⟩ ?_
  · clear hr
    obtain ⟨⟨x0, x1, x2, x3, x4, x5, x6, x7, x8, x9, x10, x11, x12, rfl⟩, hM⟩ := hI
    obtain ⟨c, rfl⟩ := cutX_ints hx
    simp only [dgN, List.set]
    refine seq_ fun V1 _ _ _ hV1 => ?_
    simp only [dSet, dCall, dCons, dNil, dVar, dC, List.getElem?_cons_succ, List.getElem?_cons_zero]
    refine ⟨c, 12, rfl, by decide, by decide, fun p M1 np kp1 hd1 => ?_⟩
    have pne : p ≠ Pt := fun e => by rw [e, hM.1] at np; cases np
    have hM1 := hM.kp kp1 pne
    refine hV1 _ _ ?_
    simp only [List.set]
    refine seq_ fun V1 _ _ _ hV1 => ?_
    simp only [dFor, dRng1, dCons, dNil, dC]
    refine ⟨by decide, ?_⟩
    refine forL_decW (fun k ds M' => ∃ x3 x4 x5 x6 : Option D, ds = [x0, some (.int c), some (.ref p), x3, x4, x5, x6, x7, x8, x9, x10, x11, x12] ∧ TabOk T Pt M' ∧ DeckAt M' p (400 * k) ∧ (k < 12 → ∃ kk bs, x4 = some (bxD kk bs) ∧ x5 = some (textD kk bs) ∧ GBox kk bs)) _ _ _ (fun x hx k ds M hI V2 hV2 hR2 => ?_) ⟨_, _, _, _, rfl, hM1, hd1.less (by decide), fun h => absurd h (by simp [upto])⟩ ?_
    · clear hR2 hV hV1 hR
      obtain ⟨x3, x4, x5, x6, rfl, hM2, hd2, -⟩ := hI
      simp only [dgN, List.set]
      refine seq_ fun V1 _ _ _ hV1 => ?_
      simp only [dSet, dCall, dCons, dNil, dVar, dC, List.getElem?_cons_succ, List.getElem?_cons_zero]
      refine ⟨p, 7, 400 * k + 100, rfl, by decide, by decide, hd2.less (by omega), fun kk bs M3 gb hfw kp3 hd3 => hV1 _ _ ?_⟩
      simp only [List.set]
      refine seq_ fun V1 _ _ _ hV1 => ?_
      simp only [dSet, dCall, dCons, dNil, dVar, List.getElem?_cons_succ, List.getElem?_cons_zero]
      refine ⟨kk, bs, rfl, gb, hV1 _ _ ?_⟩
      simp only [List.set]
      refine seq_ fun V1 _ _ _ hV1 => ?_
      simp only [dSet, dLst, dCall, dProp, dCMeth, dStrO, dCons, dNil, dVar, dC, List.getElem?_cons_succ, List.getElem?_cons_zero]
      refine bt_call gb ⟨kk, bs, rfl, gb, trivial, kk, bs, rfl, gb, fun p2 hp2 => ?_⟩
      simp only [mput_same]
      refine ⟨trivial, p2, _, rfl, mput_same, kk, bs, rfl, gb, fun p3 M4 hp3 kp4 => ?_⟩
      simp only [hp3]
      refine ⟨trivial, p3, kk, bs, rfl, hp3, gb, ⟨_, rfl⟩, z 4 (by decide), hV1 _ _ ?_⟩
      have kpA : ∀ q, KpM q M3 M4 := fun q => (KpM.putN (a := q) (o := insO kB kk bs) hp2 nofun).trans (kp4 q)
      have hM4 := (hM2.kp kp3 pne).kp (kpA p) pne
      have hd4 := deck_kp hd3 kpA
      simp only [List.set]
      refine if_no (no_not (yes_same (.lst [textD kk bs, bxD kk bs, bxD kk bs, textD kk bs]) ?_ (fun P q => ?_) (fun P q => ?_))) (hV2 _ _ ⟨_, _, _, _, rfl, hM4, hd4.less (by omega), fun _ => ⟨kk, bs, rfl, rfl, gb⟩⟩)
      · have h1 := dsm_box gb 0
        have h2 := dsm_text gb 3
        have hunf : dsm 4 (.lst [textD kk bs, bxD kk bs, bxD kk bs, textD kk bs]) = (decide (([textD kk bs, bxD kk bs, bxD kk bs, textD kk bs] : List D).length ≤ 1000000) && ([textD kk bs, bxD kk bs, bxD kk bs, textD kk bs] : List D).all (dsm 3)) := rfl
        rw [hunf]
        simp only [List.all_cons, List.all_nil, h1, h2, Bool.and_true, Bool.and_self]
        exact decide_eq_true (by show 4 ≤ 1000000; omega)
      · simp only [dVar, List.getElem?_cons_succ, List.getElem?_cons_zero]
        exact q
      · simp only [dLst, dCons, dNil, dVar, List.getElem?_cons_succ, List.getElem?_cons_zero]
        exact ⟨z 4 (by decide), q⟩
    · rintro ds M2 ⟨x3, x4, x5, x6, rfl, hM2, hd2, h8⟩
      obtain ⟨kk, bs, rfl, rfl, gb⟩ := h8 (by decide)
      refine hV1 _ _ ?_
      clear hV1
      simp only [dFor, dIter, dLst, dApp, dSlice, dNoPart, dPart, dCons, dNil, dC, dVar, List.getElem?_cons_succ, List.getElem?_cons_zero]
      simp only [bxD, gList, cut0, seqD, List.length_cons, List.length_nil]
      refine ⟨z _ (by decide), ?_⟩
      refine forL_decW (fun j ds M' => ∃ x7 : Option D, ds = [x0, some (.int c), some (.ref p), x3, some (bxD kk bs), some (textD kk bs), x6, x7, x8, x9, x10, x11, x12] ∧ M' = M2) _ _ _ (fun x hx j ds M' hI V4 hV4 _ => ?_) ⟨x7, rfl, rfl⟩ ?_
      · obtain ⟨x7, rfl, rfl⟩ := hI
        have hkb := dkn_box gb
        have hxb : dkn 55 x = true ∧ isBox x = false := by
          simp only [List.mem_cons, List.not_mem_nil, or_false] at hx
          rcases hx with rfl | rfl | rfl | rfl
          · exact ⟨rfl, rfl⟩
          · exact ⟨dsm_dkn 55 _ (dsm_text gb 55), rfl⟩
          · refine ⟨?_, rfl⟩
            simpa [bxD, dkn] using hkb
          · exact ⟨by simp [dkn], rfl⟩
        simp only [dgN, List.set]
        refine try_ne hM2 hB (by decide +kernel) (fun PX P h => ?_) (hV4 _ _ ⟨_, rfl, rfl⟩)
        simp only [dCall, dCons, dNil, dVar, List.getElem?_cons_succ, List.getElem?_cons_zero]
        exact ⟨x, rfl, hxb.1, .inl ⟨hxb.2, h⟩⟩
      rintro ds M' ⟨x7, rfl, rfl⟩
      exact hV _ _ ⟨⟨_, _, _, _, _, _, _, _, _, _, _, _, _, rfl⟩, hM2⟩
  · rintro ds M ⟨⟨x0, x1, x2, x3, x4, x5, x6, x7, x8, x9, x10, x11, x12, rfl⟩, hM⟩
    refine hV _ _ ?_
    clear hV
    refine seq_ fun V hr _ _ hV => ?_
    simp only [dAsg, dCall, dNil]
    refine ⟨rfl, ?_⟩
    simp only [dgT, dgCons, dgNil, dgN, List.set]
    refine ⟨rfl, hV _ _ ?_⟩
    have g2 : GBox 1 [[[97], [], [98]], [[98], []]] := isBoxG _ _ (by decide +kernel)
    have g4 : GBox 0 [[[], []]] := isBoxG _ _ (by decide +kernel)
    have gW : GBox 3 bsW := isBoxG _ _ (by decide +kernel)
    have sp : ∀ {k : Int} {bs : List Bar} (g : GBox k bs) (P : D → Mem → Prop) (M : Mem), P (.lst ((hdN k :: bs.map lineN).map sD)) M → (match D.str "\n" with | .str b => ((b.length == 0) = false ∧ (sN (textN k bs)).length + 2 ≤ sizeLine) ∧ P (.lst ((Txt.split (sN (textN k bs)) b).map D.str)) M | _ => False) := fun {k bs} g P M h => by
      refine ⟨⟨by decide +kernel, ?_⟩, ?_⟩
      · have := text_len g
        rw [sizeLine_eq]
        show (textN k bs).length + 2 ≤ _
        omega
      · have es : Txt.split (sN (textN k bs)) "\n" = (hdN k :: bs.map lineN).map sN := split_text g
        rw [es, List.map_map]
        exact h
    refine seq_ fun V hr _ _ hV => ?_
    refine if_no (no_or (no_ne (.lst [.str "hold 1", .str "a - b", .str "b -"]) (by decide +kernel) (fun P q => ?_) (fun P q => ?_)) (no_ne (.str "hold 0\n- -") (by decide +kernel) (fun P q => ?_) (fun P q => q))) (hV _ _ ?_)
    · simp only [dSplit, dCall, dCons, dNil, dVar, dC, List.getElem?_cons_succ, List.getElem?_cons_zero]
      exact bt_call g2 (sp g2 P M q)
    · simp only [dLst, dCons, dNil, dC, List.length_cons, List.length_nil]
      exact ⟨z _ (by decide), q⟩
    · simp only [dCall, dCons, dNil, dVar, List.getElem?_cons_succ, List.getElem?_cons_zero]
      exact bt_call g4 q
    refine seq_ fun V hr _ _ hV => ?_
    simp only [dSet, dTup, dBin, dCons, dNil, dC, List.length_cons, List.length_nil]
    refine ⟨z _ (by decide), z _ (by decide), rep_mulX (n := 7) rfl (by decide) (by decide) ⟨z _ (by decide), z _ (by decide), z _ (by decide), hV _ _ ?_⟩⟩
    simp only [List.set]
    have eW : D.tup [.int 3, .tup [.tup [.str "abcd"], .tup (List.replicate 7 (.str "")), .tup [.str "b", .str "ad"]]] = bxD 3 bsW := rfl
    rw [eW]
    refine seq_ fun V hr _ _ hV => ?_
    refine if_no (no_ne (.str "b ad") (by decide +kernel) (fun P q => ?_) (fun P q => q)) (hV _ _ ?_)
    · simp only [dBin, dSplit, dCall, dCons, dNil, dVar, dC, List.getElem?_cons_succ, List.getElem?_cons_zero]
      refine bt_call gW (sp gW (fun d M => gIx d (.int 3) M P) M ?_)
      have e3 : atI ((hdN 3 :: bsW.map lineN).map sD) 3 = some (.str "b ad") := rfl
      simp only [gIx, e3]
      exact q
    simp only [dRet]
    refine is_eq (bxD 3 bsW) (by decide +kernel) (fun P q => ?_) (fun P q => ?_) _ (Fz.here rfl)
    · simp only [dCall, dCons, dNil, dC]
      exact ⟨3, bsW, rfl, gW, q⟩
    · simp only [dVar, List.getElem?_cons_succ, List.getElem?_cons_zero]
      exact q
end
end DL

set_option Elab.async false
set_option linter.all false
set_option maxRecDepth 100000
set_option maxHeartbeats 4000000
namespace DL
open PySem PySem.Spec PyProof.Rows L2
/-! ### the head's facts -/
abbrev Sx (w : World) (h : Heap) (K : Fg) : Prop := He.SaysX faL fnL [] [("law", none)] exK w h K
section
variable {P : Program} {w : World} {K : Fg} {h base : Heap} {mg : Str → Option Value}
theorem mr (c : Sx w h K) : exK0 K = true := (He.ba c.more).1
abbrev Sy (w : World) (h : Heap) (K : Fg) : Prop := SaysY faL fnL daL [] [("law", none)] exK w h K
theorem gl (X : K.In h) (G : h.Ns mainGlobals mg) (c : Sx w h K) (x : Str) (hx : x ∈ gloL) : mg x = some (.ref (He.ga K x)) :=
  He.glo_ok X G (c.t.d.facts (f := .glo x) (List.mem_append_left _ (List.mem_map_of_mem hx)))
theorem fr (X : K.In h) (G : h.Ns mainGlobals mg) (c : Sx w h K) (x : Str) (hx : x ∈ freeL) : mg x = none :=
  He.free_ok X G (c.t.d.facts (f := .free x) (List.mem_append_right _ (List.mem_append_left _ (List.mem_map_of_mem hx))))
theorem blt (X : K.In h) (G : h.Ns mainGlobals mg) (c : Sx w h K) : Blt mg :=
  ⟨fr X G c _ (by decide +kernel), fr X G c _ (by decide +kernel), fr X G c _ (by decide +kernel), fr X G c _ (by decide +kernel), fr X G c _ (by decide +kernel), fr X G c _ (by decide +kernel), fr X G c _ (by decide +kernel), fr X G c _ (by decide +kernel), fr X G c _ (by decide +kernel), fr X G c _ (by decide +kernel), fr X G c _ (by decide +kernel), fr X G c _ (by decide +kernel), fr X G c _ (by decide +kernel), fr X G c _ (by decide +kernel), fr X G c _ (by decide +kernel), fr X G c _ (by decide +kernel)⟩
theorem gt_TEETH (X : K.In h) (G : h.Ns mainGlobals mg) (c : Sx w h K) : GCon K mg "TEETH" cTEETH := by
  obtain ⟨h0, _⟩ := He.ba (mr c)
  have h1 : He.tupB K "TEETH" [.str "a", .str "b", .str "c", .str "d"] = true := by
    unfold tupHd at h0
    try simp only [Bool.and_eq_true] at h0
    first | exact h0 | exact h0.1 | exact h0.2 | exact h0.1.1 | exact h0.1.2
  refine ⟨.ref (He.ga K "TEETH"), .ref (He.ga K "TEETH"), gl X G c "TEETH" (by decide +kernel), rfl, fun A H => ?_⟩
  exact .tup (He.tupB_ok h1 H) (.cons (.str _) (.cons (.str _) (.cons (.str _) (.cons (.str _) (.nil)))))
theorem gt_HOLDS (X : K.In h) (G : h.Ns mainGlobals mg) (c : Sx w h K) : GCon K mg "HOLDS" cHOLDS := by
  obtain ⟨h0, _⟩ := He.ba (mr c)
  have h1 : He.tupB K "HOLDS" [.str "hold 0", .str "hold 1", .str "hold 2", .str "hold 3"] = true := by
    unfold tupHd at h0
    try simp only [Bool.and_eq_true] at h0
    first | exact h0 | exact h0.1 | exact h0.2 | exact h0.1.1 | exact h0.1.2
  refine ⟨.ref (He.ga K "HOLDS"), .ref (He.ga K "HOLDS"), gl X G c "HOLDS" (by decide +kernel), rfl, fun A H => ?_⟩
  exact .tup (He.tupB_ok h1 H) (.cons (.str _) (.cons (.str _) (.cons (.str _) (.cons (.str _) (.nil)))))
theorem gi_GREAT (X : K.In h) (G : h.Ns mainGlobals mg) (c : Sx w h K) : GCon K mg "GREAT" (.int 1000000000000000000000000000000) := by
  obtain ⟨t, e⟩ := He.int_ok X G (c.t.d.facts (f := .int "GREAT" 1000000000000000000000000000000) (List.mem_append_right _ (List.mem_append_right _ (List.mem_append_left _ (List.mem_cons_self)))))
  exact ⟨.int 1000000000000000000000000000000, _, e, ⟨_, rfl⟩, fun A H => .int _⟩
theorem gCls (X : K.In h) (G : h.Ns mainGlobals mg) (c : Sx w h K) {x : Str} (hx : x ∈ gloL) : GCon K mg x (.ref (He.ga K x)) :=
  ⟨.ref (He.ga K x), .ref (He.ga K x), gl X G c x hx, rfl, fun A H => .ref _⟩
theorem eAt (X : K.In h) (G : h.Ns mainGlobals mg) (c : Sx w h K) {x : Str} (hx : x ∈ gloL) (he : x ∈ errN) : ErrAt K mg x (He.ga K x) := by
  obtain ⟨h1, h2, h3, h4⟩ := He.exc_ok (c.t.d.facts (f := .exc x) (List.mem_append_right _ (List.mem_append_right _ (List.mem_append_right _ (List.mem_append_left _ (List.mem_map_of_mem he))))))
  exact ⟨gl X G c x hx, h1, h2, h3, h4⟩
def kinC (K : Fg) : List D := [.ref (He.ga K "InvalidBox"), .ref (He.ga K "InvalidBeginning"), .ref (He.ga K "InvalidTick"), .ref (He.ga K "InvalidTooth"), .ref (He.ga K "InvalidFacts"), .ref (He.ga K "InvalidNumber"), .ref (He.ga K "InvalidIndex"), .ref (He.ga K "NoBeginning"), .ref (He.ga K "Unlike"), .ref (He.ga K "NothingToUndo"), .ref (He.ga K "TooMany"), .ref (He.ga K "InvalidText"), .ty "ValueError"]
theorem kinC_eq : kinC K = (kinN.map fun y => D.ref (He.ga K y)) ++ [.ty "ValueError"] := rfl
def flagsOf (x : Str) : List Bool := (kinN.map fun y => y == x) ++ [true]
def lblOf (x : Str) : Str := Txt.join (sN [32]) ((kinL (flagsOf x)).map sN)
theorem lbl (X : K.In h) (G : h.Ns mainGlobals mg) (c : Sx w h K) {x l : Str} (hx : x ∈ errN) (hl : lblOf x = l) : Lbl K mg (sp_law_kin (kinC K)) (He.ga K x) l := by
  obtain ⟨_, h2⟩ := He.ba (mr c)
  obtain ⟨h3, h4⟩ := He.ba (List.all_eq_true.mp h2 x hx)
  obtain ⟨k1, k2⟩ := He.ba h3
  obtain ⟨e1, h4⟩ := He.ba h4
  obtain ⟨e2, h4⟩ := He.ba h4
  obtain ⟨e3, h4⟩ := He.ba h4
  obtain ⟨e4, h4⟩ := He.ba h4
  obtain ⟨e5, h4⟩ := He.ba h4
  obtain ⟨e6, e7⟩ := He.ba h4
  have ef : ∀ f ∈ [He.Fa.exm x "InvalidText" false, .exm x "TooMany" false, .exm x "BoxError" true], f ∈ faL := fun f hf =>
    List.mem_append_right _ (List.mem_append_right _ (List.mem_append_right _ (List.mem_append_right _ (List.mem_flatMap.mpr ⟨x, hx, hf⟩))))
  obtain ⟨_, _, q3, _⟩ := He.exc_ok (c.t.d.facts (f := .exc x) (List.mem_append_right _ (List.mem_append_right _ (List.mem_append_right _ (List.mem_append_left _ (List.mem_map_of_mem hx))))))
  refine ⟨⟨⟨of_decide_eq_true e1, of_decide_eq_true e2, q3, e3, of_decide_eq_true e4, of_decide_eq_true e5, of_decide_eq_true e6, of_decide_eq_true e7⟩, ?_, ?_, ?_⟩, fun a M P' q => ?_⟩
  · exact ⟨_, gl X G c "InvalidText" (by decide +kernel), He.exm_ok (c.t.d.facts (ef _ List.mem_cons_self))⟩
  · exact ⟨_, gl X G c "TooMany" (by decide +kernel), He.exm_ok (c.t.d.facts (ef _ (List.mem_cons_of_mem _ List.mem_cons_self)))⟩
  · exact ⟨_, gl X G c "BoxError" (by decide +kernel), He.exm_ok (c.t.d.facts (ef _ (List.mem_cons_of_mem _ (List.mem_cons_of_mem _ List.mem_cons_self))))⟩
  · refine ⟨a, flagsOf x, rfl, rfl, fun i d f hi hf M Q q => ?_, by rw [show Txt.join (sN [32]) ((kinL (flagsOf x)).map sN) = l from hl]; exact q⟩
    rw [kinC_eq] at hi
    unfold flagsOf at hf
    by_cases h12 : i < kinN.length
    · rw [List.getElem?_append_left (by rw [List.length_map]; exact h12), List.getElem?_map, List.getElem?_eq_getElem h12] at hi hf
      have hi' := Option.some.inj hi
      have hf' := Option.some.inj hf
      have z := of_decide_eq_true (List.all_eq_true.mp k1 _ (List.getElem_mem h12))
      rw [← hi']
      exact ⟨rfl, _, z, by rw [show (kinN[i] == x) = f from hf']; exact q⟩
    · rw [List.getElem?_append_right (by rw [List.length_map]; omega), List.length_map] at hi hf
      have : i - kinN.length = 0 := by
        by_cases z : i - kinN.length = 0
        · exact z
        · exfalso
          have : ([.ty "ValueError"] : List D)[i - kinN.length]? = none := List.getElem?_eq_none (by simp; omega)
          rw [this] at hi
          cases hi
      rw [this] at hi hf
      cases hi
      cases hf
      exact ⟨rfl, _, of_decide_eq_true k2, q⟩
end
theorem len_is_within {K : Fg} : ∀ ds M P PX, sp_is_within ds M P PX → ds.length = 3 := by
  intro ds M P PX h
  unfold sp_is_within at h
  first | (obtain ⟨rfl, _⟩ := h; rfl) | (obtain ⟨_, rfl, _⟩ := h; rfl) | (obtain ⟨_, _, rfl, _⟩ := h; rfl) | (obtain ⟨_, _, _, rfl, _⟩ := h; rfl) | (obtain ⟨_, _, _, _, rfl, _⟩ := h; rfl) | (obtain ⟨_, _, _, _, _, rfl, _⟩ := h; rfl) | (obtain ⟨_, _, _, _, _, _, rfl, _⟩ := h; rfl) | (obtain ⟨_, _, _, _, _, _, _, rfl, _⟩ := h; rfl) | (split at h <;> first | rfl | exact h.elim)
theorem len_has_items {K : Fg} : ∀ ds M P PX, sp_has_items ds M P PX → ds.length = 3 := by
  intro ds M P PX h
  unfold sp_has_items at h
  first | (obtain ⟨rfl, _⟩ := h; rfl) | (obtain ⟨_, rfl, _⟩ := h; rfl) | (obtain ⟨_, _, rfl, _⟩ := h; rfl) | (obtain ⟨_, _, _, rfl, _⟩ := h; rfl) | (obtain ⟨_, _, _, _, rfl, _⟩ := h; rfl) | (obtain ⟨_, _, _, _, _, rfl, _⟩ := h; rfl) | (obtain ⟨_, _, _, _, _, _, rfl, _⟩ := h; rfl) | (obtain ⟨_, _, _, _, _, _, _, rfl, _⟩ := h; rfl) | (split at h <;> first | rfl | exact h.elim)
theorem len_are_teeth {K : Fg} : ∀ ds M P PX, sp_are_teeth ds M P PX → ds.length = 1 := by
  intro ds M P PX h
  unfold sp_are_teeth at h
  first | (obtain ⟨rfl, _⟩ := h; rfl) | (obtain ⟨_, rfl, _⟩ := h; rfl) | (obtain ⟨_, _, rfl, _⟩ := h; rfl) | (obtain ⟨_, _, _, rfl, _⟩ := h; rfl) | (obtain ⟨_, _, _, _, rfl, _⟩ := h; rfl) | (obtain ⟨_, _, _, _, _, rfl, _⟩ := h; rfl) | (obtain ⟨_, _, _, _, _, _, rfl, _⟩ := h; rfl) | (obtain ⟨_, _, _, _, _, _, _, rfl, _⟩ := h; rfl) | (split at h <;> first | rfl | exact h.elim)
theorem len_word_of {K : Fg} : ∀ ds M P PX, sp_word_of ds M P PX → ds.length = 1 := by
  intro ds M P PX h
  unfold sp_word_of at h
  first | (obtain ⟨rfl, _⟩ := h; rfl) | (obtain ⟨_, rfl, _⟩ := h; rfl) | (obtain ⟨_, _, rfl, _⟩ := h; rfl) | (obtain ⟨_, _, _, rfl, _⟩ := h; rfl) | (obtain ⟨_, _, _, _, rfl, _⟩ := h; rfl) | (obtain ⟨_, _, _, _, _, rfl, _⟩ := h; rfl) | (obtain ⟨_, _, _, _, _, _, rfl, _⟩ := h; rfl) | (obtain ⟨_, _, _, _, _, _, _, rfl, _⟩ := h; rfl) | (split at h <;> first | rfl | exact h.elim)
theorem len_law_deck {K : Fg} : ∀ ds M P PX, sp_law_deck ds M P PX → ds.length = 2 := by
  intro ds M P PX h
  unfold sp_law_deck at h
  first | (obtain ⟨rfl, _⟩ := h; rfl) | (obtain ⟨_, rfl, _⟩ := h; rfl) | (obtain ⟨_, _, rfl, _⟩ := h; rfl) | (obtain ⟨_, _, _, rfl, _⟩ := h; rfl) | (obtain ⟨_, _, _, _, rfl, _⟩ := h; rfl) | (obtain ⟨_, _, _, _, _, rfl, _⟩ := h; rfl) | (obtain ⟨_, _, _, _, _, _, rfl, _⟩ := h; rfl) | (obtain ⟨_, _, _, _, _, _, _, rfl, _⟩ := h; rfl) | (split at h <;> first | rfl | exact h.elim)
theorem len_law_pick {K : Fg} : ∀ ds M P PX, sp_law_pick ds M P PX → ds.length = 2 := by
  intro ds M P PX h
  unfold sp_law_pick at h
  first | (obtain ⟨rfl, _⟩ := h; rfl) | (obtain ⟨_, rfl, _⟩ := h; rfl) | (obtain ⟨_, _, rfl, _⟩ := h; rfl) | (obtain ⟨_, _, _, rfl, _⟩ := h; rfl) | (obtain ⟨_, _, _, _, rfl, _⟩ := h; rfl) | (obtain ⟨_, _, _, _, _, rfl, _⟩ := h; rfl) | (obtain ⟨_, _, _, _, _, _, rfl, _⟩ := h; rfl) | (obtain ⟨_, _, _, _, _, _, _, rfl, _⟩ := h; rfl) | (split at h <;> first | rfl | exact h.elim)
theorem len_law_sort {K : Fg} : ∀ ds M P PX, sp_law_sort ds M P PX → ds.length = 1 := by
  intro ds M P PX h
  unfold sp_law_sort at h
  first | (obtain ⟨rfl, _⟩ := h; rfl) | (obtain ⟨_, rfl, _⟩ := h; rfl) | (obtain ⟨_, _, rfl, _⟩ := h; rfl) | (obtain ⟨_, _, _, rfl, _⟩ := h; rfl) | (obtain ⟨_, _, _, _, rfl, _⟩ := h; rfl) | (obtain ⟨_, _, _, _, _, rfl, _⟩ := h; rfl) | (obtain ⟨_, _, _, _, _, _, rfl, _⟩ := h; rfl) | (obtain ⟨_, _, _, _, _, _, _, rfl, _⟩ := h; rfl) | (split at h <;> first | rfl | exact h.elim)
theorem len_law_kin {cs : List D} : ∀ g ds M P, sp_law_kin cs g ds M P → ds.length = 1 := fun g ds M P ⟨_, _, e, _⟩ => by rw [e]; rfl
theorem len_law_known {K : Fg} : ∀ ds M P PX, sp_law_known ds M P PX → ds.length = 0 := by
  intro ds M P PX h
  unfold sp_law_known at h
  first | (obtain ⟨rfl, _⟩ := h; rfl) | (obtain ⟨_, rfl, _⟩ := h; rfl) | (obtain ⟨_, _, rfl, _⟩ := h; rfl) | (obtain ⟨_, _, _, rfl, _⟩ := h; rfl) | (obtain ⟨_, _, _, _, rfl, _⟩ := h; rfl) | (obtain ⟨_, _, _, _, _, rfl, _⟩ := h; rfl) | (obtain ⟨_, _, _, _, _, _, rfl, _⟩ := h; rfl) | (obtain ⟨_, _, _, _, _, _, _, rfl, _⟩ := h; rfl) | (split at h <;> first | rfl | exact h.elim)
theorem len_law_writing {K : Fg} : ∀ ds M P PX, sp_law_writing ds M P PX → ds.length = 1 := by
  intro ds M P PX h
  unfold sp_law_writing at h
  first | (obtain ⟨rfl, _⟩ := h; rfl) | (obtain ⟨_, rfl, _⟩ := h; rfl) | (obtain ⟨_, _, rfl, _⟩ := h; rfl) | (obtain ⟨_, _, _, rfl, _⟩ := h; rfl) | (obtain ⟨_, _, _, _, rfl, _⟩ := h; rfl) | (obtain ⟨_, _, _, _, _, rfl, _⟩ := h; rfl) | (obtain ⟨_, _, _, _, _, _, rfl, _⟩ := h; rfl) | (obtain ⟨_, _, _, _, _, _, _, rfl, _⟩ := h; rfl) | (split at h <;> first | rfl | exact h.elim)
theorem len_Box_source {K : Fg} : ∀ ds M P PX, (sp_Box_source (kBox K)) ds M P PX → ds.length = 1 := by
  intro ds M P PX h
  unfold sp_Box_source at h
  first | (obtain ⟨rfl, _⟩ := h; rfl) | (obtain ⟨_, rfl, _⟩ := h; rfl) | (obtain ⟨_, _, rfl, _⟩ := h; rfl) | (obtain ⟨_, _, _, rfl, _⟩ := h; rfl) | (obtain ⟨_, _, _, _, rfl, _⟩ := h; rfl) | (obtain ⟨_, _, _, _, _, rfl, _⟩ := h; rfl) | (obtain ⟨_, _, _, _, _, _, rfl, _⟩ := h; rfl) | (obtain ⟨_, _, _, _, _, _, _, rfl, _⟩ := h; rfl) | (split at h <;> first | rfl | exact h.elim)
theorem len_is_barrel {K : Fg} : ∀ ds M P PX, sp_is_barrel ds M P PX → ds.length = 1 := by
  intro ds M P PX h
  unfold sp_is_barrel at h
  first | (obtain ⟨rfl, _⟩ := h; rfl) | (obtain ⟨_, rfl, _⟩ := h; rfl) | (obtain ⟨_, _, rfl, _⟩ := h; rfl) | (obtain ⟨_, _, _, rfl, _⟩ := h; rfl) | (obtain ⟨_, _, _, _, rfl, _⟩ := h; rfl) | (obtain ⟨_, _, _, _, _, rfl, _⟩ := h; rfl) | (obtain ⟨_, _, _, _, _, _, rfl, _⟩ := h; rfl) | (obtain ⟨_, _, _, _, _, _, _, rfl, _⟩ := h; rfl) | (split at h <;> first | rfl | exact h.elim)
theorem len_lines_of {K : Fg} : ∀ ds M P PX, sp_lines_of ds M P PX → ds.length = 1 := by
  intro ds M P PX h
  unfold sp_lines_of at h
  first | (obtain ⟨rfl, _⟩ := h; rfl) | (obtain ⟨_, rfl, _⟩ := h; rfl) | (obtain ⟨_, _, rfl, _⟩ := h; rfl) | (obtain ⟨_, _, _, rfl, _⟩ := h; rfl) | (obtain ⟨_, _, _, _, rfl, _⟩ := h; rfl) | (obtain ⟨_, _, _, _, _, rfl, _⟩ := h; rfl) | (obtain ⟨_, _, _, _, _, _, rfl, _⟩ := h; rfl) | (obtain ⟨_, _, _, _, _, _, _, rfl, _⟩ := h; rfl) | (split at h <;> first | rfl | exact h.elim)
theorem len_teeth_in {K : Fg} : ∀ ds M P PX, sp_teeth_in ds M P PX → ds.length = 1 := by
  intro ds M P PX h
  unfold sp_teeth_in at h
  first | (obtain ⟨rfl, _⟩ := h; rfl) | (obtain ⟨_, rfl, _⟩ := h; rfl) | (obtain ⟨_, _, rfl, _⟩ := h; rfl) | (obtain ⟨_, _, _, rfl, _⟩ := h; rfl) | (obtain ⟨_, _, _, _, rfl, _⟩ := h; rfl) | (obtain ⟨_, _, _, _, _, rfl, _⟩ := h; rfl) | (obtain ⟨_, _, _, _, _, _, rfl, _⟩ := h; rfl) | (obtain ⟨_, _, _, _, _, _, _, rfl, _⟩ := h; rfl) | (split at h <;> first | rfl | exact h.elim)
theorem len_law_one {K : Fg} : ∀ ds M P PX, sp_law_one ds M P PX → ds.length = 2 := by
  intro ds M P PX h
  unfold sp_law_one at h
  first | (obtain ⟨rfl, _⟩ := h; rfl) | (obtain ⟨_, rfl, _⟩ := h; rfl) | (obtain ⟨_, _, rfl, _⟩ := h; rfl) | (obtain ⟨_, _, _, rfl, _⟩ := h; rfl) | (obtain ⟨_, _, _, _, rfl, _⟩ := h; rfl) | (obtain ⟨_, _, _, _, _, rfl, _⟩ := h; rfl) | (obtain ⟨_, _, _, _, _, _, rfl, _⟩ := h; rfl) | (obtain ⟨_, _, _, _, _, _, _, rfl, _⟩ := h; rfl) | (split at h <;> first | rfl | exact h.elim)
theorem len_law_same {K : Fg} {d : Nat} : ∀ ds M P PX, (sp_law_same d) ds M P PX → ds.length = 2 := by
  intro ds M P PX h
  unfold sp_law_same at h
  first | (obtain ⟨rfl, _⟩ := h; rfl) | (obtain ⟨_, rfl, _⟩ := h; rfl) | (obtain ⟨_, _, rfl, _⟩ := h; rfl) | (obtain ⟨_, _, _, rfl, _⟩ := h; rfl) | (obtain ⟨_, _, _, _, rfl, _⟩ := h; rfl) | (obtain ⟨_, _, _, _, _, rfl, _⟩ := h; rfl) | (obtain ⟨_, _, _, _, _, _, rfl, _⟩ := h; rfl) | (obtain ⟨_, _, _, _, _, _, _, rfl, _⟩ := h; rfl) | (split at h <;> first | rfl | exact h.elim)
theorem len_is_box_value {K : Fg} : ∀ ds M P PX, sp_is_box_value ds M P PX → ds.length = 1 := by
  intro ds M P PX h
  unfold sp_is_box_value at h
  first | (obtain ⟨rfl, _⟩ := h; rfl) | (obtain ⟨_, rfl, _⟩ := h; rfl) | (obtain ⟨_, _, rfl, _⟩ := h; rfl) | (obtain ⟨_, _, _, rfl, _⟩ := h; rfl) | (obtain ⟨_, _, _, _, rfl, _⟩ := h; rfl) | (obtain ⟨_, _, _, _, _, rfl, _⟩ := h; rfl) | (obtain ⟨_, _, _, _, _, _, rfl, _⟩ := h; rfl) | (obtain ⟨_, _, _, _, _, _, _, rfl, _⟩ := h; rfl) | (split at h <;> first | rfl | exact h.elim)
theorem len_barrel_in {K : Fg} : ∀ ds M P PX, sp_barrel_in ds M P PX → ds.length = 1 := by
  intro ds M P PX h
  unfold sp_barrel_in at h
  first | (obtain ⟨rfl, _⟩ := h; rfl) | (obtain ⟨_, rfl, _⟩ := h; rfl) | (obtain ⟨_, _, rfl, _⟩ := h; rfl) | (obtain ⟨_, _, _, rfl, _⟩ := h; rfl) | (obtain ⟨_, _, _, _, rfl, _⟩ := h; rfl) | (obtain ⟨_, _, _, _, _, rfl, _⟩ := h; rfl) | (obtain ⟨_, _, _, _, _, _, rfl, _⟩ := h; rfl) | (obtain ⟨_, _, _, _, _, _, _, rfl, _⟩ := h; rfl) | (split at h <;> first | rfl | exact h.elim)
theorem len_law_some_teeth {K : Fg} : ∀ ds M P PX, sp_law_some_teeth ds M P PX → ds.length = 1 := by
  intro ds M P PX h
  unfold sp_law_some_teeth at h
  first | (obtain ⟨rfl, _⟩ := h; rfl) | (obtain ⟨_, rfl, _⟩ := h; rfl) | (obtain ⟨_, _, rfl, _⟩ := h; rfl) | (obtain ⟨_, _, _, rfl, _⟩ := h; rfl) | (obtain ⟨_, _, _, _, rfl, _⟩ := h; rfl) | (obtain ⟨_, _, _, _, _, rfl, _⟩ := h; rfl) | (obtain ⟨_, _, _, _, _, _, rfl, _⟩ := h; rfl) | (obtain ⟨_, _, _, _, _, _, _, rfl, _⟩ := h; rfl) | (split at h <;> first | rfl | exact h.elim)
theorem len_Box_str {K : Fg} : ∀ ds M P PX, (sp_Box_str (kBox K)) ds M P PX → ds.length = 1 := by
  intro ds M P PX h
  unfold sp_Box_str at h
  first | (obtain ⟨rfl, _⟩ := h; rfl) | (obtain ⟨_, rfl, _⟩ := h; rfl) | (obtain ⟨_, _, rfl, _⟩ := h; rfl) | (obtain ⟨_, _, _, rfl, _⟩ := h; rfl) | (obtain ⟨_, _, _, _, rfl, _⟩ := h; rfl) | (obtain ⟨_, _, _, _, _, rfl, _⟩ := h; rfl) | (obtain ⟨_, _, _, _, _, _, rfl, _⟩ := h; rfl) | (obtain ⟨_, _, _, _, _, _, _, rfl, _⟩ := h; rfl) | (split at h <;> first | rfl | exact h.elim)
theorem len_need_box {K : Fg} : ∀ ds M P PX, (sp_need_box (He.ga K "InvalidBox")) ds M P PX → ds.length = 1 := by
  intro ds M P PX h
  unfold sp_need_box at h
  first | (obtain ⟨rfl, _⟩ := h; rfl) | (obtain ⟨_, rfl, _⟩ := h; rfl) | (obtain ⟨_, _, rfl, _⟩ := h; rfl) | (obtain ⟨_, _, _, rfl, _⟩ := h; rfl) | (obtain ⟨_, _, _, _, rfl, _⟩ := h; rfl) | (obtain ⟨_, _, _, _, _, rfl, _⟩ := h; rfl) | (obtain ⟨_, _, _, _, _, _, rfl, _⟩ := h; rfl) | (obtain ⟨_, _, _, _, _, _, _, rfl, _⟩ := h; rfl) | (split at h <;> first | rfl | exact h.elim)
theorem len_box_in {K : Fg} : ∀ ds M P PX, sp_box_in ds M P PX → ds.length = 1 := by
  intro ds M P PX h
  unfold sp_box_in at h
  first | (obtain ⟨rfl, _⟩ := h; rfl) | (obtain ⟨_, rfl, _⟩ := h; rfl) | (obtain ⟨_, _, rfl, _⟩ := h; rfl) | (obtain ⟨_, _, _, rfl, _⟩ := h; rfl) | (obtain ⟨_, _, _, _, rfl, _⟩ := h; rfl) | (obtain ⟨_, _, _, _, _, rfl, _⟩ := h; rfl) | (obtain ⟨_, _, _, _, _, _, rfl, _⟩ := h; rfl) | (obtain ⟨_, _, _, _, _, _, _, rfl, _⟩ := h; rfl) | (split at h <;> first | rfl | exact h.elim)
theorem len_checked {K : Fg} : ∀ ds M P PX, sp_checked ds M P PX → ds.length = 1 := by
  intro ds M P PX h
  unfold sp_checked at h
  first | (obtain ⟨rfl, _⟩ := h; rfl) | (obtain ⟨_, rfl, _⟩ := h; rfl) | (obtain ⟨_, _, rfl, _⟩ := h; rfl) | (obtain ⟨_, _, _, rfl, _⟩ := h; rfl) | (obtain ⟨_, _, _, _, rfl, _⟩ := h; rfl) | (obtain ⟨_, _, _, _, _, rfl, _⟩ := h; rfl) | (obtain ⟨_, _, _, _, _, _, rfl, _⟩ := h; rfl) | (obtain ⟨_, _, _, _, _, _, _, rfl, _⟩ := h; rfl) | (split at h <;> first | rfl | exact h.elim)
theorem len_law_a_box {K : Fg} : ∀ ds M P PX, sp_law_a_box ds M P PX → ds.length = 2 := by
  intro ds M P PX h
  unfold sp_law_a_box at h
  first | (obtain ⟨rfl, _⟩ := h; rfl) | (obtain ⟨_, rfl, _⟩ := h; rfl) | (obtain ⟨_, _, rfl, _⟩ := h; rfl) | (obtain ⟨_, _, _, rfl, _⟩ := h; rfl) | (obtain ⟨_, _, _, _, rfl, _⟩ := h; rfl) | (obtain ⟨_, _, _, _, _, rfl, _⟩ := h; rfl) | (obtain ⟨_, _, _, _, _, _, rfl, _⟩ := h; rfl) | (obtain ⟨_, _, _, _, _, _, _, rfl, _⟩ := h; rfl) | (split at h <;> first | rfl | exact h.elim)
theorem len_box_text {K : Fg} : ∀ ds M P PX, (sp_box_text (He.ga K "InvalidBox")) ds M P PX → ds.length = 1 := by
  intro ds M P PX h
  unfold sp_box_text at h
  first | (obtain ⟨rfl, _⟩ := h; rfl) | (obtain ⟨_, rfl, _⟩ := h; rfl) | (obtain ⟨_, _, rfl, _⟩ := h; rfl) | (obtain ⟨_, _, _, rfl, _⟩ := h; rfl) | (obtain ⟨_, _, _, _, rfl, _⟩ := h; rfl) | (obtain ⟨_, _, _, _, _, rfl, _⟩ := h; rfl) | (obtain ⟨_, _, _, _, _, _, rfl, _⟩ := h; rfl) | (obtain ⟨_, _, _, _, _, _, _, rfl, _⟩ := h; rfl) | (split at h <;> first | rfl | exact h.elim)
theorem len_read_box {K : Fg} : ∀ ds M P PX, sp_box_in ds M P PX → ds.length = 1 := by
  intro ds M P PX h
  unfold sp_box_in at h
  first | (obtain ⟨rfl, _⟩ := h; rfl) | (obtain ⟨_, rfl, _⟩ := h; rfl) | (obtain ⟨_, _, rfl, _⟩ := h; rfl) | (obtain ⟨_, _, _, rfl, _⟩ := h; rfl) | (obtain ⟨_, _, _, _, rfl, _⟩ := h; rfl) | (obtain ⟨_, _, _, _, _, rfl, _⟩ := h; rfl) | (obtain ⟨_, _, _, _, _, _, rfl, _⟩ := h; rfl) | (obtain ⟨_, _, _, _, _, _, _, rfl, _⟩ := h; rfl) | (split at h <;> first | rfl | exact h.elim)
theorem len_Box_read {K : Fg} : ∀ ds M P PX, (sp_Box_read (kBox K)) ds M P PX → ds.length = 2 := by
  intro ds M P PX h
  unfold sp_Box_read at h
  first | (obtain ⟨rfl, _⟩ := h; rfl) | (obtain ⟨_, rfl, _⟩ := h; rfl) | (obtain ⟨_, _, rfl, _⟩ := h; rfl) | (obtain ⟨_, _, _, rfl, _⟩ := h; rfl) | (obtain ⟨_, _, _, _, rfl, _⟩ := h; rfl) | (obtain ⟨_, _, _, _, _, rfl, _⟩ := h; rfl) | (obtain ⟨_, _, _, _, _, _, rfl, _⟩ := h; rfl) | (obtain ⟨_, _, _, _, _, _, _, rfl, _⟩ := h; rfl) | (split at h <;> first | rfl | exact h.elim)
theorem len_Box_made {K : Fg} : ∀ ds M P PX, (sp_Box_made (kBox K)) ds M P PX → ds.length = 2 := by
  intro ds M P PX h
  unfold sp_Box_made at h
  first | (obtain ⟨rfl, _⟩ := h; rfl) | (obtain ⟨_, rfl, _⟩ := h; rfl) | (obtain ⟨_, _, rfl, _⟩ := h; rfl) | (obtain ⟨_, _, _, rfl, _⟩ := h; rfl) | (obtain ⟨_, _, _, _, rfl, _⟩ := h; rfl) | (obtain ⟨_, _, _, _, _, rfl, _⟩ := h; rfl) | (obtain ⟨_, _, _, _, _, _, rfl, _⟩ := h; rfl) | (obtain ⟨_, _, _, _, _, _, _, rfl, _⟩ := h; rfl) | (split at h <;> first | rfl | exact h.elim)
theorem len_Box_add {K : Fg} : ∀ ds M P PX, (sp_Box_add (kBox K)) ds M P PX → ds.length = 2 := by
  intro ds M P PX h
  unfold sp_Box_add at h
  first | (obtain ⟨rfl, _⟩ := h; rfl) | (obtain ⟨_, rfl, _⟩ := h; rfl) | (obtain ⟨_, _, rfl, _⟩ := h; rfl) | (obtain ⟨_, _, _, rfl, _⟩ := h; rfl) | (obtain ⟨_, _, _, _, rfl, _⟩ := h; rfl) | (obtain ⟨_, _, _, _, _, rfl, _⟩ := h; rfl) | (obtain ⟨_, _, _, _, _, _, rfl, _⟩ := h; rfl) | (obtain ⟨_, _, _, _, _, _, _, rfl, _⟩ := h; rfl) | (split at h <;> first | rfl | exact h.elim)
theorem len_law_value {K : Fg} : ∀ ds M P PX, (sp_law_value (kBox K)) ds M P PX → ds.length = 1 := by
  intro ds M P PX h
  unfold sp_law_value at h
  first | (obtain ⟨rfl, _⟩ := h; rfl) | (obtain ⟨_, rfl, _⟩ := h; rfl) | (obtain ⟨_, _, rfl, _⟩ := h; rfl) | (obtain ⟨_, _, _, rfl, _⟩ := h; rfl) | (obtain ⟨_, _, _, _, rfl, _⟩ := h; rfl) | (obtain ⟨_, _, _, _, _, rfl, _⟩ := h; rfl) | (obtain ⟨_, _, _, _, _, _, rfl, _⟩ := h; rfl) | (obtain ⟨_, _, _, _, _, _, _, rfl, _⟩ := h; rfl) | (split at h <;> first | rfl | exact h.elim)
theorem defA {K : Fg} {mg : Str → Option Value} {x : Str} {ps : List Str} {st : Stmt} {f : Addr} {fd : FuncData} (F : FunD K x x (defArgs st) (defBody st) (defScope st) [] [] f fd) (hm : mg x = some (.ref f)) (b : Binds K fd ps []) : DefAt K mg x ps st := ⟨f, fd, F, hm, b⟩
section
variable {P : Program} {w : World} {K : Fg} {h base : Heap} {mg : Str → Option Value}
theorem da_Box_init (c : Sy w h K) : StarAt K "__init__" "Box.__init__" st_Box_init (He.ma K (kBox K) "__init__") := by
  obtain ⟨fd, F⟩ := c.x.t.d.def_ 27 (d := dd_Box_init) rfl
  exact ⟨⟨fd, F⟩⟩
theorem da_Box_made (c : Sy w h K) : MethAt K "made" "Box.made" ["self", "barrels"] st_Box_made (He.ma K (kBox K) "made") := by
  obtain ⟨fd, F⟩ := c.x.t.d.def_ 28 (d := dd_Box_made) rfl
  exact ⟨⟨fd, F, F.bindsN fun _ _ _ _ _ _ us hl => match us, hl with | [_, _], _ => rfl⟩⟩
theorem da_Box_add (c : Sy w h K) : MethAt K "__add__" "Box.__add__" ["self", "barrel"] st_Box_add (He.ma K (kBox K) "__add__") := by
  obtain ⟨fd, F⟩ := c.x.t.d.def_ 29 (d := dd_Box_add) rfl
  exact ⟨⟨fd, F, F.bindsN fun _ _ _ _ _ _ us hl => match us, hl with | [_, _], _ => rfl⟩⟩
theorem da_Box_str (c : Sy w h K) : MethAt K "__str__" "Box.__str__" ["self"] st_Box_str (He.ma K (kBox K) "__str__") := by
  obtain ⟨fd, F⟩ := c.x.t.d.def_ 30 (d := dd_Box_str) rfl
  exact ⟨⟨fd, F, F.bindsN fun _ _ _ _ _ _ us hl => match us, hl with | [_], _ => rfl⟩⟩
theorem da_Box_source (c : Sy w h K) : MethAt K "source" "Box.source" ["self"] st_Box_source (He5.wf K (kBox K) "property" "source") := by
  obtain ⟨fd, F⟩ := c.defA 0 (d := dy_Box_source) rfl
  exact ⟨⟨fd, F, F.bindsN fun _ _ _ _ _ _ us hl => match us, hl with | [_], _ => rfl⟩⟩
theorem da_Box_read (c : Sy w h K) : MethAt K "read" "Box.read" ["cls", "value"] st_Box_read (He5.wf K (kBox K) "classmethod" "read") := by
  obtain ⟨fd, F⟩ := c.defA 1 (d := dy_Box_read) rfl
  exact ⟨⟨fd, F, F.bindsN fun _ _ _ _ _ _ us hl => match us, hl with | [_, _], _ => rfl⟩⟩
theorem da_is_within (X : K.In h) (G : h.Ns mainGlobals mg) (c : Sx w h K) : DefAt K mg "is_within" ["value", "low", "high"] st_is_within := by
  obtain ⟨fd, F⟩ := c.t.d.def_ 0 (d := dd_is_within) rfl
  exact defA F (gl X G c "is_within" (by decide +kernel)) (F.bindsN fun _ _ _ _ _ _ us hl => match us, hl with | [_, _, _], _ => rfl)
theorem da_has_items (X : K.In h) (G : h.Ns mainGlobals mg) (c : Sx w h K) : DefAt K mg "has_items" ["value", "low", "high"] st_has_items := by
  obtain ⟨fd, F⟩ := c.t.d.def_ 1 (d := dd_has_items) rfl
  exact defA F (gl X G c "has_items" (by decide +kernel)) (F.bindsN fun _ _ _ _ _ _ us hl => match us, hl with | [_, _, _], _ => rfl)
theorem da_are_teeth (X : K.In h) (G : h.Ns mainGlobals mg) (c : Sx w h K) : DefAt K mg "are_teeth" ["value"] st_are_teeth := by
  obtain ⟨fd, F⟩ := c.t.d.def_ 2 (d := dd_are_teeth) rfl
  exact defA F (gl X G c "are_teeth" (by decide +kernel)) (F.bindsN fun _ _ _ _ _ _ us hl => match us, hl with | [_], _ => rfl)
theorem da_is_barrel (X : K.In h) (G : h.Ns mainGlobals mg) (c : Sx w h K) : DefAt K mg "is_barrel" ["value"] st_is_barrel := by
  obtain ⟨fd, F⟩ := c.t.d.def_ 3 (d := dd_is_barrel) rfl
  exact defA F (gl X G c "is_barrel" (by decide +kernel)) (F.bindsN fun _ _ _ _ _ _ us hl => match us, hl with | [_], _ => rfl)
theorem da_is_box_value (X : K.In h) (G : h.Ns mainGlobals mg) (c : Sx w h K) : DefAt K mg "is_box_value" ["value"] st_is_box_value := by
  obtain ⟨fd, F⟩ := c.t.d.def_ 4 (d := dd_is_box_value) rfl
  exact defA F (gl X G c "is_box_value" (by decide +kernel)) (F.bindsN fun _ _ _ _ _ _ us hl => match us, hl with | [_], _ => rfl)
theorem da_need_box (X : K.In h) (G : h.Ns mainGlobals mg) (c : Sx w h K) : DefAt K mg "need_box" ["value"] st_need_box := by
  obtain ⟨fd, F⟩ := c.t.d.def_ 5 (d := dd_need_box) rfl
  exact defA F (gl X G c "need_box" (by decide +kernel)) (F.bindsN fun _ _ _ _ _ _ us hl => match us, hl with | [_], _ => rfl)
theorem da_word_of (X : K.In h) (G : h.Ns mainGlobals mg) (c : Sx w h K) : DefAt K mg "word_of" ["teeth"] st_word_of := by
  obtain ⟨fd, F⟩ := c.t.d.def_ 6 (d := dd_word_of) rfl
  exact defA F (gl X G c "word_of" (by decide +kernel)) (F.bindsN fun _ _ _ _ _ _ us hl => match us, hl with | [_], _ => rfl)
theorem da_lines_of (X : K.In h) (G : h.Ns mainGlobals mg) (c : Sx w h K) : DefAt K mg "lines_of" ["box"] st_lines_of := by
  obtain ⟨fd, F⟩ := c.t.d.def_ 7 (d := dd_lines_of) rfl
  exact defA F (gl X G c "lines_of" (by decide +kernel)) (F.bindsN fun _ _ _ _ _ _ us hl => match us, hl with | [_], _ => rfl)
theorem da_teeth_in (X : K.In h) (G : h.Ns mainGlobals mg) (c : Sx w h K) : DefAt K mg "teeth_in" ["word"] st_teeth_in := by
  obtain ⟨fd, F⟩ := c.t.d.def_ 8 (d := dd_teeth_in) rfl
  exact defA F (gl X G c "teeth_in" (by decide +kernel)) (F.bindsN fun _ _ _ _ _ _ us hl => match us, hl with | [_], _ => rfl)
theorem da_barrel_in (X : K.In h) (G : h.Ns mainGlobals mg) (c : Sx w h K) : DefAt K mg "barrel_in" ["line"] st_barrel_in := by
  obtain ⟨fd, F⟩ := c.t.d.def_ 9 (d := dd_barrel_in) rfl
  exact defA F (gl X G c "barrel_in" (by decide +kernel)) (F.bindsN fun _ _ _ _ _ _ us hl => match us, hl with | [_], _ => rfl)
theorem da_box_in (X : K.In h) (G : h.Ns mainGlobals mg) (c : Sx w h K) : DefAt K mg "box_in" ["value"] st_box_in := by
  obtain ⟨fd, F⟩ := c.t.d.def_ 10 (d := dd_box_in) rfl
  exact defA F (gl X G c "box_in" (by decide +kernel)) (F.bindsN fun _ _ _ _ _ _ us hl => match us, hl with | [_], _ => rfl)
theorem da_box_text (X : K.In h) (G : h.Ns mainGlobals mg) (c : Sx w h K) : DefAt K mg "box_text" ["box"] st_box_text := by
  obtain ⟨fd, F⟩ := c.t.d.def_ 11 (d := dd_box_text) rfl
  exact defA F (gl X G c "box_text" (by decide +kernel)) (F.bindsN fun _ _ _ _ _ _ us hl => match us, hl with | [_], _ => rfl)
theorem da_read_box (X : K.In h) (G : h.Ns mainGlobals mg) (c : Sx w h K) : DefAt K mg "read_box" ["value"] st_read_box := by
  obtain ⟨fd, F⟩ := c.t.d.def_ 12 (d := dd_read_box) rfl
  exact defA F (gl X G c "read_box" (by decide +kernel)) (F.bindsN fun _ _ _ _ _ _ us hl => match us, hl with | [_], _ => rfl)
theorem da_checked (X : K.In h) (G : h.Ns mainGlobals mg) (c : Sx w h K) : DefAt K mg "checked" ["box"] st_checked := by
  obtain ⟨fd, F⟩ := c.t.d.def_ 13 (d := dd_checked) rfl
  exact defA F (gl X G c "checked" (by decide +kernel)) (F.bindsN fun _ _ _ _ _ _ us hl => match us, hl with | [_], _ => rfl)
theorem da_law_deck (X : K.In h) (G : h.Ns mainGlobals mg) (c : Sx w h K) : DefAt K mg "_law_deck" ["_law_cell", "_law_turn"] st_law_deck := by
  obtain ⟨fd, F⟩ := c.t.d.def_ 14 (d := dd_law_deck) rfl
  exact defA F (gl X G c "_law_deck" (by decide +kernel)) (F.bindsN fun _ _ _ _ _ _ us hl => match us, hl with | [_, _], _ => rfl)
theorem da_law_pick (X : K.In h) (G : h.Ns mainGlobals mg) (c : Sx w h K) : DefAt K mg "_law_pick" ["_law_deck_here", "_law_size"] st_law_pick := by
  obtain ⟨fd, F⟩ := c.t.d.def_ 15 (d := dd_law_pick) rfl
  exact defA F (gl X G c "_law_pick" (by decide +kernel)) (F.bindsN fun _ _ _ _ _ _ us hl => match us, hl with | [_, _], _ => rfl)
theorem da_law_one (X : K.In h) (G : h.Ns mainGlobals mg) (c : Sx w h K) : DefAt K mg "_law_one" ["_law_deck_here", "_law_some"] st_law_one := by
  obtain ⟨fd, F⟩ := c.t.d.def_ 16 (d := dd_law_one) rfl
  exact defA F (gl X G c "_law_one" (by decide +kernel)) (F.bindsN fun _ _ _ _ _ _ us hl => match us, hl with | [_, _], _ => rfl)
theorem da_law_sort (X : K.In h) (G : h.Ns mainGlobals mg) (c : Sx w h K) : DefAt K mg "_law_sort" ["_law_thing"] st_law_sort := by
  obtain ⟨fd, F⟩ := c.t.d.def_ 17 (d := dd_law_sort) rfl
  exact defA F (gl X G c "_law_sort" (by decide +kernel)) (F.bindsN fun _ _ _ _ _ _ us hl => match us, hl with | [_], _ => rfl)
theorem da_law_same (X : K.In h) (G : h.Ns mainGlobals mg) (c : Sx w h K) : DefAt K mg "_law_same" ["_law_told", "_law_due"] st_law_same := by
  obtain ⟨fd, F⟩ := c.t.d.def_ 18 (d := dd_law_same) rfl
  exact defA F (gl X G c "_law_same" (by decide +kernel)) (F.bindsN fun _ _ _ _ _ _ us hl => match us, hl with | [_, _], _ => rfl)
theorem da_law_kin (X : K.In h) (G : h.Ns mainGlobals mg) (c : Sx w h K) : DefAt K mg "_law_kin" ["_law_e"] st_law_kin := by
  obtain ⟨fd, F⟩ := c.t.d.def_ 19 (d := dd_law_kin) rfl
  exact defA F (gl X G c "_law_kin" (by decide +kernel)) (F.bindsN fun _ _ _ _ _ _ us hl => match us, hl with | [_], _ => rfl)
theorem da_law_try (X : K.In h) (G : h.Ns mainGlobals mg) (c : Sx w h K) : DefAt K mg "_law_try" ["_law_call_so"] st_law_try := by
  obtain ⟨fd, F⟩ := c.t.d.def_ 20 (d := dd_law_try) rfl
  exact defA F (gl X G c "_law_try" (by decide +kernel)) (F.bindsN fun _ _ _ _ _ _ us hl => match us, hl with | [_], _ => rfl)
theorem da_law_known (X : K.In h) (G : h.Ns mainGlobals mg) (c : Sx w h K) : DefAt K mg "_law_known" [] st_law_known := by
  obtain ⟨fd, F⟩ := c.t.d.def_ 21 (d := dd_law_known) rfl
  exact defA F (gl X G c "_law_known" (by decide +kernel)) (F.bindsN fun _ _ _ _ _ _ us hl => match us, hl with | [], _ => rfl)
theorem da_law_some_teeth (X : K.In h) (G : h.Ns mainGlobals mg) (c : Sx w h K) : DefAt K mg "_law_some_teeth" ["_law_deck_here"] st_law_some_teeth := by
  obtain ⟨fd, F⟩ := c.t.d.def_ 22 (d := dd_law_some_teeth) rfl
  exact defA F (gl X G c "_law_some_teeth" (by decide +kernel)) (F.bindsN fun _ _ _ _ _ _ us hl => match us, hl with | [_], _ => rfl)
theorem da_law_a_box (X : K.In h) (G : h.Ns mainGlobals mg) (c : Sx w h K) : DefAt K mg "_law_a_box" ["_law_deck_here", "_law_most"] st_law_a_box := by
  obtain ⟨fd, F⟩ := c.t.d.def_ 23 (d := dd_law_a_box) rfl
  exact defA F (gl X G c "_law_a_box" (by decide +kernel)) (F.bindsN fun _ _ _ _ _ _ us hl => match us, hl with | [_, _], _ => rfl)
theorem da_law_writing (X : K.In h) (G : h.Ns mainGlobals mg) (c : Sx w h K) : DefAt K mg "_law_writing" ["_law_box_so"] st_law_writing := by
  obtain ⟨fd, F⟩ := c.t.d.def_ 24 (d := dd_law_writing) rfl
  exact defA F (gl X G c "_law_writing" (by decide +kernel)) (F.bindsN fun _ _ _ _ _ _ us hl => match us, hl with | [_], _ => rfl)
theorem da_law_value (X : K.In h) (G : h.Ns mainGlobals mg) (c : Sx w h K) : DefAt K mg "_law_value" ["_law_box_so"] st_law_value := by
  obtain ⟨fd, F⟩ := c.t.d.def_ 25 (d := dd_law_value) rfl
  exact defA F (gl X G c "_law_value" (by decide +kernel)) (F.bindsN fun _ _ _ _ _ _ us hl => match us, hl with | [_], _ => rfl)
theorem chain (X : K.In h) (G : h.Ns mainGlobals mg) (c : Sx w h K) (cy : Sy w h K) {f : Addr} {fd : FuncData} {cc Pt : Addr} {T : List (Addr × Str)} (TB : LamX.TabB base mg cc Pt) (hmT : (Pt, (envOfC "law" (defScope st_law) 0 0 .none).qual ++ "<lambda>") ∈ T) (hu : ∀ p ∈ T, p.1 = Pt → p.2 = (envOfC "law" (defScope st_law) 0 0 .none).qual ++ "<lambda>") (Fn : FunD K "law" "law" (defArgs st_law) (defBody st_law) (defScope st_law) [] [] f fd) (hcc : fd.code = .ref cc) (nT : K.lookup Pt = none) : FnOk P w K mg base (L2N.CX P w) 11 f fd ["_law_script"] (spLaw K T) := by
  have B : Blt mg := blt X G c
  have g_TEETH := gt_TEETH X G c
  have g_HOLDS := gt_HOLDS X G c
  obtain ⟨hbx, htx⟩ := He.ba (He.ba c.more).2
  have gx_HOLDS := tconB_ok htx (gl X G c "HOLDS" (by decide +kernel))
  have Z := boxB_ok hbx (gl X G c "Box" (by decide +kernel)) (gCls X G c (x := "Box") (by decide +kernel))
  have g_GREAT := gi_GREAT X G c
  have g_InvalidBox := gCls X G c (x := "InvalidBox") (by decide +kernel)
  have g_InvalidBeginning := gCls X G c (x := "InvalidBeginning") (by decide +kernel)
  have g_InvalidTick := gCls X G c (x := "InvalidTick") (by decide +kernel)
  have g_InvalidTooth := gCls X G c (x := "InvalidTooth") (by decide +kernel)
  have g_InvalidFacts := gCls X G c (x := "InvalidFacts") (by decide +kernel)
  have g_InvalidNumber := gCls X G c (x := "InvalidNumber") (by decide +kernel)
  have g_InvalidIndex := gCls X G c (x := "InvalidIndex") (by decide +kernel)
  have g_NoBeginning := gCls X G c (x := "NoBeginning") (by decide +kernel)
  have g_Unlike := gCls X G c (x := "Unlike") (by decide +kernel)
  have g_NothingToUndo := gCls X G c (x := "NothingToUndo") (by decide +kernel)
  have g_TooMany := gCls X G c (x := "TooMany") (by decide +kernel)
  have g_InvalidText := gCls X G c (x := "InvalidText") (by decide +kernel)
  have x_InvalidBox := eAt X G c (x := "InvalidBox") (by decide +kernel) (by decide +kernel)
  have C_is_within := ok_is_within (P := P) (w := w) (base := base) (sp := sp_is_within) (da_is_within X G c) B (len_is_within (K := K)) (l_is_within)
  have C_has_items := ok_has_items (P := P) (w := w) (base := base) (sp := sp_has_items) (da_has_items X G c) B (len_has_items (K := K)) (l_has_items)
  have C_are_teeth := ok_are_teeth (P := P) (w := w) (base := base) (sp := sp_are_teeth) (da_are_teeth X G c) g_TEETH B (len_are_teeth (K := K)) (l_are_teeth)
  have C_word_of := ok_word_of (P := P) (w := w) (base := base) (sp := sp_word_of) (da_word_of X G c) (len_word_of (K := K)) (l_word_of)
  have C_law_deck := ok_law_deck (P := P) (w := w) (base := base) (sp := sp_law_deck) (da_law_deck X G c) (len_law_deck (K := K)) (l_law_deck)
  have C_law_pick := ok_law_pick (P := P) (w := w) (base := base) (sp := sp_law_pick) (da_law_pick X G c) B (len_law_pick (K := K)) (l_law_pick)
  have C_law_sort := ok_law_sort (P := P) (w := w) (base := base) (sp := sp_law_sort) (da_law_sort X G c) B (len_law_sort (K := K)) (l_law_sort)
  have C_law_kin := ok_law_kin (P := P) (w := w) (base := base) (sp := sp_law_kin (kinC K)) (da_law_kin X G c) g_InvalidTick g_InvalidBeginning g_InvalidBox g_InvalidNumber g_InvalidFacts g_InvalidTooth g_Unlike g_NoBeginning g_InvalidIndex g_InvalidText g_TooMany g_NothingToUndo B (fr X G c "ValueError" (by decide +kernel)) len_law_kin (fun g ds M P h => l_law_kin g ds M P h)
  have C_law_known := ok_law_known (P := P) (w := w) (base := base) (sp := sp_law_known) (da_law_known X G c) (len_law_known (K := K)) (l_law_known)
  have C_law_writing := ok_law_writing (P := P) (w := w) (base := base) (sp := sp_law_writing) (da_law_writing X G c) B (len_law_writing (K := K)) (l_law_writing)
  have C_Box_source := ok_Box_source (P := P) (w := w) (base := base) (sp := (sp_Box_source (kBox K))) (da_Box_source cy) Z (len_Box_source (K := K)) (l_Box_source)
  have C_is_barrel := ok_is_barrel (P := P) (w := w) (base := base) (sp := sp_is_barrel) (da_is_barrel X G c) C_has_items C_are_teeth B (len_is_barrel (K := K)) (l_is_barrel)
  have C_lines_of := ok_lines_of (P := P) (w := w) (base := base) (sp := sp_lines_of) (da_lines_of X G c) C_word_of (len_lines_of (K := K)) (l_lines_of)
  have C_teeth_in := ok_teeth_in (P := P) (w := w) (base := base) (sp := sp_teeth_in) (da_teeth_in X G c) C_are_teeth (len_teeth_in (K := K)) (l_teeth_in)
  have C_law_one := ok_law_one (P := P) (w := w) (base := base) (sp := sp_law_one) (da_law_one X G c) C_law_pick B (len_law_one (K := K)) (l_law_one)
  have S0 : Cal P w K mg base 2 "_law_same" ["_law_told", "_law_due"] (sp_law_same 0) := ok_law_same (L := 1) (da_law_same X G c) C_law_sort (cal_false (da_law_same X G c) sc_law_same) B (by decide) (len_law_same (K := K)) (l_law_same 0 (by decide) (fun _ _ _ _ _ h => absurd h (by decide)))
  have S1 : Cal P w K mg base 3 "_law_same" ["_law_told", "_law_due"] (sp_law_same 1) := ok_law_same (L := 2) (da_law_same X G c) C_law_sort S0 B (by decide) (len_law_same (K := K)) (l_law_same 1 (by decide) (fun x _ _ _ h _ q => ⟨x, rfl, h, q⟩))
  have S2 : Cal P w K mg base 4 "_law_same" ["_law_told", "_law_due"] (sp_law_same 2) := ok_law_same (L := 3) (da_law_same X G c) C_law_sort S1 B (by decide) (len_law_same (K := K)) (l_law_same 2 (by decide) (fun x _ _ _ h _ q => ⟨x, rfl, h, q⟩))
  have S3 : Cal P w K mg base 5 "_law_same" ["_law_told", "_law_due"] (sp_law_same 3) := ok_law_same (L := 4) (da_law_same X G c) C_law_sort S2 B (by decide) (len_law_same (K := K)) (l_law_same 3 (by decide) (fun x _ _ _ h _ q => ⟨x, rfl, h, q⟩))
  have S4 : Cal P w K mg base 6 "_law_same" ["_law_told", "_law_due"] (sp_law_same 4) := ok_law_same (L := 5) (da_law_same X G c) C_law_sort S3 B (by decide) (len_law_same (K := K)) (l_law_same 4 (by decide) (fun x _ _ _ h _ q => ⟨x, rfl, h, q⟩))
  have C_law_same := S4.mono (k := 9) (by decide)
  have C_is_box_value := ok_is_box_value (P := P) (w := w) (base := base) (sp := sp_is_box_value) (da_is_box_value X G c) C_has_items C_is_within C_is_barrel B (len_is_box_value (K := K)) (l_is_box_value)
  have C_barrel_in := ok_barrel_in (P := P) (w := w) (base := base) (sp := sp_barrel_in) (da_barrel_in X G c) C_teeth_in C_is_barrel B (len_barrel_in (K := K)) (l_barrel_in)
  have C_law_some_teeth := ok_law_some_teeth (P := P) (w := w) (base := base) (sp := sp_law_some_teeth) (da_law_some_teeth X G c) C_law_one B (len_law_some_teeth (K := K)) (l_law_some_teeth)
  have C_Box_str := ok_Box_str (P := P) (w := w) (base := base) (sp := (sp_Box_str (kBox K))) (da_Box_str cy) C_lines_of Z (len_Box_str (K := K)) (l_Box_str)
  have C_need_box := ok_need_box (P := P) (w := w) (base := base) (sp := (sp_need_box (He.ga K "InvalidBox"))) (da_need_box X G c) C_is_box_value x_InvalidBox (len_need_box (K := K)) (l_need_box _)
  have C_box_in := ok_box_in (P := P) (w := w) (base := base) (sp := sp_box_in) (da_box_in X G c) C_barrel_in C_is_box_value g_HOLDS gx_HOLDS B (len_box_in (K := K)) (l_box_in)
  have C_checked := ok_checked (P := P) (w := w) (base := base) (sp := sp_checked) (da_checked X G c) C_is_box_value x_InvalidBox (len_checked (K := K)) (l_checked)
  have C_law_a_box := ok_law_a_box (P := P) (w := w) (base := base) (sp := sp_law_a_box) (da_law_a_box X G c) C_law_pick C_law_some_teeth C_law_one B (len_law_a_box (K := K)) (l_law_a_box)
  have C_box_text := ok_box_text (P := P) (w := w) (base := base) (sp := (sp_box_text (He.ga K "InvalidBox"))) (da_box_text X G c) C_need_box C_lines_of (len_box_text (K := K)) (l_box_text)
  have C_read_box := ok_read_box (P := P) (w := w) (base := base) (sp := sp_box_in) (da_read_box X G c) C_box_in (len_read_box (K := K)) (l_read_box)
  have C_Box_init := ok_Box_init (P := P) (w := w) (base := base) (sp := (sp_Box_init (kBox K))) (da_Box_init cy) C_need_box Z (l_Box_init)
  have C_Box_read := ok_Box_read (P := P) (w := w) (base := base) (sp := (sp_Box_read (kBox K))) (da_Box_read cy) C_box_in C_Box_init Z (len_Box_read (K := K)) (l_Box_read)
  have C_Box_made := ok_Box_made (P := P) (w := w) (base := base) (sp := (sp_Box_made (kBox K))) (da_Box_made cy) C_checked C_Box_init Z (len_Box_made (K := K)) (l_Box_made)
  have C_Box_add := ok_Box_add (P := P) (w := w) (base := base) (sp := (sp_Box_add (kBox K))) (da_Box_add cy) C_Box_made Z (len_Box_add (K := K)) (l_Box_add)
  have C_law_value := ok_law_value (P := P) (w := w) (base := base) (sp := (sp_law_value (kBox K))) (da_law_value X G c) C_Box_init C_Box_add Z (len_law_value (K := K)) (l_law_value)
  refine ok_law (sk := sp_law_kin (kinC K)) C_law_deck C_law_a_box C_law_writing C_Box_str C_law_value C_Box_read C_Box_source C_read_box C_box_text C_law_same C_law_known Z B (fun Y e1 e2 e3 e4 e5 q => ?_) TB hmT hu Fn hcc nT (fun a ns hl => l_law_k12 (lbl X G c (x := "InvalidBox") (by decide +kernel) (by decide +kernel)) a ns hl)
  subst e1 e2 e3 e4 e5
  exact tryAt (da_law_try X G c) C_law_kin (by decide) (gl X G c "InvalidText" (by decide +kernel)) (gl X G c "TooMany" (by decide +kernel)) (gl X G c "BoxError" (by decide +kernel))
end
theorem atS (w : World) (mg : Str → Option Value) (fa : Addr) (h : Heap) (Y : hk.says w h) (G : h.Ns mainGlobals mg) (hmg : mg "law" = some (.ref fa)) : ∃ K : PySem.W.Frag, K.In h ∧ LamX.LawAtS PySem.Challenge.rw_barrelsuntold_k12_boxes_written_and_read w K (L2N.CX (PySem.Challenge.rw_barrelsuntold_k12_boxes_written_and_read).prog w) 11 63 "_law_script" mg fa h := by
  obtain ⟨K, X, cy⟩ := Y
  have c := cy.x
  obtain ⟨fd, F⟩ := c.t.d.def_ 26 (d := dd_law) rfl
  have e := hmg.symm.trans (gl X G c "law" (by decide +kernel))
  cases e
  have b := FunD.bindsA (ps := ["_law_script"]) F fun _ _ _ _ _ _ us hl => match us, hl with | [_], _ => rfl
  obtain ⟨oc, od, dV, kV, doc, pm, an, cdv, ct, osl, e1, lk, hcd, _, _⟩ := F.ex
  obtain ⟨cc, e2⟩ := He.codeIn_ref hcd
  have hcode : fd.code = .ref cc := by rw [e1]; exact e2
  have hco : He.codeOf K ("law", none) = cc := by
    exact He.codeOf_eq lk hcode
  have hm : (("law", none) : He.Defn) ∈ [(("law", none) : He.Defn)] := List.mem_singleton.mpr rfl
  have hcT : (He.cT K ("law", none)).1 = cc := hco
  let T : List (Addr × Str) := [((He.cT K ("law", none)).2, (envOfC "law" (defScope st_law) 0 0 .none).qual ++ "<lambda>")]
  refine ⟨K, X, fd, [He.cT K ("law", none)], spLaw K T, fun p hp => ?_, fun p hp => ?_, fun p hp => ?_, fun s v => b s [v] rfl, fun H a ns hl _ hT hS => ?_, fun base Xb Gb hTB => ?_⟩
  · rw [List.mem_singleton.mp hp]; exact c.empty _ hm
  · rw [List.mem_singleton.mp hp]; exact c.out _ hm
  · rw [List.mem_singleton.mp hp]; exact PySem.W.codeHd_of_K X (c.hd _ hm)
  · exact ⟨a, ns, rfl, hS, hl, fun p hp => by rw [List.mem_singleton.mp hp]; exact LamX.TabS.nil (hT _ (List.mem_singleton.mpr rfl)), fun _ => rfl⟩
  · have tb := hTB _ (List.mem_singleton.mpr rfl)
    rw [hcT] at tb
    exact chain (T := T) (Pt := (He.cT K ("law", none)).2) X G c cy tb (List.mem_singleton.mpr rfl) (fun p hp _ => by rw [List.mem_singleton.mp hp]) F hcode (c.out _ hm)
theorem cx_no (P : Program) (w : World) (H : Hp) (s : Shared) (e : Value) (s' : Shared) : L2N.CX P w [] H s (fun _ _ _ => False) e s' → False := fun ⟨_, _, _, _, _, _, _, _, _, _, _, _, h⟩ => h
end DL
open PySem PySem.W PySem.Calls PyProof.Rows
theorem PySem.Challenge.cw_barrelsuntold_k12_boxes_written_and_read_holds : PySem.Challenge.rw_barrelsuntold_k12_boxes_written_and_read.Holds := by
  w_on; o_law
  refine HandSHeadRun.head_any (r := OpenLaw.row PySem.Challenge.rw_barrelsuntold_k12_boxes_written_and_read) (q := DL.viewL) (H := DL.hk) (ob := DL.obK) (M := 8000) (loose := DL.looseL) (d := HandSHeadRun.topDef (OpenLaw.row PySem.Challenge.rw_barrelsuntold_k12_boxes_written_and_read).prog 64) (kwd := []) DL.obK_eq
    (by kernel_rfl) (fun s => by kernel_rfl) DL.runK (by kernel_rfl) (by kernel_rfl) (by kernel_rfl) (by rfl) (by first | assumption | decide +kernel) (by decide +kernel) ⟨rfl, rfl, rfl, rfl, rfl, by decide +kernel⟩ ?hw ?hc
  case hw => w_witness2
  case hc =>
    refine LamX.walk_ofTsE (l := PySem.Challenge.rw_barrelsuntold_k12_boxes_written_and_read) (n := 63) (k := 11) (x := "_law_script") (CX := fun w => L2N.CX (PySem.Challenge.rw_barrelsuntold_k12_boxes_written_and_read).prog w) rfl (by decide) (by kernel_rfl) ⟨rfl, by decide, by decide⟩ ?F (fun w H s e s' => DL.cx_no _ w H s e s')
    intro w mg fa h Y G hmg0
    have hmg : mg ("law" : PySem.Str) = some (.ref fa) := by
      have e : (HandSHeadRun.topDef (OpenLaw.row PySem.Challenge.rw_barrelsuntold_k12_boxes_written_and_read).prog 64).name = ("law" : PySem.Str) := by kernel_rfl
      rw [← e]
      exact hmg0
    exact DL.atS w mg fa h Y G hmg


