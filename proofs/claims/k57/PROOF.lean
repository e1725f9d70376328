import PyProof.Rows.All
import HandS.ForMost
import HandS.Exc
import HandS.ExcInit
import HandS.Wide
import HandS.TupAny
import HandS.TupMul
import HandS.TupLe
import HandS.Style
import HandS.Deep
import HandS.Star
import HandS.IsInst
import HandS.SortInts
import HandS.Conv
import HandS.TryOnly
import HandS.More
import HandS.Defaults
import HandS.WordsExc
import HandS.ExcOwn
import HandS.Ends
import HandS.HeadEnd
import HandS.DictComp
import HandS.Iter
import KE.GoesEnum
import HandS.HeadHook1
import HandS.DictTup
import HandS.SortRule
import KE.DataMinMax
import HandS.SortKw
import PyProof.Claim2Refuses
import HandS.Zip
import KE.KExcIs
import HandS.Head2
import HandS.HeadHook2
import HandS.SetKeys
import KE.KDictWalk
import KE.KSortKeySt
import HandS.Text
import PyProof.StrOps2
import HandS.ExcField
import HandS.ForSpec
import KE.DatumOrd
import KE.IntTextLaws
import KE.IntTextText
import PySem.Challenge.RW_hastyways_k57_trees_written
import KE.KStateDown
import HandS.Words
import HandS.Head0
import HandS.Head1
import OpenK.AllK
import Wide.FinOn
set_option Elab.async false
set_option linter.all false
set_option maxRecDepth 100000
namespace L2.HW
open PySem PySem.Spec PyProof.Rows

inductive Va where
  | d (x : PyData)
  | loc (n : Nat)
  | tup (ws : List Va)
  | dct (kvs : List (Int × PyData))
  | exc (c : Str) (f : Option PyData)
  | scr (ns : List Int)
inductive Ob where
  | lst (ws : List Va)
  | di (kvs : List (Int × Va))
  | dt (kvs : List (List Int × Va))
  | ins (c : Str) (fs : List (Str × Va))
abbrev LH := List (Option Ob)
abbrev En := List (Option Va)
inductive Res (α : Type) where
  | ok (a : α) (L : LH)
  | exc (c : Str) (f : Option PyData) (L : LH)
  | stuck
def Res.bind {α β : Type} (r : Res α) (k : α → LH → Res β) : Res β :=
  match r with
  | .ok a L => k a L
  | .exc c f L => .exc c f L
  | .stuck => .stuck
@[simp] theorem Res.bind_ok {α β : Type} (a : α) (L : LH) (k : α → LH → Res β) : (Res.ok a L).bind k = k a L := (rfl)
@[simp] theorem Res.bind_exc {α β : Type} (c : Str) (f : Option PyData) (L : LH) (k : α → LH → Res β) : (Res.exc c f L).bind k = .exc c f L := (rfl)
@[simp] theorem Res.bind_stuck {α β : Type} (k : α → LH → Res β) : (Res.stuck).bind k = .stuck := (rfl)
abbrev EF := En → LH → Res Va

def mask (H : Hp) (P : List Addr) : Hp := fun b => if b ∈ P then none else H b
theorem mask_of {H : Hp} {P : List Addr} {b : Addr} {o : HO} (n : b ∉ P) (e : H b = some o) : mask H P b = some o := by
  unfold mask; rw [if_neg n]; exact e
theorem of_mask {H : Hp} {P : List Addr} {b : Addr} {o : HO} (e : mask H P b = some o) : b ∉ P ∧ H b = some o := by
  unfold mask at e
  split at e
  · cases e
  · exact ⟨by assumption, e⟩
def Le (M M' : Hp) : Prop := ∀ b o, M b = some o → M' b = some o
theorem Le.refl (M : Hp) : Le M M := fun _ _ e => e
theorem Le.trans {A B C : Hp} (h : Le A B) (k : Le B C) : Le A C := fun b o e => k b o (h b o e)
theorem mask_le (H : Hp) (P : List Addr) : Le (mask H P) H := fun _ _ e => (of_mask e).2
theorem Rd.le {M M' : Hp} (h : Le M M') {a : Addr} {u : HO} (r : Rd M a u) : Rd M' a u := by
  rcases r with r | ⟨o, r⟩
  · exact .inl (h _ _ r)
  · exact .inr ⟨o, h _ _ r⟩
theorem SqL.le {K : PySem.W.Frag} {M M' : Hp} (h : Le M M') {a : Addr} {xs : List V} (r : SqL K M a xs) : SqL K M' a xs := by
  rcases r with r | r
  · exact .inl (Rd.le h r)
  · exact .inr r
mutual
/-- v is the data x -/
inductive Dq (M : Hp) : V → PyData → Prop
  | non : Dq M .non .none
  | bl (b : Bool) : Dq M (.bl b) (.bool b)
  | int (i : Int) : Dq M (.int i) (.int i)
  | str (x : Str) : Dq M (.str x) (.str x)
  | lst {a : Addr} {xs : List V} {ds : List PyData} : M a = some (.lst xs) → DqAll M xs ds → Dq M (.ref a) (.list ds)
  | tup {a : Addr} {xs : List V} {ds : List PyData} : M a = some (.tup xs) → DqAll M xs ds → Dq M (.ref a) (.tuple ds)
inductive DqAll (M : Hp) : List V → List PyData → Prop
  | nil : DqAll M [] []
  | cons {v : V} {vs : List V} {d : PyData} {ds : List PyData} : Dq M v d → DqAll M vs ds → DqAll M (v :: vs) (d :: ds)
end
mutual
theorem Dq.le {M M' : Hp} (h : Le M M') : ∀ {v : V} {x : PyData}, Dq M v x → Dq M' v x
  | _, _, .non => .non
  | _, _, .bl b => .bl b
  | _, _, .int i => .int i
  | _, _, .str x => .str x
  | _, _, .lst q r => .lst (h _ _ q) (DqAll.le h r)
  | _, _, .tup q r => .tup (h _ _ q) (DqAll.le h r)
theorem DqAll.le {M M' : Hp} (h : Le M M') : ∀ {vs : List V} {xs : List PyData}, DqAll M vs xs → DqAll M' vs xs
  | _, _, .nil => .nil
  | _, _, .cons a b => .cons (Dq.le h a) (DqAll.le h b)
end
mutual
theorem Dq.dp {K : PySem.W.Frag} {M : Hp} : ∀ {v : V} {x : PyData}, Dq M v x → Dp K M v x
  | _, _, .non => .non
  | _, _, .bl b => .bl b
  | _, _, .int i => .int i
  | _, _, .str x => .str x
  | _, _, .lst q r => .lst (SqL.of q) (DqAll.dp r)
  | _, _, .tup q r => .tup (SqT.of q) (DqAll.dp r)
theorem DqAll.dp {K : PySem.W.Frag} {M : Hp} : ∀ {vs : List V} {xs : List PyData}, DqAll M vs xs → DpAll K M vs xs
  | _, _, .nil => .nil
  | _, _, .cons a b => .cons (Dq.dp a) (DqAll.dp b)
end
theorem DqAll.len {M : Hp} : ∀ {vs : List V} {xs : List PyData}, DqAll M vs xs → vs.length = xs.length
  | _, _, .nil => rfl
  | _, _, .cons _ b => by simp [DqAll.len b]

def exk (e C : Addr) (d : Option Addr) : HO := .ext fun h => ∃ (oe : Obj) (vs : Array Value), h.get? e = some oe ∧ oe.cls = .ref C ∧ oe.dict = d ∧ oe.data = .fields vs
def ExR (mg : Str → Option Value) (M : Hp) (c : Str) (f : Option PyData) (cls : Value) (d : Option Addr) : Prop :=
  ∃ C : Addr, mg c = some (.ref C) ∧ cls = .ref C ∧ match f with
    | none => d = none
    | some x => ∃ dd v, d = some dd ∧ M dd = some (.xd [("spot", v)]) ∧ Dq M v x
theorem ExR.le {mg : Str → Option Value} {M M' : Hp} (h : Le M M') {c : Str} {f : Option PyData} {cls : Value} {d : Option Addr} (r : ExR mg M c f cls d) : ExR mg M' c f cls d := by
  obtain ⟨C, h1, h2, h3⟩ := r
  refine ⟨C, h1, h2, ?_⟩
  cases f with
  | none => exact h3
  | some x =>
    obtain ⟨dd, v, e1, e2, e3⟩ := h3
    exact ⟨dd, v, e1, h _ _ e2, Dq.le h e3⟩

def KDp (M : Hp) : List (Key × V) → List (Int × PyData) → Prop := Paired fun (p : Key × V) (q : Int × PyData) => p.1 = Sum.inl q.1 ∧ Dq M p.2 q.2
theorem Paired.map2 {α β : Type} {F G : α → β → Prop} (h : ∀ a b, F a b → G a b) : ∀ {xs : List α} {ys : List β}, Paired F xs ys → Paired G xs ys
  | _, _, .nil => .nil
  | _, _, .cons a b => .cons (h _ _ a) (Paired.map2 h b)
theorem KDp.le {M M' : Hp} (h : Le M M') {a : List (Key × V)} {b : List (Int × PyData)} (r : KDp M a b) : KDp M' a b :=
  Paired.map2 (fun _ _ q => ⟨q.1, Dq.le h q.2⟩) r

inductive Rp (K : PySem.W.Frag) (mg : Str → Option Value) (M : Hp) (al : List Addr) : V → Va → Prop where
  | d {v : V} {x : PyData} : Dq M v x → Rp K mg M al v (.d x)
  | loc {n : Nat} {a : Addr} : al[n]? = some a → Rp K mg M al (.ref a) (.loc n)
  | tup {a : Addr} {vs : List V} {ws : List Va} : M a = some (.tup vs) → Paired (Rp K mg M al) vs ws → Rp K mg M al (.ref a) (.tup ws)
  | dct {a : Addr} {kvs : List (Key × V)} {ks : List (Int × PyData)} : M a = some (.dK kvs) → KDp M kvs ks → Rp K mg M al (.ref a) (.dct ks)
  | exc {a : Addr} {C : Addr} {c : Str} {f : Option PyData} {d : Option Addr} : M a = some (exk a C d) → ExR mg M c f (.ref C) d → Rp K mg M al (.ref a) (.exc c f)
  | scr {a : Addr} {ns : List Int} : SqL K M a (ns.map V.int) → Rp K mg M al (.ref a) (.scr ns)
end L2.HW
namespace L2.HW
open PySem PySem.Spec PyProof.Rows
section
variable {K : PySem.W.Frag} {mg : Str → Option Value}
abbrev Rps (K : PySem.W.Frag) (mg : Str → Option Value) (M : Hp) (al : List Addr) : List V → List Va → Prop := Paired (Rp K mg M al)
def ALe (al al' : List Addr) : Prop := ∀ (n : Nat) (a : Addr), al[n]? = some a → al'[n]? = some a
theorem ALe.refl (al : List Addr) : ALe al al := fun _ _ e => e
theorem ALe.app (al be : List Addr) : ALe al (al ++ be) := fun n a e => by
  obtain ⟨h, _⟩ := List.getElem?_eq_some_iff.mp e
  rw [List.getElem?_append_left h]; exact e
mutual
theorem Rp.le {M M' : Hp} {al al' : List Addr} (h : Le M M') (ha : ALe al al') : ∀ {v : V} {w : Va}, Rp K mg M al v w → Rp K mg M' al' v w
  | _, _, .d q => .d (Dq.le h q)
  | _, _, .loc e => .loc (ha _ _ e)
  | _, _, .scr q => .scr (SqL.le h q)
  | _, _, .tup q r => .tup (h _ _ q) (Rps.le h ha r)
  | _, _, .dct e q => .dct (h _ _ e) (KDp.le h q)
  | _, _, .exc e q => .exc (h _ _ e) (ExR.le h q)
theorem Rps.le {M M' : Hp} {al al' : List Addr} (h : Le M M') (ha : ALe al al') : ∀ {vs : List V} {ws : List Va}, Rps K mg M al vs ws → Rps K mg M' al' vs ws
  | _, _, .nil => .nil
  | _, _, .cons a b => .cons (Rp.le h ha a) (Rps.le h ha b)
end

def KRp (K : PySem.W.Frag) (mg : Str → Option Value) (M : Hp) (al : List Addr) : List (Key × V) → List (Int × Va) → Prop := Paired fun (p : Key × V) (q : Int × Va) => p.1 = Sum.inl q.1 ∧ Rp K mg M al p.2 q.2
def TRp (K : PySem.W.Frag) (mg : Str → Option Value) (M : Hp) (al : List Addr) : List (List Key × V) → List (List Int × Va) → Prop := Paired fun (p : List Key × V) (q : List Int × Va) => p.1 = q.1.map Sum.inl ∧ Rp K mg M al p.2 q.2
def FRp (K : PySem.W.Frag) (mg : Str → Option Value) (M : Hp) (al : List Addr) : List (Str × V) → List (Str × Va) → Prop := Paired fun (p : Str × V) (q : Str × Va) => p.1 = q.1 ∧ Rp K mg M al p.2 q.2
def ObR (K : PySem.W.Frag) (mg : Str → Option Value) (M : Hp) (al : List Addr) (H : Hp) (a : Addr) : Ob → Prop
  | .lst ws => ∃ vs, H a = some (.lst vs) ∧ Rps K mg M al vs ws
  | .di kvs => ∃ ks, H a = some (.dK ks) ∧ KRp K mg M al ks kvs
  | .dt kvs => ∃ ks, H a = some (.dT ks) ∧ TRp K mg M al ks kvs
  | .ins c fs => ∃ C dx ks, mg c = some (.ref C) ∧ H a = some (.ins C dx ks) ∧ FRp K mg M al ks fs
theorem ObR.le {M M' H H' : Hp} {al al' : List Addr} {a : Addr} (h : Le M M') (ha : ALe al al') (hh : ∀ o, H a = some o → H' a = some o) : ∀ {o : Ob}, ObR K mg M al H a o → ObR K mg M' al' H' a o
  | .lst ws, ⟨vs, e, r⟩ => ⟨vs, hh _ e, Rps.le h ha r⟩
  | .di kvs, ⟨ks, e, r⟩ => ⟨ks, hh _ e, Paired.map2 (fun _ _ q => ⟨q.1, Rp.le h ha q.2⟩) r⟩
  | .dt kvs, ⟨ks, e, r⟩ => ⟨ks, hh _ e, Paired.map2 (fun _ _ q => ⟨q.1, Rp.le h ha q.2⟩) r⟩
  | .ins c fs, ⟨C, dx, ks, e1, e2, r⟩ => ⟨C, dx, ks, e1, hh _ e2, Paired.map2 (fun _ _ q => ⟨q.1, Rp.le h ha q.2⟩) r⟩
theorem ObR.there {M H : Hp} {al : List Addr} {a : Addr} : ∀ {o : Ob}, ObR K mg M al H a o → ∃ u, H a = some u
  | .lst _, ⟨_, e, _⟩ => ⟨_, e⟩
  | .di _, ⟨_, e, _⟩ => ⟨_, e⟩
  | .dt _, ⟨_, e, _⟩ => ⟨_, e⟩
  | .ins _ _, ⟨_, _, _, _, e, _⟩ => ⟨_, e⟩
structure Rel (K : PySem.W.Frag) (mg : Str → Option Value) (H : Hp) (al T : List Addr) (L : LH) : Prop where
  len : al.length = L.length
  nd : al.Nodup
  dis : ∀ a ∈ al, a ∉ T
  trk : ∀ a, a ∈ al ∨ a ∈ T → H a ≠ none
  cell : ∀ (n : Nat) (o : Ob), L[n]? = some (some o) → ∃ a, al[n]? = some a ∧ ObR K mg (mask H (al ++ T)) al H a o
def Alv (al : List Addr) (L : LH) (b : Addr) : Prop := ∃ (n : Nat) (o : Ob), al[n]? = some b ∧ L[n]? = some (some o)
structure Stp (K : PySem.W.Frag) (mg : Str → Option Value) (H : Hp) (al T : List Addr) (L : LH) (H' : Hp) (al' T' : List Addr) (L' : LH) : Prop where
  rel : Rel K mg H' al' T' L'
  ext : ∃ be, al' = al ++ be ∧ ∀ b ∈ be, H b = none
  text : ∃ te, T' = te ++ T ∧ ∀ b ∈ te, H b = none
  frame : ∀ b o, H b = some o → ¬ Alv al L b → H' b = some o
  stay : ∀ b, H b ≠ none → H' b ≠ none
  lck : ∀ (n : Nat), L[n]? = some none → L'[n]? = some none
  alv : ∀ (n : Nat) (o : Ob), L[n]? = some (some o) → ∃ o', L'[n]? = some (some o')
variable {H H1 H2 : Hp} {al al1 al2 T T1 T2 : List Addr} {L L1 L2 : LH}
theorem Alv.mem {b : Addr} (h : Alv al L b) : b ∈ al := let ⟨_, _, e, _⟩ := h; List.mem_of_getElem? e
theorem Stp.ale (s : Stp K mg H al T L H1 al1 T1 L1) : ALe al al1 := by
  obtain ⟨be, e, _⟩ := s.ext
  rw [e]; exact ALe.app al be
theorem Stp.le (s : Stp K mg H al T L H1 al1 T1 L1) : Le (mask H (al ++ T)) (mask H1 (al1 ++ T1)) := fun b o e => by
  obtain ⟨n, e⟩ := of_mask e
  obtain ⟨be, e1, f1⟩ := s.ext
  obtain ⟨te, e2, f2⟩ := s.text
  have nal : b ∉ al := fun z => n (List.mem_append_left _ z)
  have nT : b ∉ T := fun z => n (List.mem_append_right _ z)
  refine mask_of (fun z => ?_) (s.frame b o e fun z => nal z.mem)
  rw [e1, e2] at z
  simp only [List.mem_append] at z
  rcases z with (z | z) | (z | z)
  · exact nal z
  · rw [f1 b z] at e; cases e
  · rw [f2 b z] at e; cases e
  · exact nT z
theorem Stp.rp (s : Stp K mg H al T L H1 al1 T1 L1) {v : V} {w : Va} (r : Rp K mg (mask H (al ++ T)) al v w) : Rp K mg (mask H1 (al1 ++ T1)) al1 v w := Rp.le s.le s.ale r
theorem Stp.rps (s : Stp K mg H al T L H1 al1 T1 L1) {v : List V} {w : List Va} (r : Rps K mg (mask H (al ++ T)) al v w) : Rps K mg (mask H1 (al1 ++ T1)) al1 v w := Rps.le s.le s.ale r
theorem Stp.refl (r : Rel K mg H al T L) : Stp K mg H al T L H al T L :=
  ⟨r, ⟨[], by simp, fun _ z => nomatch z⟩, ⟨[], by simp, fun _ z => nomatch z⟩, fun _ _ e _ => e, fun _ e => e, fun _ e => e, fun _ o e => ⟨o, e⟩⟩
theorem Stp.alvB (s : Stp K mg H al T L H1 al1 T1 L1) (hl : al.length = L.length) {b : Addr} (hb : H b ≠ none) (h : Alv al1 L1 b) : Alv al L b := by
  obtain ⟨n, o, e1, e2⟩ := h
  obtain ⟨be, e, f⟩ := s.ext
  by_cases q : n < al.length
  · have e3 : al[n]? = some b := by rw [e, List.getElem?_append_left q] at e1; exact e1
    have hn : n < L.length := by omega
    cases e4 : L[n] with
    | none =>
      have : L[n]? = some none := by rw [List.getElem?_eq_getElem hn, e4]
      rw [s.lck n this] at e2; cases e2
    | some o' => exact ⟨n, o', e3, by rw [List.getElem?_eq_getElem hn, e4]⟩
  · have : b ∈ be := by
      rw [e, List.getElem?_append_right (by omega)] at e1
      exact List.mem_of_getElem? e1
    exact absurd (f b this) hb
theorem Stp.trans (hl : al.length = L.length) (s : Stp K mg H al T L H1 al1 T1 L1) (t : Stp K mg H1 al1 T1 L1 H2 al2 T2 L2) : Stp K mg H al T L H2 al2 T2 L2 := by
  obtain ⟨be1, e1, f1⟩ := s.ext
  obtain ⟨be2, e2, f2⟩ := t.ext
  obtain ⟨te1, e3, f3⟩ := s.text
  obtain ⟨te2, e4, f4⟩ := t.text
  have back : ∀ b, H1 b = none → H b = none := fun b z => by
    cases e : H b with
    | none => rfl
    | some o => exact absurd z (s.stay b (by rw [e]; simp))
  refine ⟨t.rel, ⟨be1 ++ be2, by rw [e2, e1, List.append_assoc], fun b hb => ?_⟩, ⟨te2 ++ te1, by rw [e4, e3, List.append_assoc], fun b hb => ?_⟩, fun b o e n => ?_, fun b e => t.stay b (s.stay b e), fun n e => t.lck n (s.lck n e), fun n o e => ?_⟩
  · rcases List.mem_append.mp hb with z | z
    · exact f1 b z
    · exact back b (f2 b z)
  · rcases List.mem_append.mp hb with z | z
    · exact back b (f4 b z)
    · exact f3 b z
  · have h1 := s.frame b o e n
    exact t.frame b o h1 fun z => n (s.alvB hl (by rw [e]; simp) z)
  · obtain ⟨o', e'⟩ := s.alv n o e
    exact t.alv n o' e'
theorem Stp.drop {te : List Addr} (hte : ∀ b ∈ te, H b = none) (s : Stp K mg H al T L H1 al1 (te ++ T) L1) : Stp K mg H al T L H1 al1 T L1 := by
  have r := s.rel
  have m : Le (mask H1 (al1 ++ (te ++ T))) (mask H1 (al1 ++ T)) := fun b o e => by
    obtain ⟨n, e⟩ := of_mask e
    exact mask_of (fun z => n (by simp only [List.mem_append] at z ⊢; rcases z with z | z; exact .inl z; exact .inr (.inr z))) e
  refine ⟨⟨r.len, r.nd, fun a h z => r.dis a h (List.mem_append_right _ z), fun a h => r.trk a (h.imp id fun z => List.mem_append_right _ z), fun n o e => ?_⟩, s.ext, ⟨[], by simp, fun _ z => nomatch z⟩, s.frame, s.stay, s.lck, s.alv⟩
  obtain ⟨a, e1, q⟩ := r.cell n o e
  exact ⟨a, e1, ObR.le m (ALe.refl _) (fun _ e => e) q⟩
end

structure Conf (K : PySem.W.Frag) (mg : Str → Option Value) (σ : St) (H : Hp) (env : En) (L : LH) (al T : List Addr) : Prop where
  rel : Rel K mg H al T L
  len : σ.length = env.length
  slot : ∀ (i : Nat) (w : Va), env[i]? = some (some w) → ∃ v, σ[i]? = some (some v) ∧ Rp K mg (mask H (al ++ T)) al v w
theorem Conf.stp {K : PySem.W.Frag} {mg : Str → Option Value} {σ : St} {H H' : Hp} {env : En} {L L' : LH} {al al' T T' : List Addr} (c : Conf K mg σ H env L al T) (s : Stp K mg H al T L H' al' T' L') : Conf K mg σ H' env L' al' T' :=
  ⟨s.rel, c.len, fun i w e => let ⟨v, h1, h2⟩ := c.slot i w e; ⟨v, h1, s.rp h2⟩⟩
theorem Conf.put {K : PySem.W.Frag} {mg : Str → Option Value} {σ : St} {H : Hp} {env : En} {L : LH} {al T : List Addr} (c : Conf K mg σ H env L al T) {i : Nat} {v : V} {w : Va} (r : Rp K mg (mask H (al ++ T)) al v w) : Conf K mg (σ.set i (some v)) H (env.set i (some w)) L al T :=
  ⟨c.rel, by simpa using c.len, fun j u e => by
    by_cases h : i = j
    · subst h
      have hi : i < env.length := by
        by_cases q : i < env.length
        · exact q
        · rw [List.getElem?_eq_none (by simpa using q)] at e; cases e
      rw [List.getElem?_set_self hi] at e
      cases e
      exact ⟨v, List.getElem?_set_self (by rw [c.len]; exact hi), r⟩
    · rw [List.getElem?_set_ne h] at e ⊢
      exact c.slot j u e⟩
def Agr (sl : List Nat) (σ σ' : St) : Prop := σ'.length = σ.length ∧ ∀ j, j ∉ sl → σ'[j]? = σ[j]?
theorem Agr.refl (sl : List Nat) (σ : St) : Agr sl σ σ := ⟨rfl, fun _ _ => rfl⟩
theorem Agr.trans {sl sl' : List Nat} {a b c : St} (h : Agr sl a b) (k : Agr sl' b c) : Agr (sl ++ sl') a c := ⟨k.1.trans h.1, fun j hj => (k.2 j fun z => hj (List.mem_append_right _ z)).trans (h.2 j fun z => hj (List.mem_append_left _ z))⟩
theorem Agr.put (i : Nat) (v : Option V) (σ : St) : Agr [i] σ (σ.set i v) := ⟨by simp, fun j hj => by rw [List.getElem?_set_ne]; intro z; exact hj (by simp [z])⟩
end L2.HW
namespace L2.HW
open PySem PySem.Spec PyProof.Rows

def GPost (X : Cx) (Wx : WX) (σ : St) (H : Hp) (al T : List Addr) (L : LH) {α β : Type} (R : Hp → List Addr → β → α → Prop) (r : Res α) (Q : β → Hp → Prop) : Prop :=
  match r with
  | .ok a L' => ∀ b H' al', Stp X.K X.mg H al T L H' al' T L' → R (mask H' (al' ++ T)) al' b a → Q b H'
  | .exc c f L' => ∀ cls d H' al', Stp X.K X.mg H al T L H' al' T L' → ExR X.mg (mask H' (al' ++ T)) c f cls d → Wx cls d σ H'
  | .stuck => False
abbrev RV (X : Cx) : Hp → List Addr → V → Va → Prop := Rp X.K X.mg
abbrev RVs (X : Cx) : Hp → List Addr → List V → List Va → Prop := Rps X.K X.mg
def RB : Hp → List Addr → Bool → Bool → Prop := fun _ _ b a => b = a
def RO : Hp → List Addr → Option Int → Option Int → Prop := fun _ _ b a => b = a
def Rdg (X : Cx) (Wx : WX) {α β : Type} (R : Hp → List Addr → β → α → Prop) (f : En → LH → Res α) : St → Hp → (β → Hp → Prop) → Prop :=
  fun σ H Q => ∃ env L al T, Conf X.K X.mg σ H env L al T ∧ GPost X Wx σ H al T L R (f env L) Q
def SE (X : Cx) (Wx : WX) (e : Expr) (f : EF) : Prop := PE X e (Rdg X Wx (RV X) f)
def ST (X : Cx) (Wx : WX) (e : Expr) (f : En → LH → Res Bool) : Prop := PT X e (Rdg X Wx RB f)
def SW (X : Cx) (Wx : WX) (e : Expr) (f : En → LH → Res Bool) : Prop := PW X e (Rdg X Wx RB f)
def SA (X : Cx) (Wx : WX) (es : List Expr) (f : En → LH → Res (List Va)) : Prop := PA X es (Rdg X Wx (RVs X) f)
theorem PE.imp {X : Cx} {e : Expr} {t t' : TE} (h : PE X e t) (k : ∀ σ H Q, t' σ H Q → t σ H Q) : PE X e t' := ⟨fun pins s σ H Q I q => h.run pins s σ H Q I (k σ H Q q)⟩
theorem PT.imp {X : Cx} {e : Expr} {t t' : TT} (h : PT X e t) (k : ∀ σ H Q, t' σ H Q → t σ H Q) : PT X e t' := ⟨fun pins s σ H Q I q => h.run pins s σ H Q I (k σ H Q q)⟩
theorem PW.imp {X : Cx} {e : Expr} {t t' : TT} (h : PW X e t) (k : ∀ σ H Q, t' σ H Q → t σ H Q) : PW X e t' := ⟨fun w pins s σ H Q I q => h.run w pins s σ H Q I (k σ H Q q)⟩
theorem PA.imp {X : Cx} {e : List Expr} {t t' : TA} (h : PA X e t) (k : ∀ σ H Q, t' σ H Q → t σ H Q) : PA X e t' := ⟨fun pos pins s σ H Q I q => h.run pos pins s σ H Q I (k σ H Q q)⟩
theorem PS.imp {X : Cx} {e : Stmt} {t t' : TS} (h : PS X e t) (k : ∀ D σ H, t' D σ H → t D σ H) : PS X e t' := ⟨fun pins s σ H D I q => h.run pins s σ H D I (k D σ H q)⟩
theorem PSs.imp {X : Cx} {e : List Stmt} {t t' : TS} (h : PSs X e t) (k : ∀ D σ H, t' D σ H → t D σ H) : PSs X e t' := ⟨fun pins s σ H D I q => h.run pins s σ H D I (k D σ H q)⟩

section
variable {X : Cx} {Wx : WX} {σ : St} {H H1 : Hp} {al al1 T : List Addr} {L L1 : LH} {α β γ δ : Type} {R : Hp → List Addr → β → α → Prop} {S : Hp → List Addr → δ → γ → Prop}
theorem GPost.on (hl : al.length = L.length) (s : Stp X.K X.mg H al T L H1 al1 T L1) {r : Res α} {Q : β → Hp → Prop} (h : GPost X Wx σ H al T L R r Q) : GPost X Wx σ H1 al1 T L1 R r Q := by
  cases r with
  | ok a L' => exact fun b H' al' t q => h b H' al' (Stp.trans hl s t) q
  | exc c f L' => exact fun cls d H' al' t q => h cls d H' al' (Stp.trans hl s t) q
  | stuck => exact h
theorem gbind {f : Res α} {k : α → LH → Res γ} {Q : δ → Hp → Prop} (hl : al.length = L.length) (h : GPost X Wx σ H al T L S (f.bind k) Q) :
    GPost X Wx σ H al T L R f (fun b H1 => ∃ a L1 al1, Stp X.K X.mg H al T L H1 al1 T L1 ∧ R (mask H1 (al1 ++ T)) al1 b a ∧ GPost X Wx σ H1 al1 T L1 S (k a L1) Q) := by
  cases f with
  | ok a L' => exact fun b H' al' s q => ⟨a, L', al', s, q, GPost.on hl s h⟩
  | exc c f L' => exact h
  | stuck => exact h
theorem rbind {env : En} {f : En → LH → Res α} {k : α → LH → Res γ} {Q : δ → Hp → Prop} (c : Conf X.K X.mg σ H env L al T) (h : GPost X Wx σ H al T L S ((f env L).bind k) Q) :
    Rdg X Wx R f σ H (fun b H1 => ∃ a L1 al1, Conf X.K X.mg σ H1 env L1 al1 T ∧ Stp X.K X.mg H al T L H1 al1 T L1 ∧ R (mask H1 (al1 ++ T)) al1 b a ∧ GPost X Wx σ H1 al1 T L1 S (k a L1) Q) := by
  refine ⟨env, L, al, T, c, ?_⟩
  have g := gbind (R := R) c.rel.len h
  revert g
  generalize f env L = r
  intro g
  cases r with
  | ok a L' => exact fun b H' al' s q => let ⟨a, L1, al1, s1, q1, g1⟩ := g b H' al' s q; ⟨a, L1, al1, c.stp s1, s1, q1, g1⟩
  | exc c f L' => exact g
  | stuck => exact g
theorem gok (r : Rel X.K X.mg H al T L) {a : α} {b : β} {Q : β → Hp → Prop} (h : GPost X Wx σ H al T L R (.ok a L) Q) (q : R (mask H (al ++ T)) al b a) : Q b H := h b H al (Stp.refl r) q

def eVar (i : Nat) : EF := fun env L => match env[i]? with
  | some (some w) => .ok w L
  | _ => .stuck
theorem se_var {i : Nat} {x : Str} {pos : Pos} (hN : X.N[i]? = some x) (hv : Vis X.env.scope x) (hd : (x == ("__debug__" : Str)) = false := by decide) (hcd : (x == ("__classdict__" : Str)) = false := by decide) : SE X Wx (.Name x pos) (eVar i) := by
  refine PE.imp (pe_var hN hv hd hcd) ?_
  rintro σ H Q ⟨env, L, al, T, c, h⟩
  unfold eVar at h
  cases e : env[i]? with
  | none => rw [e] at h; exact h.elim
  | some o =>
    cases o with
    | none => rw [e] at h; exact h.elim
    | some w =>
      rw [e] at h
      obtain ⟨v, h1, h2⟩ := c.slot i w e
      exact ⟨v, h1, gok c.rel h h2⟩
def eC (x : PyData) : EF := fun _ L => .ok (.d x) L
theorem se_int {i : Int} {j : Nat} {pos : Pos} : SE X Wx (.Constant (.int i) j pos) (eC (.int i)) := PE.imp pe_int fun σ H Q ⟨env, L, al, T, c, h⟩ => gok c.rel h (.d (.int i))
theorem se_bl {b : Bool} {j : Nat} {pos : Pos} : SE X Wx (.Constant (.bool b) j pos) (eC (.bool b)) := PE.imp pe_bl fun σ H Q ⟨env, L, al, T, c, h⟩ => gok c.rel h (.d (.bl b))
theorem se_non {j : Nat} {pos : Pos} : SE X Wx (.Constant .none j pos) (eC .none) := PE.imp pe_non fun σ H Q ⟨env, L, al, T, c, h⟩ => gok c.rel h (.d .non)
theorem se_str {x : Str} {j : Nat} {pos : Pos} : SE X Wx (.Constant (.str x) j pos) (eC (.str x)) := PE.imp pe_str fun σ H Q ⟨env, L, al, T, c, h⟩ => gok c.rel h (.d (.str x))
theorem se_globI {x : Str} {i : Int} {t : Tok} {pos : Pos} (hg : Gl X x) (hm : X.mg x = some (.int i t)) (hd : (x == ("__debug__" : Str)) = false := by decide) : SE X Wx (.Name x pos) (eC (.int i)) :=
  PE.imp (pe_glob (v := .int i) hg hm ⟨t, rfl⟩ hd) fun σ H Q ⟨env, L, al, T, c, h⟩ => gok c.rel h (.d (.int i))
theorem se_globS {x : Str} {i : Str} {t : Tok} {pos : Pos} (hg : Gl X x) (hm : X.mg x = some (.str i t)) (hd : (x == ("__debug__" : Str)) = false := by decide) : SE X Wx (.Name x pos) (eC (.str i)) :=
  PE.imp (pe_glob (v := .str i) hg hm ⟨t, rfl⟩ hd) fun σ H Q ⟨env, L, al, T, c, h⟩ => gok c.rel h (.d (.str i))

abbrev Op2 := Va → Va → LH → Res Va
def Ok2 (X : Cx) (r : R2) (g : Op2) : Prop := ∀ (Wx : WX) (σ : St) (H : Hp) (al T : List Addr) (L : LH) (x y : V) (w u : Va) (Q : VK), Rel X.K X.mg H al T L → RV X (mask H (al ++ T)) al x w → RV X (mask H (al ++ T)) al y u →
  GPost X Wx σ H al T L (RV X) (g w u L) Q → r x y H Q
def eOp (g : Op2) (a b : EF) : EF := fun env L => (a env L).bind fun w L1 => (b env L1).bind fun u L2 => g w u L2
variable {a b c : Expr} {fa fb fc : EF} {pos : Pos}
theorem op_core {g : Op2} {r : R2} (o : Ok2 X r g) {σ : St} {H : Hp} {Q : VK} (h : Rdg X Wx (RV X) (eOp g fa fb) σ H Q) : tOp r (Rdg X Wx (RV X) fa) (Rdg X Wx (RV X) fb) σ H Q := by
  obtain ⟨env, L, al, T, c, h⟩ := h
  obtain ⟨env', L', al', T', c', h'⟩ := rbind (R := RV X) c h
  refine ⟨env', L', al', T', c', ?_⟩
  revert h'
  generalize fa env' L' = r1
  intro h'
  cases r1 with
  | stuck => exact h'
  | exc c f L1 => exact h'
  | ok w L1 =>
    intro v H1 al1 s1 q1
    obtain ⟨w2, L2, al2, c2, s2, q2, h2⟩ := h' v H1 al1 s1 q1
    obtain ⟨env3, L3, al3, T3, c3, h3⟩ := rbind (R := RV X) c2 h2
    refine ⟨env3, L3, al3, T3, c3, ?_⟩
    revert h3
    generalize fb env3 L3 = r2
    intro h3
    cases r2 with
    | stuck => exact h3
    | exc c f L4 => exact h3
    | ok u L4 =>
      intro v2 H4 al4 s4 q4
      obtain ⟨u5, L5, al5, c5, s5, q5, h5⟩ := h3 v2 H4 al4 s4 q4
      exact o Wx σ H4 al5 T L5 v v2 w2 u5 Q c5.rel (s5.rp q2) q5 h5
theorem se_op {op : Operator} {r : R2} {g : Op2} (ho : OpR X (binaryOp op) r) (o : Ok2 X r g) (ha : SE X Wx a fa) (hb : SE X Wx b fb) : SE X Wx (.BinOp a op b pos) (eOp g fa fb) :=
  PE.imp (pe_op ho ha hb) fun _ _ _ h => op_core o h
theorem se_cmp {op : CmpOp} {r : R2} {g : Op2} (ho : OpR X (compareOp op) r) (o : Ok2 X r g) (ha : SE X Wx a fa) (hb : SE X Wx b fb) (hm : behindInMarks op b = false) : SE X Wx (.Compare a [op] [b] pos) (eOp g fa fb) :=
  PE.imp (pe_cmpR ho ha hb hm) fun _ _ _ h => op_core o h
theorem Ok2.or {r r' : R2} {g : Op2} (h : ∀ (Wx : WX) (σ : St) (H : Hp) (al T : List Addr) (L : LH) (x y : V) (w u : Va) (Q : VK), Rel X.K X.mg H al T L → RV X (mask H (al ++ T)) al x w → RV X (mask H (al ++ T)) al y u →
  GPost X Wx σ H al T L (RV X) (g w u L) Q → r x y H Q ∨ r' x y H Q) : Ok2 X (fun x y H Q => r x y H Q ∨ r' x y H Q) g := h

def tVal (f : EF) : En → LH → Res Bool := fun env L => (f env L).bind fun w L1 => match w with
  | .d (.bool b) => .ok b L1
  | _ => .stuck
theorem val_core {f : EF} {σ : St} {H : Hp} {Q : Bool → Hp → Prop} (h : Rdg X Wx RB (tVal f) σ H Q) : tB (Rdg X Wx (RV X) f) σ H Q := by
  obtain ⟨env, L, al, T, c, h⟩ := h
  obtain ⟨env', L', al', T', c', h'⟩ := rbind (R := RV X) c h
  refine ⟨env', L', al', T', c', ?_⟩
  revert h'
  generalize f env' L' = r1
  intro h'
  cases r1 with
  | stuck => exact h'
  | exc c f L1 => exact h'
  | ok w L1 =>
    intro v H1 al1 s1 q1
    obtain ⟨w2, L2, al2, c2, s2, q2, h2⟩ := h' v H1 al1 s1 q1
    match w2, q2, h2 with
    | .d (.bool b), .d (.bl _), h2 => exact ⟨b, rfl, gok c2.rel h2 rfl⟩
    | .d .none, _, h2 => exact h2.elim
    | .d (.int _), _, h2 => exact h2.elim
    | .d (.str _), _, h2 => exact h2.elim
    | .d (.list _), _, h2 => exact h2.elim
    | .d (.tuple _), _, h2 => exact h2.elim
    | .d (.dict _), _, h2 => exact h2.elim
    | .loc _, _, h2 => exact h2.elim
    | .tup _, _, h2 => exact h2.elim
    | .dct _, _, h2 => exact h2.elim
    | .exc _ _, _, h2 => exact h2.elim
    | .scr _, _, h2 => exact h2.elim
theorem st_val (ha : SE X Wx a fa) (he : ∀ whole, isTrue a X.env whole = (do let v ← whole; standAt a.pos; holding [v] (truthy v)) := by intro _; rfl) : ST X Wx a (tVal fa) :=
  PT.imp (pt_val ha he) fun _ _ _ h => val_core h
theorem st_cmp {op : CmpOp} {r : R2} {g : Op2} (ho : OpR X (compareOp op) r) (o : Ok2 X r g) (ha : SE X Wx a fa) (hb : SE X Wx b fb) (hm : behindInMarks op b = false) : ST X Wx (.Compare a [op] [b] pos) (tVal (eOp g fa fb)) :=
  PT.imp (pt_cmpR ho ha hb hm) fun σ H Q h => by
    have := val_core h
    obtain ⟨env, L, al, T, c, k⟩ := this
    exact op_core o ⟨env, L, al, T, c, k⟩
variable {ta tb : En → LH → Res Bool} {rest : List Expr}
def tAndF (f g : En → LH → Res Bool) : En → LH → Res Bool := fun env L => (f env L).bind fun b L1 => if b then g env L1 else .ok false L1
def tOrF (f g : En → LH → Res Bool) : En → LH → Res Bool := fun env L => (f env L).bind fun b L1 => if b then .ok true L1 else g env L1
def tNotF (f : En → LH → Res Bool) : En → LH → Res Bool := fun env L => (f env L).bind fun b L1 => .ok (!b) L1
theorem two_core {f : En → LH → Res Bool} {k : Bool → LH → Res α} {σ : St} {H : Hp} {Q : β → Hp → Prop} {Q' : Bool → Hp → Prop} {env : En} {L : LH} {al T : List Addr} (c : Conf X.K X.mg σ H env L al T)
    (h : GPost X Wx σ H al T L R ((f env L).bind k) Q) (hk : ∀ b H1 L1 al1, Conf X.K X.mg σ H1 env L1 al1 T → GPost X Wx σ H1 al1 T L1 R (k b L1) Q → Q' b H1) : Rdg X Wx RB f σ H Q' := by
  refine ⟨env, L, al, T, c, ?_⟩
  have g := gbind (R := RB) c.rel.len h
  revert g
  generalize f env L = r
  intro g
  cases r with
  | stuck => exact g
  | exc c f L1 => exact g
  | ok b L1 =>
    intro b' H1 al1 s1 q1
    obtain ⟨a, L2, al2, s2, q2, g2⟩ := g b' H1 al1 s1 q1
    cases (show b' = a from q2)
    exact hk b' H1 L2 al2 (c.stp s2) g2
theorem sw_and1 (ha : ST X Wx a ta) : SW X Wx (.BoolOp .And [a] pos) ta := pw_and1 ha
theorem sw_or1 (ha : ST X Wx a ta) : SW X Wx (.BoolOp .Or [a] pos) ta := pw_or1 ha
theorem sw_and (ha : ST X Wx a ta) (hb : SW X Wx (.BoolOp .And (b :: rest) pos) tb) : SW X Wx (.BoolOp .And (a :: b :: rest) pos) (tAndF ta tb) :=
  PW.imp (pw_and ha hb) fun σ H Q ⟨env, L, al, T, c, h⟩ => two_core c h fun b H1 L1 al1 c1 g => by
    cases b with
    | true => exact ⟨env, L1, al1, T, c1, g⟩
    | false => exact gok c1.rel g rfl
theorem sw_or (ha : ST X Wx a ta) (hb : SW X Wx (.BoolOp .Or (b :: rest) pos) tb) : SW X Wx (.BoolOp .Or (a :: b :: rest) pos) (tOrF ta tb) :=
  PW.imp (pw_or ha hb) fun σ H Q ⟨env, L, al, T, c, h⟩ => two_core c h fun b H1 L1 al1 c1 g => by
    cases b with
    | false => exact ⟨env, L1, al1, T, c1, g⟩
    | true => exact gok c1.rel g rfl
theorem st_w (h : SW X Wx a ta) : ST X Wx a ta := PW.pt h
theorem st_not (ha : ST X Wx a ta) : ST X Wx (.UnaryOp .Not a pos) (tNotF ta) :=
  PT.imp (pt_not ha) fun σ H Q ⟨env, L, al, T, c, h⟩ => two_core c h fun b H1 L1 al1 c1 g => gok c1.rel g rfl
def eIf (t : En → LH → Res Bool) (f g : EF) : EF := fun env L => (t env L).bind fun b L1 => if b then f env L1 else g env L1
theorem se_ifExp (hc : ST X Wx c tb) (ha : SE X Wx a fa) (hb : SE X Wx b fb) : SE X Wx (.IfExp c a b pos) (eIf tb fa fb) :=
  PE.imp (pe_ifExp hc ha hb) fun σ H Q ⟨env, L, al, T, c, h⟩ => two_core c h fun b H1 L1 al1 c1 g => by
    cases b with
    | false => exact ⟨env, L1, al1, T, c1, g⟩
    | true => exact ⟨env, L1, al1, T, c1, g⟩
def eAnd (f g : EF) : EF := fun env L => (tVal f env L).bind fun b L1 => if b then g env L1 else .ok (.d (.bool false)) L1
def eOr (f g : EF) : EF := fun env L => (tVal f env L).bind fun b L1 => if b then .ok (.d (.bool true)) L1 else g env L1
def eNot (f : EF) : EF := fun env L => (tVal f env L).bind fun b L1 => .ok (.d (.bool (!b))) L1
theorem se_one {op : BoolOp} (h : SE X Wx a fa) : SE X Wx (.BoolOp op [a] pos) fa := pe_one h
theorem valc {f : EF} {k : Bool → LH → Res α} {σ : St} {H : Hp} {Q : β → Hp → Prop} {Q' : Bool → Hp → Prop} {env : En} {L : LH} {al T : List Addr} (c : Conf X.K X.mg σ H env L al T)
    (h : GPost X Wx σ H al T L R ((tVal f env L).bind k) Q) (hk : ∀ b H1 L1 al1, Conf X.K X.mg σ H1 env L1 al1 T → GPost X Wx σ H1 al1 T L1 R (k b L1) Q → Q' b H1) : tB (Rdg X Wx (RV X) f) σ H Q' := val_core (two_core c h hk)
theorem se_and (ha : SE X Wx a fa) (hb : SE X Wx (.BoolOp .And (b :: rest) pos) fb) : SE X Wx (.BoolOp .And (a :: b :: rest) pos) (eAnd fa fb) :=
  PE.imp (pe_and ha hb) fun σ H Q ⟨env, L, al, T, c, h⟩ => by
    obtain ⟨env', L', al', T', c', h'⟩ := valc (Q' := fun b H1 => if b = true then Rdg X Wx (RV X) fb σ H1 Q else Q (.bl false) H1) c h fun b H1 L1 al1 c1 g => by
      cases b with
      | true => exact ⟨env, L1, al1, T, c1, g⟩
      | false => exact gok c1.rel g (.d (.bl false))
    exact ⟨env', L', al', T', c', h'⟩
theorem se_not (ha : SE X Wx a fa) : SE X Wx (.UnaryOp .Not a pos) (eNot fa) :=
  PE.imp (pe_not ha) fun σ H Q ⟨env, L, al, T, c, h⟩ => by
    obtain ⟨env', L', al', T', c', h'⟩ := valc (Q' := fun b H1 => Q (.bl (!b)) H1) c h fun b H1 L1 al1 c1 g => gok c1.rel g (.d (.bl (!b)))
    exact ⟨env', L', al', T', c', h'⟩
def aNil : En → LH → Res (List Va) := fun _ L => .ok [] L
def aCons (f : EF) (g : En → LH → Res (List Va)) : En → LH → Res (List Va) := fun env L => (f env L).bind fun w L1 => (g env L1).bind fun ws L2 => .ok (w :: ws) L2
theorem sa_nil : SA X Wx [] aNil := PA.imp pa_nil fun σ H Q ⟨env, L, al, T, c, h⟩ => gok c.rel h .nil
theorem sa_cons {e : Expr} {es : List Expr} {fe : EF} {fs : En → LH → Res (List Va)} (ha : SE X Wx e fe) (hr : SA X Wx es fs) (hs : starEach (e :: es) X.env = (false, eval e X.env) :: starEach es X.env := by rfl) : SA X Wx (e :: es) (aCons fe fs) := by
  refine PA.imp (pa_cons ha hr hs) ?_
  rintro σ H Q ⟨env, L, al, T, c, h⟩
  obtain ⟨env', L', al', T', c', h'⟩ := rbind (R := RV X) c h
  refine ⟨env', L', al', T', c', ?_⟩
  revert h'
  generalize fe env' L' = r1
  intro h'
  cases r1 with
  | stuck => exact h'
  | exc c f L1 => exact h'
  | ok w L1 =>
    intro v H1 al1 s1 q1
    obtain ⟨w2, L2, al2, c2, s2, q2, h2⟩ := h' v H1 al1 s1 q1
    obtain ⟨env3, L3, al3, T3, c3, h3⟩ := rbind (R := RVs X) c2 h2
    refine ⟨env3, L3, al3, T3, c3, ?_⟩
    revert h3
    generalize fs env3 L3 = r2
    intro h3
    cases r2 with
    | stuck => exact h3
    | exc c f L4 => exact h3
    | ok u L4 =>
      intro v2 H4 al4 s4 q4
      obtain ⟨u5, L5, al5, c5, s5, q5, h5⟩ := h3 v2 H4 al4 s4 q4
      exact gok c5.rel h5 (.cons (s5.rp q2) q5)
end
end L2.HW
namespace L2.HW
open PySem PySem.Spec PyProof.Rows
theorem rseq {X : Cx} {Wx : WX} {σ : St} {H : Hp} {al T : List Addr} {L : LH} {α β γ δ : Type} {R : Hp → List Addr → β → α → Prop} {S : Hp → List Addr → δ → γ → Prop} {env : En} {f : En → LH → Res α} {k : α → LH → Res γ} {Q : δ → Hp → Prop} {Q' : β → Hp → Prop}
    (c : Conf X.K X.mg σ H env L al T) (h : GPost X Wx σ H al T L S ((f env L).bind k) Q)
    (hk : ∀ b H1 a L1 al1, Conf X.K X.mg σ H1 env L1 al1 T → Stp X.K X.mg H al T L H1 al1 T L1 → R (mask H1 (al1 ++ T)) al1 b a → GPost X Wx σ H1 al1 T L1 S (k a L1) Q → Q' b H1) : Rdg X Wx R f σ H Q' := by
  refine ⟨env, L, al, T, c, ?_⟩
  have g := gbind (R := R) c.rel.len h
  revert g
  generalize f env L = r
  intro g
  cases r with
  | stuck => exact g
  | exc c f L1 => exact g
  | ok b L1 =>
    intro b' H1 al1 s1 q1
    obtain ⟨a, L2, al2, s2, q2, g2⟩ := g b' H1 al1 s1 q1
    exact hk b' H1 a L2 al2 (c.stp s2) s2 q2 g2
section
variable {K : PySem.W.Frag} {mg : Str → Option Value} {H : Hp} {al T : List Addr} {L : LH} {p : Addr} {o : HO}
theorem mask_eq {H : Hp} {P P' : List Addr} (h : ∀ b, b ∈ P ↔ b ∈ P') : mask H P = mask H P' := by
  funext b
  unfold mask
  by_cases q : b ∈ P
  · rw [if_pos q, if_pos ((h b).mp q)]
  · rw [if_neg q, if_neg fun z => q ((h b).mpr z)]
theorem Rel.fresh (r : Rel K mg H al T L) (hp : H p = none) : p ∉ al ∧ p ∉ T := ⟨fun z => r.trk p (.inl z) hp, fun z => r.trk p (.inr z) hp⟩
theorem upd_of {b : Addr} {u : HO} (hp : H p = none) (e : H b = some u) : upd H p o b = some u := by
  rw [upd_ne (ne_of_none e hp)]; exact e
theorem mask_upd (hp : H p = none) (P : List Addr) : Le (mask H P) (mask (upd H p o) P) := fun b u e => by
  obtain ⟨n, e⟩ := of_mask e
  exact mask_of n (upd_of hp e)
theorem Rel.alloc (r : Rel K mg H al T L) (hp : H p = none) : Stp K mg H al T L (upd H p o) al T L := by
  refine ⟨⟨r.len, r.nd, r.dis, fun a h => ?_, fun n ob e => ?_⟩, ⟨[], by simp, fun _ z => nomatch z⟩, ⟨[], by simp, fun _ z => nomatch z⟩, fun b u e _ => upd_of hp e, fun b e => ?_, fun _ e => e, fun _ ob e => ⟨ob, e⟩⟩
  · have := r.trk a h
    intro z
    apply this
    cases q : H a with
    | none => rfl
    | some u => rw [upd_of hp q] at z; cases z
  · obtain ⟨a, e1, q⟩ := r.cell n ob e
    exact ⟨a, e1, ObR.le (mask_upd hp _) (ALe.refl _) (fun _ z => upd_of hp z) q⟩
  · intro z
    apply e
    cases q : H b with
    | none => rfl
    | some u => rw [upd_of hp q] at z; cases z
theorem Rel.allocT (r : Rel K mg H al T L) (hp : H p = none) : Stp K mg H al T L (upd H p o) al (p :: T) L := by
  have s := r.alloc (o := o) hp
  obtain ⟨n1, n2⟩ := r.fresh hp
  have m : Le (mask H (al ++ T)) (mask (upd H p o) (al ++ (p :: T))) := fun b u e => by
    obtain ⟨n, e⟩ := of_mask e
    refine mask_of (fun z => ?_) (upd_of hp e)
    simp only [List.mem_append, List.mem_cons] at z n
    rcases z with z | z | z
    · exact n (.inl z)
    · rw [z, hp] at e; cases e
    · exact n (.inr z)
  refine ⟨⟨r.len, r.nd, fun a h z => ?_, fun a h => ?_, fun n ob e => ?_⟩, s.ext, ⟨[p], rfl, fun b z => ?_⟩, s.frame, s.stay, s.lck, s.alv⟩
  · rcases List.mem_cons.mp z with z | z
    · exact n1 (z ▸ h)
    · exact r.dis a h z
  · rcases h with h | h
    · exact s.rel.trk a (.inl h)
    · rcases List.mem_cons.mp h with z | z
      · rw [z, upd_same]; simp
      · exact s.rel.trk a (.inr z)
  · obtain ⟨a, e1, q⟩ := r.cell n ob e
    exact ⟨a, e1, ObR.le m (ALe.refl _) (fun _ z => upd_of hp z) q⟩
  · have : b = p := by simpa using z
    rw [this]; exact hp
theorem Stp.cell {H' : Hp} {al' : List Addr} {L' : LH} {a : Addr} {ob : Ob} (r0 : Rel K mg H al T L) (ha : H a = none) (s : Stp K mg H al T L H' al' (a :: T) L') (q : ObR K mg (mask H' (al' ++ (a :: T))) al' H' a ob) :
    Stp K mg H al T L H' (al' ++ [a]) T (L' ++ [some ob]) := by
  have r := s.rel
  have m : mask H' (al' ++ (a :: T)) = mask H' ((al' ++ [a]) ++ T) := mask_eq fun b => by simp [or_assoc]
  have na : a ∉ al' := fun z => r.dis a z List.mem_cons_self
  obtain ⟨be, e1, f1⟩ := s.ext
  have hL : L.length ≤ L'.length ∨ al.length ≠ L.length := by
    have := r.len
    rw [e1, List.length_append] at this
    by_cases q : al.length = L.length
    · left; omega
    · exact .inr q
  have keep : ∀ (n : Nat) (c : Option Ob), L'[n]? = some c → (L' ++ [some ob])[n]? = some c := fun n c e => by
    obtain ⟨h, _⟩ := List.getElem?_eq_some_iff.mp e
    rw [List.getElem?_append_left h]; exact e
  refine ⟨⟨by simp [r.len], ?_, fun b h z => ?_, fun b h => ?_, fun n c e => ?_⟩, ⟨be ++ [a], by rw [e1, List.append_assoc], fun b h => ?_⟩, ⟨[], by simp, fun _ z => nomatch z⟩, s.frame, s.stay, fun n e => keep _ _ (s.lck n e), fun n c e => ?_⟩
  · rw [List.nodup_append]
    exact ⟨r.nd, by simp, fun x hx y hy => by have : y = a := by simpa using hy
                                              rw [this]; rintro rfl; exact na hx⟩
  · rcases List.mem_append.mp h with h | h
    · exact r.dis b h (List.mem_cons_of_mem _ z)
    · have : b = a := by simpa using h
      subst this
      exact (r0.fresh ha).2 z
  · rcases h with h | h
    · rcases List.mem_append.mp h with h | h
      · exact r.trk b (.inl h)
      · have : b = a := by simpa using h
        rw [this]; exact r.trk a (.inr List.mem_cons_self)
    · exact r.trk b (.inr (List.mem_cons_of_mem _ h))
  · rw [← m]
    by_cases hn : n < L'.length
    · rw [List.getElem?_append_left hn] at e
      obtain ⟨b, e2, q2⟩ := r.cell n c e
      exact ⟨b, by rw [List.getElem?_append_left (by rw [r.len]; exact hn)]; exact e2, ObR.le (Le.refl _) (ALe.app _ _) (fun _ z => z) q2⟩
    · rw [List.getElem?_append_right (by omega)] at e
      have h0 : n - L'.length = 0 := by
        by_cases z : n - L'.length = 0
        · exact z
        · rw [List.getElem?_eq_none (by simp; omega)] at e; cases e
      rw [h0] at e
      simp at e
      subst e
      refine ⟨a, by rw [List.getElem?_append_right (by rw [r.len]; omega), r.len, h0]; rfl, ObR.le (Le.refl _) (ALe.app _ _) (fun _ z => z) q⟩
  · rcases List.mem_append.mp h with h | h
    · exact f1 b h
    · have : b = a := by simpa using h
      rw [this]; exact ha
  · obtain ⟨c', e'⟩ := s.alv n c e
    exact ⟨c', keep _ _ e'⟩
end
end L2.HW
namespace L2.HW
open PySem PySem.Spec PyProof.Rows

def datas : List Va → Option (List PyData)
  | [] => some []
  | .d x :: r => (datas r).map (x :: ·)
  | _ :: _ => none
@[simp] theorem datas_nil : datas [] = some [] := (rfl)
@[simp] theorem datas_cons (x : PyData) (r : List Va) : datas (.d x :: r) = (datas r).map (x :: ·) := (rfl)
@[simp] theorem datas_map (xs : List PyData) : datas (xs.map Va.d) = some xs := by
  induction xs with
  | nil => rfl
  | cons x r ih => rw [List.map_cons, datas_cons, ih]; rfl
@[simp] theorem datas_app (xs : List PyData) (ws : List Va) : datas (xs.map Va.d ++ ws) = (datas ws).map (xs ++ ·) := by
  induction xs with
  | nil => simp
  | cons x r ih => rw [List.map_cons, List.cons_append, datas_cons, ih]; cases datas ws <;> simp
theorem datas_eq : ∀ {ws : List Va} {xs : List PyData}, datas ws = some xs → ws = xs.map Va.d
  | [], xs, h => by cases h; rfl
  | .d x :: r, xs, h => by
    rw [datas_cons] at h
    cases e : datas r with
    | none => rw [e] at h; cases h
    | some ys => rw [e] at h; cases h; rw [datas_eq e]; rfl
  | .loc _ :: _, _, h => by cases h
  | .tup _ :: _, _, h => by cases h
  | .dct _ :: _, _, h => by cases h
  | .exc _ _ :: _, _, h => by cases h
  | .scr _ :: _, _, h => by cases h
def Va.data (L : LH) : Va → Option PyData
  | .d x => some x
  | .loc n => match L[n]? with
    | some (some (.lst ws)) => (datas ws).map .list
    | _ => none
  | _ => none
@[simp] theorem data_d (L : LH) (x : PyData) : (Va.d x).data L = some x := (rfl)
def Va.seq (L : LH) : Va → Option (List Va)
  | .d (.list ds) => some (ds.map .d)
  | .d (.tuple ds) => some (ds.map .d)
  | .tup ws => some ws
  | .loc n => match L[n]? with
    | some (some (.lst ws)) => some ws
    | _ => none
  | .scr ns => some (ns.map fun i => .d (.int i))
  | _ => none
@[simp] theorem seq_list (L : LH) (ds : List PyData) : (Va.d (.list ds)).seq L = some (ds.map .d) := (rfl)
@[simp] theorem seq_tuple (L : LH) (ds : List PyData) : (Va.d (.tuple ds)).seq L = some (ds.map .d) := (rfl)
@[simp] theorem seq_tup (L : LH) (ws : List Va) : (Va.tup ws).seq L = some ws := (rfl)
section
variable {K : PySem.W.Frag} {mg : Str → Option Value} {H M : Hp} {al T : List Addr} {L : LH}
theorem dq_all : ∀ {vs : List V} {xs : List PyData}, Rps K mg M al vs (xs.map Va.d) → DqAll M vs xs
  | _, [], .nil => .nil
  | _, _ :: _, .cons (.d q) r => .cons q (dq_all r)
theorem all_dq : ∀ {vs : List V} {xs : List PyData}, DqAll M vs xs → Rps K mg M al vs (xs.map Va.d)
  | _, _, .nil => .nil
  | _, _, .cons q r => .cons (.d q) (all_dq r)
theorem loc_lst (r : Rel K mg H al T L) {n : Nat} {v : V} {ws : List Va} (q : Rp K mg (mask H (al ++ T)) al v (.loc n)) (e : L[n]? = some (some (.lst ws))) : ∃ a vs, v = .ref a ∧ al[n]? = some a ∧ H a = some (.lst vs) ∧ Rps K mg (mask H (al ++ T)) al vs ws := by
  cases q with
  | loc e1 =>
    obtain ⟨a, e2, vs, e3, e4⟩ := r.cell n _ e
    rw [e1] at e2; cases e2
    exact ⟨_, vs, rfl, e1, e3, e4⟩
theorem data_ok (r : Rel K mg H al T L) {v : V} {w : Va} {x : PyData} (q : Rp K mg (mask H (al ++ T)) al v w) (e : w.data L = some x) : Dq H v x := by
  cases w with
  | d y => cases e; cases q with | d q => exact Dq.le (mask_le _ _) q
  | loc n =>
    simp only [Va.data] at e
    split at e
    · rename_i ws e1
      obtain ⟨a, vs, rfl, _, e3, e4⟩ := loc_lst r q e1
      cases e5 : datas ws with
      | none => rw [e5] at e; cases e
      | some xs =>
        rw [e5] at e
        cases e
        rw [datas_eq e5] at e4
        exact .lst e3 (DqAll.le (mask_le _ _) (dq_all e4))
    · cases e
  | tup _ => cases e
  | dct _ => cases e
  | exc _ _ => cases e
  | scr _ => cases e
theorem seq_ok (r : Rel K mg H al T L) {v : V} {w : Va} {ws : List Va} (q : Rp K mg (mask H (al ++ T)) al v w) (e : w.seq L = some ws) : ∃ a vs, v = .ref a ∧ (SqL K H a vs ∨ SqT K H a vs) ∧ Rps K mg (mask H (al ++ T)) al vs ws := by
  cases w with
  | d y =>
    cases q with
    | d q =>
      cases q with
      | lst e1 e2 => cases e; exact ⟨_, _, rfl, .inl (SqL.of (of_mask e1).2), all_dq e2⟩
      | tup e1 e2 => cases e; exact ⟨_, _, rfl, .inr (SqT.of (of_mask e1).2), all_dq e2⟩
      | non => cases e
      | bl _ => cases e
      | int _ => cases e
      | str _ => cases e
  | loc n =>
    simp only [Va.seq] at e
    split at e
    · rename_i us e1
      cases e
      obtain ⟨a, vs, rfl, _, e3, e4⟩ := loc_lst r q e1
      exact ⟨a, vs, rfl, .inl (SqL.of e3), e4⟩
    · cases e
  | tup us =>
    cases e
    cases q with
    | tup e1 e2 => exact ⟨_, _, rfl, .inr (SqT.of (of_mask e1).2), e2⟩
  | dct _ => cases e
  | exc _ _ => cases e
  | scr ns =>
    cases e
    cases q with
    | scr e1 =>
      refine ⟨_, _, rfl, .inl (SqL.le (mask_le _ _) e1), ?_⟩
      have go : ∀ ns : List Int, Rps K mg (mask H (al ++ T)) al (ns.map V.int) (ns.map fun i => Va.d (.int i)) := fun ns => by
        induction ns with
        | nil => exact .nil
        | cons n r ih => exact .cons (.d (.int n)) ih
      exact go ns
end

def FPost (X : Cx) (Wx : WX) (σ : St) (H : Hp) (al T : List Addr) (L : LH) (r : Res Ob) (Q : VK) : Prop :=
  match r with
  | .ok o L' => ∀ a H' al', H a = none → Stp X.K X.mg H al T L H' al' (a :: T) L' → ObR X.K X.mg (mask H' (al' ++ (a :: T))) al' H' a o → Q (.ref a) H'
  | .exc c f L' => ∀ cls d H' al', Stp X.K X.mg H al T L H' al' T L' → ExR X.mg (mask H' (al' ++ T)) c f cls d → Wx cls d σ H'
  | .stuck => False
def FRdg (X : Cx) (Wx : WX) (f : En → LH → Res Ob) : TE := fun σ H Q => ∃ env L al T, Conf X.K X.mg σ H env L al T ∧ FPost X Wx σ H al T L (f env L) Q
def SF (X : Cx) (Wx : WX) (e : Expr) (f : En → LH → Res Ob) : Prop := PE X e (FRdg X Wx f)
def Ob.va : Ob → Option Va
  | .lst ws => (datas ws).map fun xs => .d (.list xs)
  | .di kvs => (datas (kvs.map (·.2))).map fun xs => .dct ((kvs.map (·.1)).zip xs)
  | _ => none
@[simp] theorem va_lst (xs : List PyData) : (Ob.lst (xs.map Va.d)).va = some (.d (.list xs)) := by simp [Ob.va]
def eDat (g : En → LH → Res Ob) : EF := fun env L => (g env L).bind fun o L1 => match o.va with
  | some w => .ok w L1
  | none => .stuck
def eNew (g : En → LH → Res Ob) : EF := fun env L => (g env L).bind fun o L1 => .ok (.loc L1.length) (L1 ++ [some o])
theorem va_ok {K : PySem.W.Frag} {mg : Str → Option Value} {H : Hp} {al P : List Addr} {a : Addr} (na : a ∉ P) {o : Ob} {w : Va} {M : Hp} (hM : Le M (mask H P)) (q : ObR K mg M al H a o) (e : o.va = some w) : Rp K mg (mask H P) al (.ref a) w := by
  cases o with
  | lst ws =>
    obtain ⟨vs, h1, h2⟩ := q
    simp only [Ob.va] at e
    cases e5 : datas ws with
    | none => rw [e5] at e; cases e
    | some xs =>
      rw [e5] at e
      cases e
      rw [datas_eq e5] at h2
      exact .d (.lst (mask_of na h1) (DqAll.le hM (dq_all h2)))
  | di kvs =>
    obtain ⟨ks, h1, h2⟩ := q
    simp only [Ob.va] at e
    cases e5 : datas (kvs.map (·.2)) with
    | none => rw [e5] at e; cases e
    | some xs =>
      rw [e5] at e
      cases e
      refine .dct (mask_of na h1) ?_
      have go : ∀ {ks : List (Key × V)} {kvs : List (Int × Va)} {xs : List PyData}, KRp K mg M al ks kvs → datas (kvs.map (·.2)) = some xs → KDp (mask H P) ks ((kvs.map (·.1)).zip xs) := by
        intro ks kvs xs h
        induction h generalizing xs with
        | nil => intro _; exact .nil
        | @cons p q ps qs h1 _ ih =>
          intro e
          obtain ⟨k, w⟩ := q
          obtain ⟨pk, pv⟩ := p
          have e0 := datas_eq e
          match xs, e0, e with
          | x :: xs, e0, e =>
            simp only [List.map_cons, List.cons.injEq] at e0
            obtain ⟨e1, e2⟩ := e0
            obtain ⟨h3, h4⟩ := h1
            have h4' : Rp K mg M al pv w := h4
            rw [show w = Va.d x from e1] at h4'
            cases h4' with
            | d q => exact .cons ⟨h3, Dq.le hM q⟩ (ih (by rw [e2]; simp))
      exact go h2 e5
  | dt _ => cases e
  | ins _ _ => cases e
theorem se_dat {X : Cx} {Wx : WX} {e : Expr} {g : En → LH → Res Ob} (h : SF X Wx e g) : SE X Wx e (eDat g) := by
  refine PE.imp h ?_
  rintro σ H Q ⟨env, L, al, T, c, q⟩
  refine ⟨env, L, al, T, c, ?_⟩
  unfold eDat at q
  revert q
  generalize g env L = r
  intro q
  cases r with
  | stuck => exact q
  | exc c f L1 => exact q
  | ok o L1 =>
    intro a H' al' ha s ob
    simp only [Res.bind_ok] at q
    cases e : o.va with
    | none => rw [e] at q; exact q.elim
    | some w =>
      rw [e] at q
      have r := s.rel
      have na : a ∉ al' ++ T := fun z => by
        rcases List.mem_append.mp z with z | z
        · exact r.dis a z List.mem_cons_self
        · exact (c.rel.fresh ha).2 z
      have m : Le (mask H' (al' ++ (a :: T))) (mask H' (al' ++ T)) := fun b u e => by
        obtain ⟨n, e⟩ := of_mask e
        exact mask_of (fun z => n (by simp only [List.mem_append, List.mem_cons] at z ⊢; exact z.imp id .inr)) e
      exact q _ H' al' (Stp.drop (te := [a]) (fun b hb => by have : b = a := by simpa using hb
                                                             rw [this]; exact ha) s) (va_ok na m ob e)
theorem se_new {X : Cx} {Wx : WX} {e : Expr} {g : En → LH → Res Ob} (h : SF X Wx e g) : SE X Wx e (eNew g) := by
  refine PE.imp h ?_
  rintro σ H Q ⟨env, L, al, T, c, q⟩
  refine ⟨env, L, al, T, c, ?_⟩
  unfold eNew at q
  revert q
  generalize g env L = r
  intro q
  cases r with
  | stuck => exact q
  | exc c f L1 => exact q
  | ok o L1 =>
    intro a H' al' ha s ob
    refine q _ H' (al' ++ [a]) (Stp.cell c.rel ha s ob) (.loc ?_)
    rw [← s.rel.len, List.getElem?_append_right (Nat.le_refl _), Nat.sub_self]
    rfl
theorem gnew {X : Cx} {Wx : WX} {σ : St} {H : Hp} {al T : List Addr} {L : LH} {w : Va} {Q : VK} {o : HO} (r : Rel X.K X.mg H al T L) (h : GPost X Wx σ H al T L (RV X) (.ok w L) Q)
    (k : ∀ p, H p = none → (upd H p o) p = some o → Le (mask H (al ++ T)) (mask (upd H p o) (al ++ T)) → mask (upd H p o) (al ++ T) p = some o → RV X (mask (upd H p o) (al ++ T)) al (.ref p) w) : ∀ p, H p = none → Q (.ref p) (upd H p o) := fun p hp => by
  obtain ⟨n1, n2⟩ := r.fresh hp
  exact h _ _ al (r.alloc hp) (k p hp upd_same (mask_upd hp _) (mask_of (by simp [n1, n2]) upd_same))
theorem fnew {X : Cx} {Wx : WX} {σ : St} {H : Hp} {al T : List Addr} {L : LH} {ob : Ob} {Q : VK} {o : HO} (r : Rel X.K X.mg H al T L) (h : FPost X Wx σ H al T L (.ok ob L) Q)
    (k : ∀ p, H p = none → (upd H p o) p = some o → Le (mask H (al ++ T)) (mask (upd H p o) (al ++ (p :: T))) → ObR X.K X.mg (mask (upd H p o) (al ++ (p :: T))) al (upd H p o) p ob) : ∀ p, H p = none → Q (.ref p) (upd H p o) := fun p hp => by
  have s := r.allocT (o := o) hp
  exact h p _ al hp s (k p hp upd_same s.le)
end L2.HW
namespace L2.HW
open PySem PySem.Spec PyProof.Rows
section
variable {X : Cx}
def Va.items (L : LH) : Va → Option (List Va)
  | .d (.list ds) => some (ds.map .d)
  | .loc n => match L[n]? with
    | some (some (.lst ws)) => some ws
    | _ => none
  | _ => none
@[simp] theorem items_list (L : LH) (ds : List PyData) : (Va.d (.list ds)).items L = some (ds.map .d) := (rfl)
theorem items_ok {K : PySem.W.Frag} {mg : Str → Option Value} {H : Hp} {al T : List Addr} {L : LH} (r : Rel K mg H al T L) {v : V} {w : Va} {ws : List Va} (q : Rp K mg (mask H (al ++ T)) al v w) (e : w.items L = some ws) :
    ∃ a vs, v = .ref a ∧ H a = some (.lst vs) ∧ Rps K mg (mask H (al ++ T)) al vs ws := by
  cases w with
  | d y =>
    cases q with
    | d q =>
      cases q with
      | lst e1 e2 => cases e; exact ⟨_, _, rfl, (of_mask e1).2, all_dq e2⟩
      | tup e1 e2 => cases e
      | non => cases e
      | bl _ => cases e
      | int _ => cases e
      | str _ => cases e
  | loc n =>
    simp only [Va.items] at e
    split at e
    · rename_i us e1
      cases e
      obtain ⟨a, vs, rfl, _, e3, e4⟩ := loc_lst r q e1
      exact ⟨a, vs, rfl, e3, e4⟩
    · cases e
  | tup us => cases e
  | dct _ => cases e
  | exc _ _ => cases e
  | scr ns => cases e
def opAdd : Op2 := fun w u L => match w, u with
  | .d (.int i), .d (.int j) => .ok (.d (.int (i + j))) L
  | .d (.str a), .d (.str b) => if a.length + b.length ≤ sizeLine then .ok (.d (.str (a ++ b))) L else .stuck
  | .d (.tuple xs), .d (.tuple ys) => if xs.length + ys.length ≤ sizeLine then .ok (.d (.tuple (xs ++ ys))) L else .stuck
  | w, u => match w.items L, u.items L with
    | some ws, some us => if ws.length + us.length ≤ sizeLine then match datas ws, datas us with
      | some xs, some ys => .ok (.d (.list (xs ++ ys))) L
      | _, _ => .stuck
      else .stuck
    | _, _ => .stuck
theorem dq_app {M : Hp} : ∀ {vs us : List V} {xs ys : List PyData}, DqAll M vs xs → DqAll M us ys → DqAll M (vs ++ us) (xs ++ ys)
  | _, _, _, _, .nil, h => h
  | _, _, _, _, .cons a b, h => .cons a (dq_app b h)
theorem dq_int {M : Hp} {v : V} {i : Int} (h : Dq M v (.int i)) : v = .int i := by cases h; rfl
theorem dq_str {M : Hp} {v : V} {i : Str} (h : Dq M v (.str i)) : v = .str i := by cases h; rfl
theorem dq_bl {M : Hp} {v : V} {i : Bool} (h : Dq M v (.bool i)) : v = .bl i := by cases h; rfl
theorem dq_non {M : Hp} {v : V} (h : Dq M v .none) : v = .non := by cases h; rfl
theorem dq_tup {M : Hp} {v : V} {xs : List PyData} (h : Dq M v (.tuple xs)) : ∃ a vs, v = .ref a ∧ M a = some (.tup vs) ∧ DqAll M vs xs := by cases h with | tup e q => exact ⟨_, _, rfl, e, q⟩
theorem dq_lst {M : Hp} {v : V} {xs : List PyData} (h : Dq M v (.list xs)) : ∃ a vs, v = .ref a ∧ M a = some (.lst vs) ∧ DqAll M vs xs := by cases h with | lst e q => exact ⟨_, _, rfl, e, q⟩
theorem rp_d {K : PySem.W.Frag} {mg : Str → Option Value} {M : Hp} {al : List Addr} {v : V} {x : PyData} (h : Rp K mg M al v (.d x)) : Dq M v x := by cases h with | d q => exact q
abbrev rAddI : R2 := rI0 fun i j => .int (i + j)
abbrev rAddS : R2 := fun x y H Q => ∃ i j, x = .str i ∧ y = .str j ∧ i.length + j.length ≤ sizeLine ∧ Q (.str (i ++ j)) H
theorem or_add : OpR X (binaryOp .Add) (fun x y H Q => rAddI x y H Q ∨ rAddS x y H Q ∨ rCatA X.K x y H Q ∨ rCat x y H Q) := op_add.or (op_add_str.or (op_catA.or op_cat))
theorem ok_add : Ok2 X (fun x y H Q => rAddI x y H Q ∨ rAddS x y H Q ∨ rCatA X.K x y H Q ∨ rCat x y H Q) opAdd := by
  intro Wx σ H al T L x y w u Q r q1 q2 h
  unfold opAdd at h
  split at h
  · rename_i i j
    have e1 := dq_int (rp_d q1)
    have e2 := dq_int (rp_d q2)
    exact .inl ⟨i, j, e1, e2, gok r h (.d (.int _))⟩
  · rename_i a b
    have e1 := dq_str (rp_d q1)
    have e2 := dq_str (rp_d q2)
    split at h
    · exact .inr (.inl ⟨a, b, e1, e2, by assumption, gok r h (.d (.str _))⟩)
    · exact h.elim
  · rename_i xs ys
    obtain ⟨a, vs, rfl, e1, d1⟩ := dq_tup (rp_d q1)
    obtain ⟨b, us, rfl, e2, d2⟩ := dq_tup (rp_d q2)
    split at h
    · rename_i hl
      have l1 := d1.len
      have l2 := d2.len
      refine .inr (.inr (.inl ⟨a, b, vs, us, rfl, rfl, SqT.of (of_mask e1).2, SqT.of (of_mask e2).2, by omega, fun z => ?_, fun _ z => ?_, fun _ _ => gnew r h fun p hp e m e' => ?_⟩))
      · subst z
        cases d1
        exact gok r h (.d (.tup e2 d2))
      · subst z
        cases d2
        rw [List.append_nil] at h
        exact gok r h (.d (.tup e1 d1))
      · exact .d (.tup e' (dq_app (DqAll.le m d1) (DqAll.le m d2)))
    · exact h.elim
  · split at h
    · rename_i ws us e1 e2
      obtain ⟨a, vs, rfl, f1, d1⟩ := items_ok r q1 e1
      obtain ⟨b, us, rfl, f2, d2⟩ := items_ok r q2 e2
      have l1 := Paired.length d1
      have l2 := Paired.length d2
      split at h
      · split at h
        · rename_i xs ys e3 e4
          rw [datas_eq e3] at d1
          rw [datas_eq e4] at d2
          have d3 := dq_app (dq_all d1) (dq_all d2)
          refine .inr (.inr (.inr ⟨a, b, vs, _, rfl, rfl, f1, f2, by omega, gnew r h fun p hp e m e' => .d (.lst e' (DqAll.le m d3))⟩))
        · exact h.elim
      · exact h.elim
    · exact h.elim
def opI (g : Int → Int → Int) : Op2 := fun w u L => match w, u with
  | .d (.int i), .d (.int j) => .ok (.d (.int (g i j))) L
  | _, _ => .stuck
theorem ok_I {g : Int → Int → Int} : Ok2 X (rI0 fun i j => .int (g i j)) (opI g) := by
  intro Wx σ H al T L x y w u Q r q1 q2 h
  unfold opI at h
  split at h
  · exact ⟨_, _, dq_int (rp_d q1), dq_int (rp_d q2), gok r h (.d (.int _))⟩
  · exact h.elim
def opIC (C : Int → Int → Bool) (g : Int → Int → Int) : Op2 := fun w u L => match w, u with
  | .d (.int i), .d (.int j) => if C i j then .ok (.d (.int (g i j))) L else .stuck
  | _, _ => .stuck
theorem ok_IC {C : Int → Int → Bool} {D : Int → Int → Prop} {g : Int → Int → Int} (hC : ∀ i j, C i j = true → D i j) : Ok2 X (rI D fun i j => .int (g i j)) (opIC C g) := by
  intro Wx σ H al T L x y w u Q r q1 q2 h
  unfold opIC at h
  split at h
  · split at h
    · exact ⟨_, _, dq_int (rp_d q1), dq_int (rp_d q2), hC _ _ (by assumption), gok r h (.d (.int _))⟩
    · exact h.elim
  · exact h.elim
abbrev opSub : Op2 := opI fun i j => i - j
theorem ok_sub : Ok2 X (rI0 fun i j => .int (i - j)) opSub := ok_I
def mulC (i j : Int) : Bool := decide (i.natAbs.log2 + j.natAbs.log2 < 1000000)
def divC (_ j : Int) : Bool := decide (0 < j ∧ j.natAbs.log2 < 9000)
def modC (_ j : Int) : Bool := decide (0 < j)
def powC (i j : Int) : Bool := decide (0 ≤ j ∧ j ≤ 1000000 ∧ i.natAbs < 18446744073709551616)
abbrev opDiv : Op2 := opIC divC fun i j => i / j
theorem ok_div : Ok2 X (rI CDivW fun i j => .int (i / j)) opDiv := ok_IC fun i j h => (of_decide_eq_true h : 0 < j ∧ j.natAbs.log2 < 9000)
abbrev opMod : Op2 := opIC modC fun i j => i % j
theorem ok_mod : Ok2 X (rI (fun _ j => 0 < j) fun i j => .int (i % j)) opMod := ok_IC fun i j h => of_decide_eq_true h
abbrev opPow : Op2 := opIC powC fun i j => i ^ j.toNat
theorem ok_pow : Ok2 X (rI CPow fun i j => .int (i ^ j.toNat)) opPow := ok_IC fun i j h => by
  have := of_decide_eq_true h
  exact ⟨this.1, this.2.1, by rw [show (2 : Nat) ^ 64 = 18446744073709551616 from rfl]; exact this.2.2⟩
def rep {α : Type} (k : Nat) (xs : List α) : List α := (List.replicate k xs).flatten
def opMul : Op2 := fun w u L => match w, u with
  | .d (.int i), .d (.int j) => if mulC i j then .ok (.d (.int (i * j))) L else .stuck
  | .d (.tuple xs), .d (.int k) => if xs ≠ [] ∧ 2 ≤ k ∧ k ≤ 1000 ∧ xs.length ≤ 1000 then .ok (.d (.tuple (rep k.toNat xs))) L else .stuck
  | w, .d (.int k) => match w.items L with
    | some ws => if -(2 ^ 63) ≤ k ∧ k < 2 ^ 63 ∧ ws.length * k.toNat ≤ sizeLine then match datas ws with
      | some xs => .ok (.d (.list (rep k.toNat xs))) L
      | none => .stuck
      else .stuck
    | none => .stuck
  | _, _ => .stuck
theorem dq_rep {M : Hp} {vs : List V} {xs : List PyData} (h : DqAll M vs xs) : ∀ k : Nat, DqAll M (List.replicate k vs).flatten (List.replicate k xs).flatten
  | 0 => .nil
  | k + 1 => by rw [List.replicate_succ, List.replicate_succ, List.flatten_cons, List.flatten_cons]; exact dq_app h (dq_rep h k)
theorem or_mul : OpR X (binaryOp .Mult) (fun x y H Q => rI CMulW (fun i j => .int (i * j)) x y H Q ∨ rRepT X.K x y H Q ∨ rRep x y H Q) := op_mulW.or (op_repT.or op_rep)
theorem ok_mul : Ok2 X (fun x y H Q => rI CMulW (fun i j => .int (i * j)) x y H Q ∨ rRepT X.K x y H Q ∨ rRep x y H Q) opMul := by
  intro Wx σ H al T L x y w u Q r q1 q2 h
  unfold opMul at h
  split at h
  · split at h
    · rename_i hc
      exact .inl ⟨_, _, dq_int (rp_d q1), dq_int (rp_d q2), (of_decide_eq_true hc : _ < 1000000), gok r h (.d (.int _))⟩
    · exact h.elim
  · rename_i xs k
    obtain ⟨a, vs, rfl, e1, d1⟩ := dq_tup (rp_d q1)
    have e2 := dq_int (rp_d q2)
    split at h
    · rename_i hc
      have l1 := d1.len
      refine .inr (.inl ⟨a, k, vs, rfl, e2, SqT.of (of_mask e1).2, fun z => ?_, hc.2.1, hc.2.2.1, by omega, gnew r h fun p hp e m e' => .d (.tup e' (DqAll.le m (dq_rep d1 _)))⟩)
      subst z
      cases d1
      exact hc.1 rfl
    · exact h.elim
  · rename_i k _ _
    have e2 := dq_int (rp_d q2)
    split at h
    · rename_i ws e1
      obtain ⟨a, vs, rfl, f1, d1⟩ := items_ok r q1 e1
      have l1 := Paired.length d1
      split at h
      · rename_i hc
        split at h
        · rename_i xs e3
          rw [datas_eq e3] at d1
          exact .inr (.inr ⟨a, k, vs, rfl, e2, f1, hc.1, hc.2.1, by rw [l1]; exact hc.2.2, gnew r h fun p hp e m e' => .d (.lst e' (DqAll.le m (dq_rep (dq_all d1) _)))⟩)
        · exact h.elim
      · exact h.elim
    · exact h.elim
  · exact h.elim
def opC (g : Int → Int → Bool) : Op2 := fun w u L => match w, u with
  | .d (.int i), .d (.int j) => .ok (.d (.bool (g i j))) L
  | _, _ => .stuck
theorem ok_C {g : Int → Int → Bool} : Ok2 X (rI0 fun i j => .bl (g i j)) (opC g) := by
  intro Wx σ H al T L x y w u Q r q1 q2 h
  unfold opC at h
  split at h
  · exact ⟨_, _, dq_int (rp_d q1), dq_int (rp_d q2), gok r h (.d (.bl _))⟩
  · exact h.elim
abbrev opGt : Op2 := opC fun i j => decide (j < i)
abbrev opGe : Op2 := opC fun i j => decide (j ≤ i)
theorem ok_ge : Ok2 X (rI0 fun i j => .bl (decide (j ≤ i))) opGe := ok_C
def intsOf : List PyData → Option (List Int)
  | [] => some []
  | .int i :: r => (intsOf r).map (i :: ·)
  | _ :: _ => none
theorem intsOf_eq : ∀ {xs : List PyData} {ns : List Int}, intsOf xs = some ns → xs = ns.map PyData.int
  | [], ns, h => by cases h; rfl
  | .int x :: r, ns, h => by
    simp only [intsOf] at h
    cases e : intsOf r with
    | none => rw [e] at h; cases h
    | some ys => rw [e] at h; cases h; rw [intsOf_eq e]; rfl
  | .none :: _, _, h => by cases h
  | .bool _ :: _, _, h => by cases h
  | .str _ :: _, _, h => by cases h
  | .list _ :: _, _, h => by cases h
  | .tuple _ :: _, _, h => by cases h
  | .dict _ :: _, _, h => by cases h
@[simp] theorem intsOf_map (ns : List Int) : intsOf (ns.map PyData.int) = some ns := by
  induction ns with
  | nil => rfl
  | cons x r ih => simp only [List.map_cons, intsOf, ih]; rfl
theorem dq_ints {M : Hp} : ∀ {vs : List V} {ns : List Int}, DqAll M vs (ns.map PyData.int) → vs = ns.map V.int
  | _, [], .nil => rfl
  | _, _ :: _, .cons q r => by rw [dq_int q, dq_ints r]; rfl
def opLt : Op2 := fun w u L => match w, u with
  | .d (.int i), .d (.int j) => .ok (.d (.bool (decide (i < j)))) L
  | .d (.tuple xs), .d (.tuple ys) => match intsOf xs, intsOf ys with
    | some ns, some ms => .ok (.d (.bool (HT.lexLt ns ms))) L
    | _, _ => .stuck
  | _, _ => .stuck
theorem or_lt (hu : X.A.units < cLine) : OpR X (compareOp .Lt) (fun x y H Q => rI0 (fun i j => .bl (decide (i < j))) x y H Q ∨ rLtT X.K x y H Q) := op_lt.or (op_ltT hu)
theorem ok_lt : Ok2 X (fun x y H Q => rI0 (fun i j => .bl (decide (i < j))) x y H Q ∨ rLtT X.K x y H Q) opLt := by
  intro Wx σ H al T L x y w u Q r q1 q2 h
  unfold opLt at h
  split at h
  · exact .inl ⟨_, _, dq_int (rp_d q1), dq_int (rp_d q2), gok r h (.d (.bl _))⟩
  · split at h
    · rename_i ns ms e1 e2
      rw [intsOf_eq e1] at q1
      rw [intsOf_eq e2] at q2
      obtain ⟨a, vs, rfl, f1, d1⟩ := dq_tup (rp_d q1)
      obtain ⟨b, us, rfl, f2, d2⟩ := dq_tup (rp_d q2)
      have g1 := dq_ints d1
      have g2 := dq_ints d2
      subst g1
      subst g2
      exact .inr ⟨a, b, ns, ms, rfl, rfl, SqT.of (of_mask f1).2, SqT.of (of_mask f2).2, gok r h (.d (.bl _))⟩
    · exact h.elim
  · exact h.elim
def twoStr : PyData → PyData → Bool
  | .str _, .str _ => true
  | _, _ => false
def cmpOk (x y : PyData) : Bool := twoStr x y || (SeqAt.shaped x && SeqAt.shaped y)
theorem twoStr_eq {x y : PyData} (h : twoStr x y = true) : ∃ a b, x = .str a ∧ y = .str b := by
  cases x <;> cases y <;> first | exact ⟨_, _, rfl, rfl⟩ | (simp [twoStr] at h)
def opEq : Op2 := fun w u L => match w.data L, u.data L with
  | some x, some y => if cmpOk x y then .ok (.d (.bool (PyData.eqv x y))) L else .stuck
  | _, _ => .stuck
def opNe : Op2 := fun w u L => match w.data L, u.data L with
  | some x, some y => if cmpOk x y then .ok (.d (.bool (!PyData.eqv x y))) L else .stuck
  | _, _ => .stuck
abbrev rEqAny (X : Cx) : R2 := fun x y H Q => rEq x y H Q ∨ rEqD X.K x y H Q
abbrev rNeAny (X : Cx) : R2 := fun x y H Q => rNe x y H Q ∨ rNeD X.K x y H Q
theorem or_eq (hu : X.A.units + 64 < cLine) : OpR X (compareOp .Eq) (rEqAny X) := op_eq.or (op_eqD hu)
theorem or_ne (hu : X.A.units + 64 < cLine) : OpR X (compareOp .NotEq) (rNeAny X) := op_ne.or (op_neD hu)
theorem ok_eq : Ok2 X (rEqAny X) opEq := by
  intro Wx σ H al T L x y w u Q r q1 q2 h
  unfold opEq at h
  split at h
  · split at h
    · rename_i e1 e2 hc
      unfold cmpOk at hc
      rw [Bool.or_eq_true, Bool.and_eq_true] at hc
      rcases hc with hc | hc
      · obtain ⟨a, b, rfl, rfl⟩ := twoStr_eq hc
        have h1 := dq_str (data_ok r q1 e1)
        have h2 := dq_str (data_ok r q2 e2)
        subst h1 h2
        refine .inl ⟨rfl, gok r h ?_⟩
        have : decide (V.str a = V.str b) = PyData.eqv (.str a) (.str b) := by
          rw [Bool.eq_iff_iff]
          simp [PyData.eqv]
        rw [this]
        exact .d (.bl _)
      · exact .inr ⟨_, _, (data_ok r q1 e1).dp, (data_ok r q2 e2).dp, hc.1, hc.2, gok r h (.d (.bl _))⟩
    · exact h.elim
  · exact h.elim
theorem ok_ne : Ok2 X (rNeAny X) opNe := by
  intro Wx σ H al T L x y w u Q r q1 q2 h
  unfold opNe at h
  split at h
  · split at h
    · rename_i e1 e2 hc
      unfold cmpOk at hc
      rw [Bool.or_eq_true, Bool.and_eq_true] at hc
      rcases hc with hc | hc
      · obtain ⟨a, b, rfl, rfl⟩ := twoStr_eq hc
        have h1 := dq_str (data_ok r q1 e1)
        have h2 := dq_str (data_ok r q2 e2)
        subst h1 h2
        refine .inl ⟨rfl, gok r h ?_⟩
        have : (!decide (V.str a = V.str b)) = !PyData.eqv (.str a) (.str b) := by
          congr 1
          rw [Bool.eq_iff_iff]
          simp [PyData.eqv]
        rw [this]
        exact .d (.bl _)
      · exact .inr ⟨_, _, (data_ok r q1 e1).dp, (data_ok r q2 e2).dp, hc.1, hc.2, gok r h (.d (.bl _))⟩
    · exact h.elim
  · exact h.elim
def Va.isN : Va → Bool
  | .d .none => true
  | _ => false
def opIsN : Op2 := fun w u L => match u with
  | .d .none => .ok (.d (.bool w.isN)) L
  | _ => .stuck
def opNotN : Op2 := fun w u L => match u with
  | .d .none => .ok (.d (.bool (!w.isN))) L
  | _ => .stuck
theorem rp_non {K : PySem.W.Frag} {mg : Str → Option Value} {M : Hp} {al : List Addr} {v : V} {w : Va} (h : Rp K mg M al v w) : decide (v = .non) = w.isN := by
  cases h with
  | d q => cases q <;> simp [Va.isN]
  | loc _ => simp [Va.isN]
  | tup _ _ => simp [Va.isN]
  | dct _ _ => simp [Va.isN]
  | exc _ _ => simp [Va.isN]
  | scr _ => simp [Va.isN]
abbrev rIsNn : R2 := fun x y H Q => y = .non ∧ Q (.bl (decide (x = .non))) H
abbrev rNotNn : R2 := fun x y H Q => y = .non ∧ Q (.bl (!decide (x = .non))) H
theorem ok_isN : Ok2 X rIsNn opIsN := by
  intro Wx σ H al T L x y w u Q r q1 q2 h
  unfold opIsN at h
  split at h
  · refine ⟨dq_non (rp_d q2), ?_⟩
    rw [rp_non q1]
    exact gok r h (.d (.bl _))
  · exact h.elim
theorem ok_notN : Ok2 X rNotNn opNotN := by
  intro Wx σ H al T L x y w u Q r q1 q2 h
  unfold opNotN at h
  split at h
  · refine ⟨dq_non (rp_d q2), ?_⟩
    rw [rp_non q1]
    exact gok r h (.d (.bl _))
  · exact h.elim
def opIsB : Op2 := fun w u L => match w, u with
  | .d (.bool a), .d (.bool b) => .ok (.d (.bool (decide (a = b)))) L
  | _, _ => .stuck
def opNotB : Op2 := fun w u L => match w, u with
  | .d (.bool a), .d (.bool b) => .ok (.d (.bool (!decide (a = b)))) L
  | _, _ => .stuck
end
end L2.HW
namespace L2.HW
open PySem PySem.Spec PyProof.Rows
section
variable {X : Cx} {Wx : WX}
def mkTup (ws : List Va) : Va := match datas ws with
  | some xs => .d (.tuple xs)
  | none => .tup ws
@[simp] theorem mkTup_map (xs : List PyData) : mkTup (xs.map Va.d) = .d (.tuple xs) := by simp [mkTup]
@[simp] theorem mkTup_0 : mkTup [] = .d (.tuple []) := (rfl)
theorem rp_mkTup {K : PySem.W.Frag} {mg : Str → Option Value} {M : Hp} {al : List Addr} {a : Addr} {vs : List V} {ws : List Va} (e : M a = some (.tup vs)) (r : Rps K mg M al vs ws) : Rp K mg M al (.ref a) (mkTup ws) := by
  unfold mkTup
  split
  · rename_i xs h
    rw [datas_eq h] at r
    exact .d (.tup e (dq_all r))
  · exact .tup e r
def eTup (fs : En → LH → Res (List Va)) : EF := fun env L => (fs env L).bind fun ws L1 => if ws.length ≤ sizeLine then .ok (mkTup ws) L1 else .stuck
theorem se_tup {es : List Expr} {fs : En → LH → Res (List Va)} {k : Nat} {pos : Pos} (h : SA X Wx es fs) : SE X Wx (.Tuple es k pos) (eTup fs) := by
  refine PE.imp (pe_tup h) ?_
  rintro σ H Q ⟨env, L, al, T, c, q⟩
  refine rseq (R := RVs X) c q fun vs H1 ws L1 al1 c1 s1 r1 q1 => ?_
  split at q1
  · exact ⟨by rw [Paired.length r1]; assumption, gnew c1.rel q1 fun p hp e m e' => rp_mkTup e' (Rps.le m (ALe.refl _) r1)⟩
  · exact q1.elim
theorem fseq {σ : St} {H : Hp} {al T : List Addr} {L : LH} {α β : Type} {R : Hp → List Addr → β → α → Prop} {env : En} {f : En → LH → Res α} {k : α → LH → Res Ob} {Q : VK} {Q' : β → Hp → Prop}
    (c : Conf X.K X.mg σ H env L al T) (h : FPost X Wx σ H al T L ((f env L).bind k) Q)
    (hk : ∀ b H1 a L1 al1, Conf X.K X.mg σ H1 env L1 al1 T → Stp X.K X.mg H al T L H1 al1 T L1 → R (mask H1 (al1 ++ T)) al1 b a → FPost X Wx σ H1 al1 T L1 (k a L1) Q → Q' b H1) : Rdg X Wx R f σ H Q' := by
  refine ⟨env, L, al, T, c, ?_⟩
  revert h
  generalize f env L = r
  intro g
  cases r with
  | stuck => exact g
  | exc c f L1 => exact g
  | ok b L1 =>
    intro b' H1 al1 s1 q1
    refine hk b' H1 b L1 al1 (c.stp s1) s1 q1 ?_
    simp only [Res.bind_ok] at g
    revert g
    generalize k b L1 = r2
    intro g
    have back : ∀ x, H1 x = none → H x = none := fun x z => by
      cases e : H x with
      | none => rfl
      | some o => exact absurd z (s1.stay x (by rw [e]; simp))
    cases r2 with
    | stuck => exact g
    | exc c' f L2 => exact fun cls d H' al' t q => g cls d H' al' (Stp.trans c.rel.len s1 t) q
    | ok o L2 => exact fun a H' al' ha t q => g a H' al' (back a ha) (Stp.trans c.rel.len s1 t) q
def fLst (fs : En → LH → Res (List Va)) : En → LH → Res Ob := fun env L => (fs env L).bind fun ws L1 => if ws.length ≤ sizeLine then .ok (.lst ws) L1 else .stuck
theorem sf_lst {es : List Expr} {fs : En → LH → Res (List Va)} {pos : Pos} (h : SA X Wx es fs) : SF X Wx (.List es pos) (fLst fs) := by
  refine PE.imp (pe_lst h) ?_
  rintro σ H Q ⟨env, L, al, T, c, q⟩
  refine fseq (R := RVs X) c q fun vs H1 ws L1 al1 c1 s1 r1 q1 => ?_
  split at q1
  · exact ⟨by rw [Paired.length r1]; assumption, fnew c1.rel q1 fun p hp e m => ⟨vs, e, Rps.le m (ALe.refl _) r1⟩⟩
  · exact q1.elim
def aStar (f : EF) (g : En → LH → Res (List Va)) : En → LH → Res (List Va) := fun env L => (f env L).bind fun w L1 => match w.seq L1 with
  | some us => (g env L1).bind fun ws L2 => .ok (us ++ ws) L2
  | none => .stuck
theorem rps_app {K : PySem.W.Frag} {mg : Str → Option Value} {M : Hp} {al : List Addr} : ∀ {vs us : List V} {xs ys : List Va}, Rps K mg M al vs xs → Rps K mg M al us ys → Rps K mg M al (vs ++ us) (xs ++ ys)
  | _, _, _, _, .nil, h => h
  | _, _, _, _, .cons a b, h => .cons a (rps_app b h)
def alook {κ α : Type} [DecidableEq κ] (ks : List (κ × α)) (k : κ) : Option α := (ks.find? fun kv => decide (kv.1 = k)).map (·.2)
@[simp] theorem alook_nil {κ α : Type} [DecidableEq κ] (k : κ) : alook ([] : List (κ × α)) k = none := (rfl)
theorem alook_cons {κ α : Type} [DecidableEq κ] (k' : κ) (x : α) (ks : List (κ × α)) (k : κ) : alook ((k', x) :: ks) k = if k' = k then some x else alook ks k := by
  unfold alook
  rw [List.find?_cons]
  by_cases h : k' = k
  · simp [h]
  · simp [h]
def ORp {α : Type} (R : V → α → Prop) : Option V → Option α → Prop
  | some z, some x => R z x
  | none, none => True
  | _, _ => False
theorem look_pair {κ κ' α : Type} [DecidableEq κ] [DecidableEq κ'] {f : κ → κ'} (hf : ∀ a b, f a = f b → a = b) {R : V → α → Prop} {ks : List (κ' × V)} {as : List (κ × α)} (r : Paired (fun (p : κ' × V) (q : κ × α) => p.1 = f q.1 ∧ R p.2 q.2) ks as) (k : κ) : ORp R (valV ks (f k)) (alook as k) := by
  induction r with
  | nil => trivial
  | @cons p q ps qs h _ ih =>
    obtain ⟨pk, pv⟩ := p
    obtain ⟨qk, qv⟩ := q
    obtain ⟨h1, h2⟩ := h
    simp only at h1 h2
    subst h1
    rw [alook_cons]
    by_cases e : qk = k
    · subst e
      rw [if_pos rfl, valV_pos rfl]
      exact h2
    · rw [if_neg e, valV_neg (fun z => e (hf _ _ z))]
      exact ih
def Va.dget (L : LH) (w u : Va) : Option (Option Va) := match w, u with
  | .dct ks, .d (.int i) => some ((alook ks i).map Va.d)
  | .loc n, .d (.int i) => match L[n]? with
    | some (some (.di ks)) => some (alook ks i)
    | _ => none
  | .loc n, .d (.tuple xs) => match L[n]?, intsOf xs with
    | some (some (.dt ks)), some ns => some (alook ks ns)
    | _, _ => none
  | _, _ => none
theorem inl_inj (a b : Int) (h : (Sum.inl a : Key) = Sum.inl b) : a = b := by cases h; rfl
theorem map_inl_inj : ∀ (a b : List Int), a.map (Sum.inl : Int → Key) = b.map Sum.inl → a = b
  | [], [], _ => rfl
  | [], _ :: _, h => by cases h
  | _ :: _, [], h => by cases h
  | x :: a, y :: b, h => by
    simp only [List.map_cons, List.cons.injEq] at h
    rw [inl_inj _ _ h.1, map_inl_inj a b h.2]
theorem dget_ok {K : PySem.W.Frag} {mg : Str → Option Value} {H : Hp} {al T : List Addr} {L : LH} (r : Rel K mg H al T L) {v y : V} {w u : Va} {o : Option Va} (q : Rp K mg (mask H (al ++ T)) al v w) (q2 : Rp K mg (mask H (al ++ T)) al y u) (e : w.dget L u = some o) :
    ∃ a ov, v = .ref a ∧ DGet H a y ov ∧ ORp (Rp K mg (mask H (al ++ T)) al) ov o := by
  unfold Va.dget at e
  split at e
  · rename_i ks i
    cases e
    have hy := dq_int (rp_d q2)
    subst hy
    cases q with
    | @dct a kvs _ e1 e2 =>
      have l := look_pair (f := (Sum.inl : Int → Key)) inl_inj e2 i
      refine ⟨a, valV kvs (Sum.inl i), rfl, DGet.k (k := Sum.inl i) (of_mask e1).2, ?_⟩
      revert l
      cases alook ks i <;> cases valV kvs (Sum.inl i) <;> intro l
      · trivial
      · exact l
      · exact l
      · exact .d l
  · rename_i n i
    split at e
    · rename_i ks e1
      cases e
      have hy := dq_int (rp_d q2)
      subst hy
      cases q with
      | @loc _ a e2 =>
        obtain ⟨a', e3, kvs, e4, e5⟩ := r.cell n _ e1
        rw [e2] at e3; cases e3
        exact ⟨a, valV kvs (Sum.inl i), rfl, DGet.k (k := Sum.inl i) e4, look_pair (f := (Sum.inl : Int → Key)) inl_inj e5 i⟩
    · cases e
  · rename_i n xs
    split at e
    · rename_i ks ns e1 e0
      cases e
      rw [intsOf_eq e0] at q2
      obtain ⟨b, us, rfl, f1, d1⟩ := dq_tup (rp_d q2)
      have g1 := dq_ints d1
      subst g1
      cases q with
      | @loc _ a e2 =>
        obtain ⟨a', e3, kvs, e4, e5⟩ := r.cell n _ e1
        rw [e2] at e3; cases e3
        exact ⟨a, valV kvs (ns.map Sum.inl), rfl, DGet.t (k := ns.map Sum.inl) e4 (by rw [List.map_map]; exact (of_mask f1).2), look_pair (f := fun ns : List Int => ns.map (Sum.inl : Int → Key)) map_inl_inj e5 ns⟩
    · cases e
  · cases e
theorem atI_pair {K : PySem.W.Frag} {mg : Str → Option Value} {M : Hp} {al : List Addr} {vs : List V} {ws : List Va} (r : Rps K mg M al vs ws) {i : Int} {x : Va} (e : atI ws i = some x) : ∃ z, atI vs i = some z ∧ Rp K mg M al z x := by
  unfold atI at e ⊢
  rw [Paired.length r]
  cases h : ixN ws.length i with
  | none => rw [h] at e; cases e
  | some j =>
    rw [h] at e
    simp only [Option.bind_some] at e ⊢
    clear h
    induction r generalizing j with
    | nil => simp at e
    | cons a b ih =>
      cases j with
      | zero => simp at e; subst e; exact ⟨_, rfl, a⟩
      | succ j => simpa using ih j (by simpa using e)
def opIx : Op2 := fun w u L => match w.dget L u with
  | some (some x) => .ok x L
  | some none => .stuck
  | none => match u with
    | .d (.int i) => match w.seq L with
      | some ws => match atI ws i with
        | some x => .ok x L
        | none => .stuck
      | none => match w with
        | .d (.str z) => if z.length ≤ sizeLine then match atI z.cps.toList i with
          | some c => .ok (.d (.str ⟨#[c]⟩)) L
          | none => .stuck
          else .stuck
        | _ => .stuck
    | _ => .stuck
def rIxD : R2 := fun x y H Q => ∃ a v, x = .ref a ∧ DGet H a y (some v) ∧ Q v H
theorem ix_dict (hu : X.A.units + 1 < cLine) : IxR X rIxD := by
  intro value slice pins s σ H x y v u Q I rx ry h hs
  obtain ⟨a, z, rfl, g, q⟩ := h
  obtain rfl : v = Value.ref a := rx
  have hT := dict_typeIs I g
  unfold subscriptTail
  refine wpAny_bind ?_
  rw [getitemInPython_of_ne hT.not_modules]
  refine wpAny_bind (wpAny_specialOf hT PySem.F.slot_dict_getitem.lookup ?_)
  have fin : wpAny (model X.prog X.w) X.A (subscripted slice false (.ref a) u) (fun r s₃ => wpAny (model X.prog X.w) X.A (letTemporaryGo value (.ref a) r >>= fun _ => pure r) (EP X pins σ Q) X.xe s₃) X.xe s := by
    rw [hs]
    exact wpAny_operating (wpAny_mono (d_getItem (Q := EP X pins σ Q) (E := X.xe) hu I g ry fun w' s' I' r' => ⟨z, H, I', r', q⟩) (fun r s₃ h₃ => wpAny_bind (wpAny_letTemporaryGo (wpAny_pure h₃))) fun _ _ x => x)
  first
    | exact wpAny_pure (wpAny_bind fin)
    | exact wpAny_bind (wpAny_pure (wpAny_bind fin))
    | exact wpAny_bind fin
theorem ok_ix : Ok2 X (fun x y H Q => rIxD x y H Q ∨ rIx X.K x y H Q) opIx := by
  intro Wx σ H al T L x y w u Q r q1 q2 h
  unfold opIx at h
  split at h
  · rename_i x e
    obtain ⟨a, ov, rfl, g, k⟩ := dget_ok r q1 q2 e
    cases ov with
    | none => exact k.elim
    | some z => exact .inl ⟨a, z, rfl, g, gok r h k⟩
  · exact h.elim
  · split at h
    · rename_i i _
      have hy := dq_int (rp_d q2)
      split at h
      · rename_i ws e
        obtain ⟨a, vs, rfl, sq, rr⟩ := seq_ok r q1 e
        split at h
        · rename_i x e2
          obtain ⟨z, h1, h2⟩ := atI_pair rr e2
          rcases sq with sq | sq
          · exact .inr (.inl ⟨a, vs, i, z, rfl, hy, sq, h1, gok r h h2⟩)
          · exact .inr (.inr (.inl ⟨a, vs, i, z, rfl, hy, sq, h1, gok r h h2⟩))
        · exact h.elim
      · split at h
        · rename_i z _ _
          split at h
          · split at h
            · rename_i hz _ c e2
              exact .inr (.inr (.inr ⟨z, i, c, dq_str (rp_d q1), hy, hz, e2, gok r h (.d (.str _))⟩))
            · exact h.elim
          · exact h.elim
        · exact h.elim
    · exact h.elim
theorem se_ix {a b : Expr} {fa fb : EF} {pos : Pos} (hu : X.A.units + 1 < cLine) (ha : SE X Wx a fa) (hb : SE X Wx b fb) (hs : PlainIx b := by exact fun _ _ => rfl) : SE X Wx (.Subscript a b pos) (eOp opIx fa fb) :=
  PE.imp (pe_ix ((ix_dict hu).or ix_seq) ha hb hs) fun _ _ _ h => op_core ok_ix h
end
end L2.HW
namespace L2.HW
open PySem PySem.Spec PyProof.Rows
section
variable {X : Cx} {Wx : WX}
def SO (X : Cx) (Wx : WX) (e : Option Expr) (f : En → LH → Res (Option Int)) : Prop := PO X e (Rdg X Wx RO f)
theorem PO.imp {e : Option Expr} {t t' : TO} (h : PO X e t) (k : ∀ σ H Q, t' σ H Q → t σ H Q) : PO X e t' := ⟨fun pins s σ H Q I q => h.run pins s σ H Q I (k σ H Q q)⟩
def pNone : En → LH → Res (Option Int) := fun _ L => .ok none L
def pSome (f : EF) : En → LH → Res (Option Int) := fun env L => (f env L).bind fun w L1 => match w with
  | .d (.int i) => .ok (some i) L1
  | _ => .stuck
theorem so_none : SO X Wx none pNone := PO.imp po_none fun σ H Q ⟨env, L, al, T, c, h⟩ => gok c.rel h rfl
theorem so_some {e : Expr} {f : EF} (h : SE X Wx e f) : SO X Wx (some e) (pSome f) := by
  refine PO.imp (po_some h) ?_
  rintro σ H Q ⟨env, L, al, T, c, q⟩
  refine rseq (R := RV X) c q fun v H1 w L1 al1 c1 s1 r1 q1 => ?_
  split at q1
  · exact ⟨_, dq_int (rp_d r1), gok c1.rel q1 rfl⟩
  · exact q1.elim
def cutA {α : Type} (xs : List α) (lo hi : Option Int) : List α := (xs.drop (HT.sIx xs.length 0 lo)).take (HT.sIx xs.length xs.length hi - HT.sIx xs.length 0 lo)
theorem cutA_map {α β : Type} (f : α → β) (xs : List α) (lo hi : Option Int) : cutA (xs.map f) lo hi = (cutA xs lo hi).map f := by
  unfold cutA
  simp [List.map_drop, List.map_take]
theorem rps_drop {K : PySem.W.Frag} {mg : Str → Option Value} {M : Hp} {al : List Addr} : ∀ {vs : List V} {ws : List Va} (n : Nat), Rps K mg M al vs ws → Rps K mg M al (vs.drop n) (ws.drop n)
  | _, _, 0, h => h
  | _, _, _ + 1, .nil => .nil
  | _, _, n + 1, .cons _ b => rps_drop n b
theorem rps_take {K : PySem.W.Frag} {mg : Str → Option Value} {M : Hp} {al : List Addr} : ∀ {vs : List V} {ws : List Va} (n : Nat), Rps K mg M al vs ws → Rps K mg M al (vs.take n) (ws.take n)
  | _, _, 0, _ => .nil
  | _, _, _ + 1, .nil => .nil
  | _, _, n + 1, .cons a b => .cons a (rps_take n b)
theorem rps_cut {K : PySem.W.Frag} {mg : Str → Option Value} {M : Hp} {al : List Addr} {vs : List V} {ws : List Va} (h : Rps K mg M al vs ws) (lo hi : Option Int) : Rps K mg M al (cutV vs lo hi) (cutA ws lo hi) := by
  unfold cutV cutA
  rw [Paired.length h]
  exact rps_take _ (rps_drop _ h)
theorem cut_whole {α : Type} {xs : List α} {lo hi : Option Int} (h : HT.sIx xs.length 0 lo = 0 ∧ HT.sIx xs.length xs.length hi = xs.length) : cutA xs lo hi = xs := by
  unfold cutA
  rw [h.1, h.2]
  simp
def opSl (w : Va) (lo hi : Option Int) (L : LH) : Res Va := match w with
  | .d (.tuple xs) => .ok (.d (.tuple (cutA xs lo hi))) L
  | .d (.str z) => if z.length ≤ sizeLine then .ok (.d (.str (cutS z lo hi))) L else .stuck
  | w => match w.items L with
    | some ws => match datas (cutA ws lo hi) with
      | some xs => .ok (.d (.list xs)) L
      | none => .stuck
    | none => .stuck
def eSl (f : EF) (p q : En → LH → Res (Option Int)) : EF := fun env L => (f env L).bind fun w L1 => (p env L1).bind fun lo L2 => (q env L2).bind fun hi L3 => opSl w lo hi L3
abbrev rSlAny (X : Cx) : V → Option Int → Option Int → Hp → VK → Prop := fun x lo hi H Q => rSlA X.K x lo hi H Q ∨ rSlL X.K x lo hi H Q ∨ rSlS x lo hi H Q
theorem sl_any : SlR X (rSlAny X) := SlR.or sl_tupA (SlR.or sl_list sl_str)
theorem se_sl {e : Expr} {lo hi : Option Expr} {f : EF} {p q : En → LH → Res (Option Int)} {p2 pos : Pos} (he : SE X Wx e f) (hl : SO X Wx lo p) (hu : SO X Wx hi q) : SE X Wx (.Subscript e (.Slice lo hi none p2) pos) (eSl f p q) := by
  refine PE.imp (pe_slice sl_any he hl hu) ?_
  rintro σ H Q ⟨env, L, al, T, c, h⟩
  refine rseq (R := RV X) c h fun v H1 w L1 al1 c1 s1 r1 h1 => ?_
  refine rseq (R := RO) c1 h1 fun lo' H2 lo L2 al2 c2 s2 e2 h2 => ?_
  refine rseq (R := RO) c2 h2 fun hi' H3 hi L3 al3 c3 s3 e3 h3 => ?_
  obtain rfl : lo' = lo := e2
  obtain rfl : hi' = hi := e3
  have r3 := s3.rp (s2.rp r1)
  unfold opSl at h3
  split at h3
  · rename_i xs
    obtain ⟨a, vs, rfl, e1, d1⟩ := dq_tup (rp_d r3)
    have l1 := d1.len
    refine .inl ⟨a, vs, rfl, SqT.of (of_mask e1).2, fun z => ?_, fun z => gnew c3.rel h3 fun p hp e m e' => ?_⟩
    · rw [l1] at z
      rw [cut_whole z] at h3
      exact gok c3.rel h3 (.d (.tup e1 d1))
    · have := rps_cut (K := X.K) (mg := X.mg) (al := al3) (all_dq (K := X.K) (mg := X.mg) (al := al3) d1) lo' hi'
      rw [cutA_map] at this
      exact .d (.tup e' (DqAll.le m (dq_all this)))
  · rename_i z
    split at h3
    · exact .inr (.inr ⟨z, dq_str (rp_d r3), by assumption, gok c3.rel h3 (.d (.str _))⟩)
    · exact h3.elim
  · split at h3
    · rename_i ws e1
      obtain ⟨a, vs, rfl, f1, d1⟩ := items_ok c3.rel r3 e1
      split at h3
      · rename_i xs e4
        have := rps_cut d1 lo' hi'
        rw [datas_eq e4] at this
        exact .inr (.inl ⟨a, vs, rfl, SqL.of f1, gnew c3.rel h3 fun p hp e m e' => .d (.lst e' (DqAll.le m (dq_all this)))⟩)
      · exact h3.elim
    · exact h3.elim
def fSl (f : EF) (p q : En → LH → Res (Option Int)) : En → LH → Res Ob := fun env L => (f env L).bind fun w L1 => (p env L1).bind fun lo L2 => (q env L2).bind fun hi L3 => match w.items L3 with
  | some ws => .ok (.lst (cutA ws lo hi)) L3
  | none => .stuck
def fCat (f g : EF) : En → LH → Res Ob := fun env L => (f env L).bind fun w L1 => (g env L1).bind fun u L2 => match w.items L2, u.items L2 with
  | some ws, some us => if ws.length + us.length ≤ sizeLine then .ok (.lst (ws ++ us)) L2 else .stuck
  | _, _ => .stuck
theorem sf_cat {a b : Expr} {f g : EF} {pos : Pos} (ha : SE X Wx a f) (hb : SE X Wx b g) : SF X Wx (.BinOp a .Add b pos) (fCat f g) := by
  refine PE.imp (pe_op op_cat ha hb) ?_
  rintro σ H Q ⟨env, L, al, T, c, h⟩
  refine fseq (R := RV X) c h fun v H1 w L1 al1 c1 s1 r1 h1 => ?_
  refine fseq (R := RV X) c1 h1 fun y H2 u L2 al2 c2 s2 r2 h2 => ?_
  split at h2
  · rename_i ws us e1 e2
    obtain ⟨a, vs, rfl, f1, d1⟩ := items_ok c2.rel (s2.rp r1) e1
    obtain ⟨b, zs, rfl, f2, d2⟩ := items_ok c2.rel r2 e2
    have l1 := Paired.length d1
    have l2 := Paired.length d2
    split at h2
    · exact ⟨a, b, vs, zs, rfl, rfl, f1, f2, by omega, fnew c2.rel h2 fun p hp e m => ⟨_, e, Rps.le m (ALe.refl _) (rps_app d1 d2)⟩⟩
    · exact h2.elim
  · exact h2.elim
def fRep (f g : EF) : En → LH → Res Ob := fun env L => (f env L).bind fun w L1 => (g env L1).bind fun u L2 => match w.items L2, u with
  | some ws, .d (.int k) => if -(2 ^ 63) ≤ k ∧ k < 2 ^ 63 ∧ ws.length * k.toNat ≤ sizeLine then .ok (.lst (rep k.toNat ws)) L2 else .stuck
  | _, _ => .stuck
def flatD : PyData → Bool
  | .none => true
  | .bool _ => true
  | .int _ => true
  | .str _ => true
  | _ => false
theorem flat_eq {M : Hp} {v y : V} {x z : PyData} (h1 : Dq M v x) (h2 : Dq M y z) (f1 : flatD x = true) (f2 : flatD z = true) : flatV v = true ∧ eqV y v = PyData.eqv z x := by
  cases h1 <;> first | (cases f1; done) | (cases h2 <;> first | (cases f2; done) | exact ⟨rfl, by simp [eqV, PyData.eqv]⟩)
theorem flat_all {M : Hp} {v : V} {x : PyData} (h1 : Dq M v x) (f1 : flatD x = true) : ∀ {vs : List V} {xs : List PyData}, DqAll M vs xs → xs.all flatD = true → vs.all flatV = true ∧ inV v vs = xs.any fun z => PyData.eqv z x
  | _, _, .nil, _ => ⟨rfl, rfl⟩
  | _, _, .cons a b, f => by
    rw [List.all_cons, Bool.and_eq_true] at f
    obtain ⟨h, e⟩ := flat_eq h1 a f1 f.1
    obtain ⟨h3, _⟩ := flat_eq a a f.1 f.1
    obtain ⟨h2, e2⟩ := flat_all h1 f1 b f.2
    refine ⟨by rw [List.all_cons, h3, h2]; rfl, ?_⟩
    have e2' := e2
    unfold inV at e2' ⊢
    rw [List.any_cons, List.any_cons, e, e2']
def opIn (neg : Bool) : Op2 := fun w u L => match u.dget L w with
  | some o => .ok (.d (.bool (if neg then !o.isSome else o.isSome))) L
  | none => match u, w with
    | .d (.str z), .d (.str s) => match s.cps.toList with
      | [c] => .ok (.d (.bool (if neg then !decide (c ∈ z.cps.toList) else decide (c ∈ z.cps.toList)))) L
      | _ => .stuck
    | .d (.tuple ds), .d x => if flatD x && ds.all flatD then .ok (.d (.bool (if neg then !(ds.any fun z => PyData.eqv z x) else ds.any fun z => PyData.eqv z x))) L else .stuck
    | u, w => match u.data L, w.data L with
      | some (.list ds), some x => if SeqAt.shaped x && SeqAt.shaped (.list ds) then .ok (.d (.bool (if neg then !(ds.any fun z => PyData.eqv z x) else ds.any fun z => PyData.eqv z x))) L else .stuck
      | _, _ => .stuck
def rInDc (neg : Bool) : R2 := fun x y H Q => ∃ a o, y = .ref a ∧ DGet H a x o ∧ Q (.bl (if neg then !o.isSome else o.isSome)) H
theorem op_in_dict (hu : X.A.units + 1 < cLine) : OpR X (compareOp .In) (rInDc false) := by
  intro pins s σ H x y v u Q I rx ry h
  obtain ⟨a, o, rfl, g, q⟩ := h
  obtain rfl : u = Value.ref a := ry
  exact d_in hu I g rx fun s3 I3 => ⟨.bl o.isSome, H, I3, rfl, q⟩
theorem op_notIn_dict (hu : X.A.units + 1 < cLine) : OpR X (compareOp .NotIn) (rInDc true) := by
  intro pins s σ H x y v u Q I rx ry h
  obtain ⟨a, o, rfl, g, q⟩ := h
  obtain rfl : u = Value.ref a := ry
  exact d_notIn hu I g rx fun s3 I3 => ⟨.bl (!o.isSome), H, I3, rfl, q⟩
abbrev rInSg (neg : Bool) : R2 := fun x y H Q => ∃ (c : Nat) (z : Str), x = .str ⟨#[c]⟩ ∧ y = .str z ∧ Q (.bl (if neg then !decide (c ∈ z.cps.toList) else decide (c ∈ z.cps.toList))) H
abbrev rInDd (X : Cx) (neg : Bool) : R2 := fun x y H Q => ∃ d ds, Dp X.K H x d ∧ Dp X.K H y (.list ds) ∧ SeqAt.shaped d = true ∧ SeqAt.shaped (.list ds) = true ∧ Q (.bl (if neg then !(ds.any fun z => PyData.eqv z d) else ds.any fun z => PyData.eqv z d)) H
abbrev rInAny (X : Cx) (neg : Bool) : R2 := fun x y H Q => rInDc neg x y H Q ∨ rInSg neg x y H Q ∨ rIn X.K neg x y H Q ∨ rInDd X neg x y H Q
theorem op_in_any (hu : X.A.units + 65 < cLine) : OpR X (compareOp .In) (rInAny X false) :=
  OpR.or (op_in_dict (by omega)) (OpR.or (r := rInSg false) op_in_sign (OpR.or op_in_seq (r' := rInDd X false) (op_inD hu)))
theorem op_notIn_any (hu : X.A.units + 65 < cLine) : OpR X (compareOp .NotIn) (rInAny X true) :=
  OpR.or (op_notIn_dict (by omega)) (OpR.or (r := rInSg true) op_notIn_sign (OpR.or op_notIn_seq (r' := rInDd X true) (op_notInD hu)))
theorem ok_in {neg : Bool} : Ok2 X (rInAny X neg) (opIn neg) := by
  intro Wx σ H al T L x y w u Q r q1 q2 h
  unfold opIn at h
  split at h
  · rename_i o e
    obtain ⟨a, ov, rfl, g, k⟩ := dget_ok r q2 q1 e
    refine .inl ⟨a, ov, rfl, g, ?_⟩
    have : ov.isSome = o.isSome := by
      cases ov <;> cases o <;> first | rfl | exact k.elim
    rw [this]
    exact gok r h (.d (.bl _))
  · split at h
    · rename_i z s _
      split at h
      · rename_i c e
        have e1 : s = ⟨#[c]⟩ := by
          obtain ⟨cps⟩ := s
          simp only at e
          congr 1
          exact Array.toList_inj.mp e
        refine .inr (.inl ⟨c, z, ?_, dq_str (rp_d q2), gok r h (.d (.bl _))⟩)
        rw [dq_str (rp_d q1), e1]
      · exact h.elim
    · rename_i ds x _
      split at h
      · rename_i hc
        rw [Bool.and_eq_true] at hc
        obtain ⟨a, vs, rfl, e1, d1⟩ := dq_tup (rp_d q2)
        obtain ⟨h1, h2⟩ := flat_all (rp_d q1) hc.1 d1 hc.2
        obtain ⟨h3, _⟩ := flat_eq (rp_d q1) (rp_d q1) hc.1 hc.1
        refine .inr (.inr (.inl ⟨a, vs, rfl, .inr (SqT.of (of_mask e1).2), h3, h1, ?_⟩))
        rw [h2]
        exact gok r h (.d (.bl _))
      · exact h.elim
    · split at h
      · rename_i ds x e1 e2
        split at h
        · rename_i hc
          rw [Bool.and_eq_true] at hc
          exact .inr (.inr (.inr ⟨x, ds, (data_ok r q1 e2).dp, (data_ok r q2 e1).dp, hc.1, hc.2, gok r h (.d (.bl _))⟩))
        · exact h.elim
      · exact h.elim
end
end L2.HW
namespace L2.HW
open PySem PySem.Spec PyProof.Rows
section
variable {X : Cx} {Wx : WX}
def OkC (X : Cx) (r : List V → Hp → VK → Prop) (g : List Va → LH → Res Va) : Prop := ∀ (Wx : WX) (σ : St) (H : Hp) (al T : List Addr) (L : LH) (xs : List V) (ws : List Va) (Q : VK), Rel X.K X.mg H al T L → RVs X (mask H (al ++ T)) al xs ws →
  GPost X Wx σ H al T L (RV X) (g ws L) Q → r xs H Q
def eCallB (g : List Va → LH → Res Va) (fs : En → LH → Res (List Va)) : EF := fun env L => (fs env L).bind g
def fCallB (g : List Va → LH → Res Ob) (fs : En → LH → Res (List Va)) : En → LH → Res Ob := fun env L => (fs env L).bind g
variable {x : Str} {p pos : Pos} {e : Expr} {es : List Expr} {fs : En → LH → Res (List Va)} {id T : String} {r : List V → Hp → VK → Prop}
theorem callB_core {g : List Va → LH → Res Va} {σ : St} {H : Hp} {Q : VK} (ok : OkC X r g) (h : Rdg X Wx (RV X) (eCallB g fs) σ H Q) : tCB r (Rdg X Wx (RVs X) fs) σ H Q := by
  obtain ⟨env, L, al, T, c, q⟩ := h
  exact rseq (R := RVs X) c q fun vs H1 ws L1 al1 c1 s1 r1 q1 => ok Wx σ H1 al1 T L1 vs ws Q c1.rel r1 q1
theorem se_callB {g : List Va → LH → Res Va} (hc : CallR X (.builtin id) r) (ok : OkC X r g) (hg : Gl X x) (hm : X.mg x = none) (hv : bootBuiltins x = some (.builtin id)) (ha : SA X Wx (e :: es) fs) (hn : x ≠ "__name__" := by decide) (hdb : (x == ("__debug__" : Str)) = false := by decide)
    (he : starEach (e :: es) X.env = (false, eval e X.env) :: starEach es X.env := by rfl) (hpl : (backTo pos (starEach es X.env)).any (·.1) = false := by rfl) : SE X Wx (.Call (.Name x p) (e :: es) [] pos) (eCallB g fs) :=
  PE.imp (pe_callB hc hg hm hv ha hn hdb he hpl) fun _ _ _ h => callB_core ok h
theorem se_callTy {g : List Va → LH → Res Va} (hc : CallR X (.type T) r) (ok : OkC X r g) (hg : Gl X x) (hm : X.mg x = none) (hv : bootBuiltins x = some (.type T)) (ha : SA X Wx (e :: es) fs) (hn : x ≠ "__name__" := by decide) (hdb : (x == ("__debug__" : Str)) = false := by decide)
    (he : starEach (e :: es) X.env = (false, eval e X.env) :: starEach es X.env := by rfl) (hpl : (backTo pos (starEach es X.env)).any (·.1) = false := by rfl) : SE X Wx (.Call (.Name x p) (e :: es) [] pos) (eCallB g fs) :=
  PE.imp (pe_callTy hc hg hm hv ha hn hdb he hpl) fun _ _ _ h => callB_core ok h
theorem rps_1 {K : PySem.W.Frag} {mg : Str → Option Value} {M : Hp} {al : List Addr} {xs : List V} {w : Va} (h : Rps K mg M al xs [w]) : ∃ v, xs = [v] ∧ Rp K mg M al v w := by
  cases h with | cons a b => cases b; exact ⟨_, rfl, a⟩
theorem rps_2 {K : PySem.W.Frag} {mg : Str → Option Value} {M : Hp} {al : List Addr} {xs : List V} {w u : Va} (h : Rps K mg M al xs [w, u]) : ∃ v y, xs = [v, y] ∧ Rp K mg M al v w ∧ Rp K mg M al y u := by
  cases h with | cons a b => cases b with | cons c d => cases d; exact ⟨_, _, rfl, a, c⟩
def cLen : List Va → LH → Res Va := fun ws L => match ws with
  | [w] => match w with
    | .d (.str z) => if z.length ≤ sizeLine then .ok (.d (.int z.length)) L else .stuck
    | .dct ks => .ok (.d (.int ks.length)) L
    | w => match w.seq L with
      | some us => .ok (.d (.int us.length)) L
      | none => match w with
        | .loc n => match L[n]? with
          | some (some (.di ks)) => .ok (.d (.int ks.length)) L
          | _ => .stuck
        | _ => .stuck
  | _ => .stuck
abbrev rLenS (X : Cx) : List V → Hp → VK → Prop := fun xs H Q => ∃ x n, xs = [x] ∧ LenV X.K x H n ∧ Q (.int n) H
abbrev rLenD : List V → Hp → VK → Prop := fun xs H Q => ∃ a kvs, xs = [.ref a] ∧ H a = some (.dK kvs) ∧ Q (.int (kvs.length : Nat)) H
theorem call_lenDK : CallR X (.builtin "len") rLenD := by
  intro pins s σ H xs us Q I r h
  obtain ⟨a, kvs, rfl, e, q⟩ := h
  rw [Vals.ref1 r]
  exact d_len I (.inl e) fun t s' I' => ⟨.int _, H, I', ⟨t, rfl⟩, q⟩
theorem cr_len : CallR X (.builtin "len") (fun xs H Q => rLenS X xs H Q ∨ rLenD xs H Q) := CallR.or call_len call_lenDK
theorem ok_len : OkC X (fun xs H Q => rLenS X xs H Q ∨ rLenD xs H Q) cLen := by
  intro Wx σ H al T L xs ws Q r q h
  unfold cLen at h
  split at h
  · rename_i w
    obtain ⟨v, rfl, q1⟩ := rps_1 q
    split at h
    · rename_i z
      split at h
      · exact .inl ⟨v, z.length, rfl, by rw [dq_str (rp_d q1)]; exact ⟨by assumption, rfl⟩, gok r h (.d (.int _))⟩
      · exact h.elim
    · rename_i ks
      cases q1 with
      | @dct a kvs _ e1 e2 =>
        have l := Paired.length e2
        refine .inr ⟨a, kvs, rfl, (of_mask e1).2, ?_⟩
        rw [l]
        exact gok r h (.d (.int _))
    · split at h
      · rename_i us e
        obtain ⟨a, vs, rfl, sq, rr⟩ := seq_ok r q1 e
        have l := Paired.length rr
        refine .inl ⟨.ref a, us.length, rfl, ?_, gok r h (.d (.int _))⟩
        rcases sq with sq | sq
        · exact .inl ⟨vs, sq, l.symm⟩
        · exact .inr ⟨vs, sq, l.symm⟩
      · split at h
        · rename_i n _ _ _
          split at h
          · rename_i ks e1
            cases q1 with
            | @loc _ a e2 =>
              obtain ⟨a', e3, kvs, e4, e5⟩ := r.cell n _ e1
              rw [e2] at e3; cases e3
              have l := Paired.length e5
              refine .inr ⟨a, kvs, rfl, e4, ?_⟩
              rw [l]
              exact gok r h (.d (.int _))
          · exact h.elim
        · exact h.elim
  · exact h.elim
def Va.kind (L : LH) : Va → Option String
  | .d .none => some "NoneType"
  | .d (.bool _) => some "bool"
  | .d (.int _) => some "int"
  | .d (.str _) => some "str"
  | .d (.list _) => some "list"
  | .d (.tuple _) => some "tuple"
  | .d (.dict _) => some "dict"
  | .tup _ => some "tuple"
  | .dct _ => some "dict"
  | .loc n => match L[n]? with
    | some (some (.lst _)) => some "list"
    | some (some (.di _)) => some "dict"
    | some (some (.dt _)) => some "dict"
    | _ => none
  | _ => none
def isKind (a T : String) : Bool := a == T || (a == "bool" && T == "int")
def kinds : List String := ["NoneType", "bool", "int", "str", "list", "tuple", "dict"]
theorem kind_mem {L : LH} {w : Va} {k : String} (e : w.kind L = some k) : k ∈ kinds := by
  unfold Va.kind at e
  split at e <;> first | (cases e; decide) | (split at e <;> first | (cases e; decide) | cases e) | cases e
theorem kind_ok {K : PySem.W.Frag} {mg : Str → Option Value} {H : Hp} {al T : List Addr} {L : LH} (r : Rel K mg H al T L) {v : V} {w : Va} {k : String} (q : Rp K mg (mask H (al ++ T)) al v w) (e : w.kind L = some k) : TyX K H v (.type k) := by
  unfold Va.kind at e
  split at e
  · cases e; rw [dq_non (rp_d q)]; exact .base .non
  · cases e; rw [dq_bl (rp_d q)]; exact .base (.bl _)
  · cases e; rw [dq_int (rp_d q)]; exact .base (.int _)
  · cases e; rw [dq_str (rp_d q)]; exact .base (.str _)
  · cases e; obtain ⟨a, vs, rfl, e1, _⟩ := dq_lst (rp_d q); exact .base (.lst (of_mask e1).2)
  · cases e; obtain ⟨a, vs, rfl, e1, _⟩ := dq_tup (rp_d q); exact .base (.tup (of_mask e1).2)
  · exact nomatch (rp_d q)
  · cases e
    cases q with
    | tup e1 _ => exact .base (.tup (of_mask e1).2)
  · cases e
    cases q with
    | dct e1 _ => exact .base (.dK (of_mask e1).2)
  · rename_i n
    cases q with
    | @loc _ a e2 =>
      split at e
      · rename_i ws e1
        cases e
        obtain ⟨a', e3, kvs, e4, e5⟩ := r.cell n _ e1
        rw [e2] at e3; cases e3
        exact .base (.lst e4)
      · rename_i ws e1
        cases e
        obtain ⟨a', e3, kvs, e4, e5⟩ := r.cell n _ e1
        rw [e2] at e3; cases e3
        exact .base (.dK e4)
      · rename_i ws e1
        cases e
        obtain ⟨a', e3, kvs, e4, e5⟩ := r.cell n _ e1
        rw [e2] at e3; cases e3
        exact .base (.dT e4)
      · cases e
  · cases e
def eIsi (T : String) (f : EF) : EF := fun env L => (f env L).bind fun w L1 => match w.kind L1 with
  | some k => .ok (.d (.bool (isKind k T))) L1
  | none => .stuck
theorem se_isi {y : Str} {q : Pos} {f : EF} (hg : Gl X "isinstance") (hm : X.mg "isinstance" = none) (hg2 : Gl X y) (hm2 : X.mg y = none) (hv2 : bootBuiltins y = some (.type T)) (hk : ∀ k ∈ kinds, kitB k T = some (isKind k T)) (ha : SE X Wx e f)
    (hn2 : y ≠ "__name__" := by decide) (hd2 : (y == ("__debug__" : Str)) = false := by decide)
    (he : starEach (e :: [.Name y q]) X.env = (false, eval e X.env) :: starEach [.Name y q] X.env := by rfl) : SE X Wx (.Call (.Name "isinstance" p) [e, .Name y q] [] pos) (eIsi T f) := by
  refine PE.imp (pe_callB call_isi hg hm (by decide +kernel) (pa_cons ha (pa_cons (pe_bltn (v := .ty T) hg2 hm2 hv2 rfl hn2 hd2) pa_nil) he) (by decide) (by decide) he rfl) ?_
  rintro σ H Q ⟨env, L, al, T', c, h⟩
  refine rseq (R := RV X) c h fun v H1 w L1 al1 c1 s1 r1 q1 => ?_
  split at q1
  · rename_i k ek
    exact ⟨v, .ty T, .type k, .type T, isKind k T, rfl, .ty T, kind_ok c1.rel r1 ek, kit_ty (hk k (kind_mem ek)), gok c1.rel q1 (.d (.bl _))⟩
  · exact q1.elim
theorem kit_int : ∀ k ∈ kinds, kitB k "int" = some (isKind k "int") := by decide +kernel
theorem kit_bool : ∀ k ∈ kinds, kitB k "bool" = some (isKind k "bool") := by decide +kernel
theorem kit_tuple : ∀ k ∈ kinds, kitB k "tuple" = some (isKind k "tuple") := by decide +kernel
theorem kit_str : ∀ k ∈ kinds, kitB k "str" = some (isKind k "str") := by decide +kernel
def boolsOf : List Va → Option (List Bool)
  | [] => some []
  | .d (.bool b) :: r => (boolsOf r).map (b :: ·)
  | _ :: _ => none
@[simp] theorem boolsOf_nil : boolsOf [] = some [] := (rfl)
@[simp] theorem boolsOf_map (bs : List Bool) : boolsOf (bs.map fun b => Va.d (.bool b)) = some bs := by
  induction bs with
  | nil => rfl
  | cons b r ih => simp only [List.map_cons, boolsOf, ih]; rfl
theorem bools_ok {K : PySem.W.Frag} {mg : Str → Option Value} {M : Hp} {al : List Addr} : ∀ {vs : List V} {ws : List Va} {bs : List Bool}, Rps K mg M al vs ws → boolsOf ws = some bs → vs = bs.map V.bl
  | _, _, bs, .nil, h => by cases h; rfl
  | _, .d (.bool b) :: ws, bs, .cons q r, h => by
    simp only [boolsOf] at h
    cases e : boolsOf ws with
    | none => rw [e] at h; cases h
    | some cs => rw [e] at h; cases h; rw [bools_ok r e, dq_bl (rp_d q)]; rfl
  | _, .d .none :: _, _, .cons _ _, h => by cases h
  | _, .d (.int _) :: _, _, .cons _ _, h => by cases h
  | _, .d (.str _) :: _, _, .cons _ _, h => by cases h
  | _, .d (.list _) :: _, _, .cons _ _, h => by cases h
  | _, .d (.tuple _) :: _, _, .cons _ _, h => by cases h
  | _, .d (.dict _) :: _, _, .cons _ _, h => by cases h
  | _, .loc _ :: _, _, .cons _ _, h => by cases h
  | _, .tup _ :: _, _, .cons _ _, h => by cases h
  | _, .dct _ :: _, _, .cons _ _, h => by cases h
  | _, .exc _ _ :: _, _, .cons _ _, h => by cases h
  | _, .scr _ :: _, _, .cons _ _, h => by cases h
def vaInts : List Va → Option (List Int)
  | [] => some []
  | .d (.int b) :: r => (vaInts r).map (b :: ·)
  | _ :: _ => none
@[simp] theorem vaInts_nil : vaInts [] = some [] := (rfl)
@[simp] theorem vaInts_map (bs : List Int) : vaInts (bs.map fun b => Va.d (.int b)) = some bs := by
  induction bs with
  | nil => rfl
  | cons b r ih => simp only [List.map_cons, vaInts, ih]; rfl
def one (ws : List Va) (L : LH) (k : List Va → Res Va) : Res Va := match ws with
  | [w] => match w.items L with
    | some us => k us
    | none => .stuck
  | _ => .stuck
theorem one_ok {H : Hp} {al T : List Addr} {L : LH} {σ : St} {xs : List V} {ws : List Va} {k : List Va → Res Va} {Q : VK} (r : Rel X.K X.mg H al T L) (q : RVs X (mask H (al ++ T)) al xs ws) (h : GPost X Wx σ H al T L (RV X) (one ws L k) Q) :
    ∃ a vs us, xs = [.ref a] ∧ H a = some (.lst vs) ∧ RVs X (mask H (al ++ T)) al vs us ∧ GPost X Wx σ H al T L (RV X) (k us) Q := by
  unfold one at h
  split at h
  · obtain ⟨v, rfl, q1⟩ := rps_1 q
    split at h
    · rename_i us e
      obtain ⟨a, vs, rfl, f1, d1⟩ := items_ok r q1 e
      exact ⟨a, vs, us, rfl, f1, d1, h⟩
    · exact h.elim
  · exact h.elim
def cAll : List Va → LH → Res Va := fun ws L => one ws L fun us => match boolsOf us with
  | some bs => .ok (.d (.bool (bs.all _root_.id))) L
  | none => .stuck
def minI : List Int → Option Int
  | [] => none
  | a :: r => some (r.foldl (fun m x => if x < m then x else m) a)
theorem ok_all : OkC X (rAll X.K) cAll := by
  intro Wx σ H al T L xs ws Q r q h
  obtain ⟨a, vs, us, rfl, f1, d1, h⟩ := one_ok r q h
  split at h
  · rename_i bs e
    have := bools_ok d1 e
    subst this
    exact ⟨a, bs, rfl, SqL.of f1, gok r h (.d (.bl _))⟩
  · exact h.elim
def cMin2 : List Va → LH → Res Va := fun ws L => match ws with
  | [.d (.int i), .d (.int j)] => .ok (.d (.int (if j < i then j else i))) L
  | _ => .stuck
def cMax2 : List Va → LH → Res Va := fun ws L => match ws with
  | [.d (.int i), .d (.int j)] => .ok (.d (.int (if j > i then j else i))) L
  | _ => .stuck
theorem ok_min2 : OkC X (fun xs H Q => ∃ i j, xs = [.int i, .int j] ∧ Q (.int (if j < i then j else i)) H) cMin2 := by
  intro Wx σ H al T L xs ws Q r q h
  unfold cMin2 at h
  split at h
  · obtain ⟨v, y, rfl, q1, q2⟩ := rps_2 q
    exact ⟨_, _, by rw [dq_int (rp_d q1), dq_int (rp_d q2)], gok r h (.d (.int _))⟩
  · exact h.elim
theorem ok_max2 : OkC X (fun xs H Q => ∃ i j, xs = [.int i, .int j] ∧ Q (.int (if j > i then j else i)) H) cMax2 := by
  intro Wx σ H al T L xs ws Q r q h
  unfold cMax2 at h
  split at h
  · obtain ⟨v, y, rfl, q1, q2⟩ := rps_2 q
    exact ⟨_, _, by rw [dq_int (rp_d q1), dq_int (rp_d q2)], gok r h (.d (.int _))⟩
  · exact h.elim
def cInt : List Va → LH → Res Va := fun ws L => match ws with
  | [.d (.int i)] => .ok (.d (.int i)) L
  | [.d (.bool b)] => .ok (.d (.int (if b then 1 else 0))) L
  | _ => .stuck
theorem ok_int : OkC X (fun xs H Q => (∃ i, xs = [.int i] ∧ Q (.int i) H) ∨ ∃ k, xs = [.bl k] ∧ Q (.int (if k then 1 else 0)) H) cInt := by
  intro Wx σ H al T L xs ws Q r q h
  unfold cInt at h
  split at h
  · obtain ⟨v, rfl, q1⟩ := rps_1 q
    exact .inl ⟨_, by rw [dq_int (rp_d q1)], gok r h (.d (.int _))⟩
  · obtain ⟨v, rfl, q1⟩ := rps_1 q
    exact .inr ⟨_, by rw [dq_bl (rp_d q1)], gok r h (.d (.int _))⟩
  · exact h.elim
def cStr : List Va → LH → Res Va := fun ws L => match ws with
  | [.d (.int i)] => if i.natAbs.log2 < 1920 then .ok (.d (.str (toString i))) L else .stuck
  | _ => .stuck
theorem ok_str : OkC X (fun xs H Q => ∃ i, xs = [.int i] ∧ i.natAbs.log2 < 1920 ∧ Q (.str (toString i)) H) cStr := by
  intro Wx σ H al T L xs ws Q r q h
  unfold cStr at h
  split at h
  · obtain ⟨v, rfl, q1⟩ := rps_1 q
    split at h
    · exact ⟨_, by rw [dq_int (rp_d q1)], by assumption, gok r h (.d (.str _))⟩
    · exact h.elim
  · exact h.elim
def cList : List Va → LH → Res Ob := fun ws L => match ws with
  | [w] => match w.seq L with
    | some us => .ok (.lst us) L
    | none => .stuck
  | _ => .stuck
def cTuple : List Va → LH → Res Va := fun ws L => match ws with
  | [.d (.tuple xs)] => .ok (.d (.tuple xs)) L
  | [w] => match w.items L with
    | some us => .ok (mkTup us) L
    | none => .stuck
  | _ => .stuck
theorem ok_tuple : OkC X (fun xs H Q => ∃ p ys, xs = [.ref p] ∧ ((SqL X.K H p ys ∧ ∀ l, H l = none → Q (.ref l) (upd H l (.tup ys))) ∨ (SqT X.K H p ys ∧ Q (.ref p) H))) cTuple := by
  intro Wx σ H al T L xs ws Q r q h
  unfold cTuple at h
  split at h
  · obtain ⟨v, rfl, q1⟩ := rps_1 q
    obtain ⟨a, vs, rfl, e1, d1⟩ := dq_tup (rp_d q1)
    exact ⟨a, vs, rfl, .inr ⟨SqT.of (of_mask e1).2, gok r h q1⟩⟩
  · obtain ⟨v, rfl, q1⟩ := rps_1 q
    split at h
    · rename_i us e
      obtain ⟨a, vs, rfl, f1, d1⟩ := items_ok r q1 e
      exact ⟨a, vs, rfl, .inl ⟨SqL.of f1, gnew r h fun p hp e m e' => rp_mkTup e' (Rps.le m (ALe.refl _) d1)⟩⟩
    · exact h.elim
  · exact h.elim
def sortI (ns : List Int) : List Int := ns.mergeSort (fun a b => decide (a ≤ b))
end
end L2.HW
namespace L2.HW
open PySem PySem.Spec PyProof.Rows
section
variable {K : PySem.W.Frag} {mg : Str → Option Value} {H : Hp} {al T : List Addr} {L : LH}
theorem mask_in {a : Addr} {o : HO} {P : List Addr} (h : a ∈ P) : mask (upd H a o) P = mask H P := by
  funext b
  unfold mask
  by_cases q : b ∈ P
  · rw [if_pos q, if_pos q]
  · rw [if_neg q, if_neg q, upd_ne]
    rintro rfl
    exact q h
theorem Rel.write (r : Rel K mg H al T L) {n : Nat} {a : Addr} {ob ob' : Ob} {o : HO} (e1 : al[n]? = some a) (e2 : L[n]? = some (some ob)) (q : ObR K mg (mask H (al ++ T)) al (upd H a o) a ob') : Stp K mg H al T L (upd H a o) al T (L.set n (some ob')) := by
  have ha : a ∈ al := List.mem_of_getElem? e1
  have m : mask (upd H a o) (al ++ T) = mask H (al ++ T) := mask_in (List.mem_append_left _ ha)
  have hn : n < L.length := (List.getElem?_eq_some_iff.mp e2).1
  refine ⟨⟨by simp [r.len], r.nd, r.dis, fun b h => ?_, fun k ob1 e => ?_⟩, ⟨[], by simp, fun _ z => nomatch z⟩, ⟨[], by simp, fun _ z => nomatch z⟩, fun b u e z => ?_, fun b e => ?_, fun k e => ?_, fun k ob1 e => ?_⟩
  · by_cases z : b = a
    · subst z; rw [upd_same]; simp
    · rw [upd_ne z]; exact r.trk b h
  · rw [m]
    by_cases z : k = n
    · subst z
      rw [List.getElem?_set_self hn] at e
      cases e
      exact ⟨a, e1, q⟩
    · rw [List.getElem?_set_ne (Ne.symm z)] at e
      obtain ⟨b, e3, q3⟩ := r.cell k ob1 e
      have : b ≠ a := by
        rintro rfl
        obtain ⟨h1, h2⟩ := List.getElem?_eq_some_iff.mp e1
        obtain ⟨h3, h4⟩ := List.getElem?_eq_some_iff.mp e3
        exact z ((List.getElem_inj r.nd).mp (h4.trans h2.symm))
      exact ⟨b, e3, ObR.le (Le.refl _) (ALe.refl _) (fun _ z => by rw [upd_ne this]; exact z) q3⟩
  · rw [upd_ne]
    · exact e
    · rintro rfl
      exact z ⟨n, ob, e1, e2⟩
  · by_cases z : b = a
    · subst z; rw [upd_same]; simp
    · rw [upd_ne z]; exact e
  · by_cases z : k = n
    · subst z; rw [e2] at e; cases e
    · rw [List.getElem?_set_ne (Ne.symm z)]; exact e
  · by_cases z : k = n
    · subst z; rw [List.getElem?_set_self hn]; exact ⟨_, rfl⟩
    · rw [List.getElem?_set_ne (Ne.symm z)]; exact ⟨_, e⟩
end
inductive Out where
  | nx (env : En) (L : LH)
  | rt (w : Va) (L : LH)
  | rf (o : Ob) (L : LH)
  | bk (env : En) (L : LH)
  | ct (env : En) (L : LH)
  | exc (c : Str) (f : Option PyData) (env : En) (L : LH)
  | stuck
def Res.then {α : Type} (r : Res α) (env : En) (k : α → LH → Out) : Out := match r with
  | .ok a L => k a L
  | .exc c f L => .exc c f env L
  | .stuck => .stuck
@[simp] theorem then_ok {α : Type} (a : α) (L : LH) (env : En) (k : α → LH → Out) : (Res.ok a L).then env k = k a L := (rfl)
@[simp] theorem then_exc {α : Type} (c : Str) (f : Option PyData) (L : LH) (env : En) (k : α → LH → Out) : (Res.exc c f L : Res α).then env k = .exc c f env L := (rfl)
@[simp] theorem then_stuck {α : Type} (env : En) (k : α → LH → Out) : (Res.stuck : Res α).then env k = .stuck := (rfl)
abbrev SFn := En → LH → Out
def SPost (X : Cx) (Wx : WX) (H : Hp) (al T : List Addr) (L : LH) (r : Out) (D : Ends) : Prop :=
  match r with
  | .nx env' L' => ∀ σ' H' al', Stp X.K X.mg H al T L H' al' T L' → Conf X.K X.mg σ' H' env' L' al' T → D.nx σ' H'
  | .rt w L' => ∀ v H' al', Stp X.K X.mg H al T L H' al' T L' → RV X (mask H' (al' ++ T)) al' v w → D.rt v H'
  | .rf o L' => ∀ a H' al', H a = none → Stp X.K X.mg H al T L H' al' (a :: T) L' → ObR X.K X.mg (mask H' (al' ++ (a :: T))) al' H' a o → D.rt (.ref a) H'
  | .bk env' L' => ∀ σ' H' al', Stp X.K X.mg H al T L H' al' T L' → Conf X.K X.mg σ' H' env' L' al' T → D.bk σ' H'
  | .ct env' L' => ∀ σ' H' al', Stp X.K X.mg H al T L H' al' T L' → Conf X.K X.mg σ' H' env' L' al' T → D.ct σ' H'
  | .exc c f env' L' => ∀ cls d σ' H' al', Stp X.K X.mg H al T L H' al' T L' → Conf X.K X.mg σ' H' env' L' al' T → ExR X.mg (mask H' (al' ++ T)) c f cls d → Wx cls d σ' H'
  | .stuck => False
def SRdg (X : Cx) (Wx : WX) (f : SFn) : TS := fun D σ H => ∃ env L al T, Conf X.K X.mg σ H env L al T ∧ SPost X Wx H al T L (f env L) D
def SS (X : Cx) (Wx : WX) (st : Stmt) (f : SFn) : Prop := PS X st (SRdg X Wx f)
def SB (X : Cx) (Wx : WX) (st : List Stmt) (f : SFn) : Prop := PSs X st (SRdg X Wx f)
section
variable {X : Cx} {Wx : WX} {σ : St} {H H1 : Hp} {al al1 T : List Addr} {L L1 : LH}
theorem Stp.back {K : PySem.W.Frag} {mg : Str → Option Value} {T1 : List Addr} (s : Stp K mg H al T L H1 al1 T1 L1) {b : Addr} (h : H1 b = none) : H b = none := by
  cases e : H b with
  | none => rfl
  | some o => exact absurd h (s.stay b (by rw [e]; simp))
theorem SPost.on (hl : al.length = L.length) (s : Stp X.K X.mg H al T L H1 al1 T L1) {r : Out} {D : Ends} (h : SPost X Wx H al T L r D) : SPost X Wx H1 al1 T L1 r D := by
  cases r with
  | nx env' L' => exact fun σ' H' al' t c => h σ' H' al' (Stp.trans hl s t) c
  | rt w L' => exact fun v H' al' t c => h v H' al' (Stp.trans hl s t) c
  | rf o L' => exact fun a H' al' ha t c => h a H' al' (s.back ha) (Stp.trans hl s t) c
  | bk env' L' => exact fun σ' H' al' t c => h σ' H' al' (Stp.trans hl s t) c
  | ct env' L' => exact fun σ' H' al' t c => h σ' H' al' (Stp.trans hl s t) c
  | exc c f env' L' => exact fun cls d σ' H' al' t c => h cls d σ' H' al' (Stp.trans hl s t) c
  | stuck => exact h
theorem sseq {α β : Type} {R : Hp → List Addr → β → α → Prop} {env : En} {f : En → LH → Res α} {k : α → LH → Out} {D : Ends} {Q' : β → Hp → Prop}
    (c : Conf X.K X.mg σ H env L al T) (h : SPost X Wx H al T L ((f env L).then env k) D)
    (hk : ∀ b H1 a L1 al1, Conf X.K X.mg σ H1 env L1 al1 T → Stp X.K X.mg H al T L H1 al1 T L1 → R (mask H1 (al1 ++ T)) al1 b a → SPost X Wx H1 al1 T L1 (k a L1) D → Q' b H1) : Rdg X Wx R f σ H Q' := by
  refine ⟨env, L, al, T, c, ?_⟩
  revert h
  generalize f env L = r
  intro g
  cases r with
  | stuck => exact g
  | exc c' f L1 => exact fun cls d H' al' s e => g cls d σ H' al' s (c.stp s) e
  | ok b L1 => exact fun b' H1 al1 s1 q1 => hk b' H1 b L1 al1 (c.stp s1) s1 q1 (SPost.on c.rel.len s1 g)
theorem sok (c : Conf X.K X.mg σ H env L al T) {D : Ends} (h : SPost X Wx H al T L (.nx env L) D) : D.nx σ H := h σ H al (Stp.refl c.rel) c
def sNil : SFn := fun env L => .nx env L
def sSeq (f g : SFn) : SFn := fun env L => match f env L with
  | .nx env1 L1 => g env1 L1
  | o => o
theorem sb_nil : SB X Wx [] sNil := PSs.imp pss_nil fun D σ H ⟨env, L, al, T, c, h⟩ => sok c h
theorem sb_cons {st : Stmt} {rest : List Stmt} {f g : SFn} (h1 : SS X Wx st f) (h2 : SB X Wx rest g) : SB X Wx (st :: rest) (sSeq f g) := by
  refine PSs.imp (pss_cons h1 h2) ?_
  rintro D σ H ⟨env, L, al, T, c, h⟩
  refine ⟨env, L, al, T, c, ?_⟩
  unfold sSeq at h
  revert h
  generalize f env L = r
  intro h
  cases r with
  | nx env1 L1 => exact fun σ' H' al' s c' => ⟨env1, L1, al', T, c', SPost.on c.rel.len s h⟩
  | rt w L' => exact h
  | rf o L' => exact h
  | bk env' L' => exact h
  | ct env' L' => exact h
  | exc c' f' env' L' => exact h
  | stuck => exact h
theorem sb_one {st : Stmt} {f : SFn} (h1 : SS X Wx st f) : SB X Wx [st] f := PSs.imp (pss_one h1) fun D σ H h => h
def sPass : SFn := sNil
def sBreak : SFn := fun env L => .bk env L
def sCont : SFn := fun env L => .ct env L
def sExpr (f : EF) : SFn := fun env L => (f env L).then env fun _ L1 => .nx env L1
theorem ss_expr {e : Expr} {pos : Pos} {f : EF} (he : SE X Wx e f) (hs : swapsWith e none pos.line X.env = pure false := by rfl) : SS X Wx (.Expr e pos) (sExpr f) := by
  refine PS.imp (ps_expr he hs) ?_
  rintro D σ H ⟨env, L, al, T, c, h⟩
  exact sseq (R := RV X) c h fun v H1 w L1 al1 c1 s1 r1 h1 => sok c1 h1
def sRet (f : EF) : SFn := fun env L => (f env L).then env fun w L1 => .rt w L1
theorem ss_ret {e : Expr} {pos : Pos} {f : EF} (he : SE X Wx e f) : SS X Wx (.Return (some e) pos) (sRet f) := by
  refine PS.imp (ps_ret he) ?_
  rintro D σ H ⟨env, L, al, T, c, h⟩
  exact sseq (R := RV X) c h fun v H1 w L1 al1 c1 s1 r1 h1 => h1 v H1 al1 (Stp.refl c1.rel) r1
def sRetN : SFn := fun _ L => .rt (.d .none) L
def sRetF (g : En → LH → Res Ob) : SFn := fun env L => (g env L).then env fun o L1 => .rf o L1
theorem ss_retF {e : Expr} {pos : Pos} {g : En → LH → Res Ob} (he : SF X Wx e g) : SS X Wx (.Return (some e) pos) (sRetF g) := by
  refine PS.imp (ps_ret he) ?_
  rintro D σ H ⟨env, L, al, T, c, h⟩
  refine ⟨env, L, al, T, c, ?_⟩
  unfold sRetF at h
  revert h
  generalize g env L = r
  intro h
  cases r with
  | stuck => exact h
  | exc c' f L1 => exact fun cls d H' al' s e => h cls d σ H' al' s (c.stp s) e
  | ok o L1 => exact h
def sIf (t : En → LH → Res Bool) (f g : SFn) : SFn := fun env L => (t env L).then env fun b L1 => if b then f env L1 else g env L1
theorem ss_if {e : Expr} {a b : List Stmt} {pos : Pos} {t : En → LH → Res Bool} {f g : SFn} (ht : ST X Wx e t) (ha : SB X Wx a f) (hb : SB X Wx b g) : SS X Wx (.If e a b pos) (sIf t f g) := by
  refine PS.imp (ps_if ht ha hb) ?_
  rintro D σ H ⟨env, L, al, T, c, h⟩
  refine sseq (R := RB) c h fun v H1 w L1 al1 c1 s1 r1 h1 => ?_
  obtain rfl : v = w := r1
  cases v with
  | true => exact ⟨env, L1, al1, T, c1, h1⟩
  | false => exact ⟨env, L1, al1, T, c1, h1⟩
def sSet (i : Nat) (f : EF) : SFn := fun env L => (f env L).then env fun w L1 => .nx (env.set i (some w)) L1
theorem ss_set {i : Nat} {x : Str} {e : Expr} {pos pos' : Pos} {f : EF} (hN : X.N.Nodup) (hi : X.N[i]? = some x) (hx : Loc X.env.scope x) (he : SE X Wx e f) (hs : swapsWith e (some (.Name x pos')) pos.line X.env = pure false := by rfl)
    (hf : X.fn x = true ∨ X.env.scope.names.lookup x = some .local := by first | exact .inl rfl | exact .inr rfl | assumption) : SS X Wx (.Assign [.Name x pos'] e pos) (sSet i f) := by
  refine PS.imp (ps_set hN hi hx he hs hf) ?_
  rintro D σ H ⟨env, L, al, T, c, h⟩
  exact sseq (R := RV X) c h fun v H1 w L1 al1 c1 s1 r1 h1 => sok (c1.put r1) (SPost.on c1.rel.len (Stp.refl c1.rel) h1)
def sAug (i : Nat) (g : Int → Int → Int) (f : EF) : SFn := fun env L => match env[i]? with
  | some (some (.d (.int a))) => (f env L).then env fun w L1 => match w with
    | .d (.int b) => .nx (env.set i (some (.d (.int (g a b))))) L1
    | _ => .stuck
  | _ => .stuck
def TPost (X : Cx) (sl : List Nat) (σ : St) (H : Hp) (al T : List Addr) (L : LH) (r : Res En) (Q : St → Hp → Prop) : Prop := match r with
  | .ok env' L' => ∀ σ' H' al', Stp X.K X.mg H al T L H' al' T L' → Conf X.K X.mg σ' H' env' L' al' T → Agr sl σ σ' → Q σ' H'
  | _ => False
def SG (X : Cx) (sl : List Nat) (tg : Expr) (g : Va → En → LH → Res En) : Prop := PG X tg fun v σ H Q => ∃ w env L al T, Conf X.K X.mg σ H env L al T ∧ RV X (mask H (al ++ T)) al v w ∧ TPost X sl σ H al T L (g w env L) Q
def SGs (X : Cx) (sl : List Nat) (ts : List Expr) (g : List Va → En → LH → Res En) : Prop := PGs X ts fun vs σ H Q => ∃ ws env L al T, Conf X.K X.mg σ H env L al T ∧ RVs X (mask H (al ++ T)) al vs ws ∧ TPost X sl σ H al T L (g ws env L) Q
theorem PG.imp {tg : Expr} {t t' : TG} (h : PG X tg t) (k : ∀ v σ H Q, t' v σ H Q → t v σ H Q) : PG X tg t' := ⟨fun pins s σ H v u Q I r q => h.run pins s σ H v u Q I r (k v σ H Q q)⟩
theorem PGs.imp {tg : List Expr} {t t' : TGs} (h : PGs X tg t) (k : ∀ v σ H Q, t' v σ H Q → t v σ H Q) : PGs X tg t' := ⟨fun pins s σ H v u Q I r q => h.run pins s σ H v u Q I r (k v σ H Q q)⟩
theorem PG.or {tg : Expr} {t u : TG} (h : PG X tg t) (k : PG X tg u) : PG X tg (fun v σ H Q => t v σ H Q ∨ u v σ H Q) := ⟨fun pins s σ H v w Q I r q => by
  rcases q with q | q
  · exact h.run pins s σ H v w Q I r q
  · exact k.run pins s σ H v w Q I r q⟩
theorem TPost.on (hl : al.length = L.length) (s : Stp X.K X.mg H al T L H1 al1 T L1) {sl : List Nat} {r : Res En} {Q : St → Hp → Prop} (h : TPost X sl σ H al T L r Q) : TPost X sl σ H1 al1 T L1 r Q := by
  cases r with
  | ok env' L' => exact fun σ' H' al' t c => h σ' H' al' (Stp.trans hl s t) c
  | exc c f L' => exact h
  | stuck => exact h
def tN (i : Nat) : Va → En → LH → Res En := fun w env L => .ok (env.set i (some w)) L
theorem sg_name {i : Nat} {x : Str} {pos : Pos} (hN : X.N.Nodup) (hi : X.N[i]? = some x) (hx : Loc X.env.scope x) (hf : X.fn x = true ∨ X.env.scope.names.lookup x = some .local := by first | exact .inl rfl | exact .inr rfl | assumption) : SG X [i] (.Name x pos) (tN i) :=
  PG.imp (pg_name hN hi hx hf) fun v σ H Q ⟨w, env, L, al, T, c, r, h⟩ => h _ H al (Stp.refl c.rel) (c.put r) (Agr.put i _ σ)
def tgNil : List Va → En → LH → Res En := fun ws env L => match ws with
  | [] => .ok env L
  | _ => .stuck
def tgCons (f : Va → En → LH → Res En) (g : List Va → En → LH → Res En) : List Va → En → LH → Res En := fun ws env L => match ws with
  | w :: r => (f w env L).bind fun env1 L1 => g r env1 L1
  | [] => .stuck
theorem sgs_nil : SGs X [] [] tgNil := PGs.imp pgs_nil fun v σ H Q ⟨w, env, L, al, T, c, r, h⟩ => by
  unfold tgNil at h
  split at h
  · cases r
    exact ⟨rfl, h _ H al (Stp.refl c.rel) c (Agr.refl _ _)⟩
  · exact h.elim
theorem sgs_cons {e : Expr} {es : List Expr} {f : Va → En → LH → Res En} {g : List Va → En → LH → Res En} {sl sl' : List Nat} (h1 : SG X sl e f) (h2 : SGs X sl' es g) (hs : (assignEach (e :: es) X.env).map (·.2) = assign e X.env :: (assignEach es X.env).map (·.2) := by rfl) : SGs X (sl ++ sl') (e :: es) (tgCons f g) :=
  PGs.imp (pgs_cons h1 h2 hs) fun vs σ H Q ⟨ws, env, L, al, T, c, r, h⟩ => by
    unfold tgCons at h
    split at h
    · rename_i w rest
      cases r with
      | cons ra rb =>
        refine ⟨_, _, rfl, w, env, L, al, T, c, ra, ?_⟩
        revert h
        generalize f w env L = r1
        intro h
        cases r1 with
        | ok env1 L1 =>
          intro σ' H' al' s c' ag
          refine ⟨rest, env1, L1, al', T, c', s.rps rb, ?_⟩
          have h := TPost.on c.rel.len s h
          revert h
          show TPost X (sl ++ sl') σ H' al' T L1 (g rest env1 L1) Q → TPost X sl' σ' H' al' T L1 (g rest env1 L1) Q
          generalize g rest env1 L1 = r2
          intro h
          cases r2 with
          | ok env2 L2 => exact fun σ2 H2 al2 s2 c2 ag2 => h σ2 H2 al2 s2 c2 (ag.trans ag2)
          | exc _ _ _ => exact h
          | stuck => exact h
        | exc _ _ _ => exact h
        | stuck => exact h
    · exact h.elim
def tTupT (n : Nat) (g : List Va → En → LH → Res En) : Va → En → LH → Res En := fun w env L => match w.seq L with
  | some ws => if ws.length = n then g ws env L else .stuck
  | none => .stuck
theorem sg_tup {es : List Expr} {k : Nat} {pos : Pos} {g : List Va → En → LH → Res En} {n : Nat} {sl : List Nat} (hc : X.calm = true) (h : SGs X sl es g) (hn : (assignEach es X.env).length = n := by rfl) (hst : (assignEach es X.env).findIdx? (·.1) = none := by rfl) : SG X sl (.Tuple es k pos) (tTupT n g) :=
  PG.imp (PG.or (pg_tup hc h hn hst) (pg_lst hc h hn hst)) fun v σ H Q ⟨w, env, L, al, T, c, r, q⟩ => by
    unfold tTupT at q
    split at q
    · rename_i ws e
      obtain ⟨a, vs, rfl, sq, rr⟩ := seq_ok c.rel r e
      have l := Paired.length rr
      split at q
      · rename_i hl
        rcases sq with sq | sq
        · exact .inr ⟨a, vs, rfl, sq, l.trans hl, ws, env, L, al, T, c, rr, q⟩
        · exact .inl ⟨a, vs, rfl, sq, l.trans hl, ws, env, L, al, T, c, rr, q⟩
      · exact q.elim
    · exact q.elim
def sAsg (f : EF) (g : Va → En → LH → Res En) : SFn := fun env L => (f env L).then env fun w L1 => match g w env L1 with
  | .ok env1 L2 => .nx env1 L2
  | _ => .stuck
theorem ss_asg {tg e : Expr} {pos : Pos} {f : EF} {g : Va → En → LH → Res En} {sl : List Nat} (he : SE X Wx e f) (hg : SG X sl tg g) (hs : swapsWithSole [tg] e pos.line X.env = pure false := by rfl) (hw : swappedStores [tg] e X.env = pure none := by rfl)
    (h1 : (assignEach [tg] X.env).map (·.2) = [assign tg X.env] := by rfl) : SS X Wx (.Assign [tg] e pos) (sAsg f g) := by
  refine PS.imp (ps_asg he hg hs hw h1) ?_
  rintro D σ H ⟨env, L, al, T, c, h⟩
  refine sseq (R := RV X) c h fun v H1 w L1 al1 c1 s1 r1 h2 => ?_
  refine ⟨w, env, L1, al1, T, c1, r1, ?_⟩
  revert h2
  generalize g w env L1 = r2
  intro h2
  cases r2 with
  | ok env1 L2 => exact fun σ' H' al' s c' _ => h2 σ' H' al' s c'
  | exc _ _ _ => exact h2
  | stuck => exact h2
def sPar (i j : Nat) (fs : En → LH → Res (List Va)) : SFn := fun env L => (fs env L).then env fun ws L1 => match ws with
  | [w, u] => .nx ((env.set i (some w)).set j (some u)) L1
  | _ => .stuck
def sPar3 (i j k : Nat) (fs : En → LH → Res (List Va)) : SFn := fun env L => (fs env L).then env fun ws L1 => match ws with
  | [w, u, z] => .nx (((env.set i (some w)).set j (some u)).set k (some z)) L1
  | _ => .stuck
def tIx (f g : EF) : Va → En → LH → Res En := fun v env L => (f env L).bind fun w L1 => (g env L1).bind fun u L2 => match w with
  | .loc n => match L2[n]?, u with
    | some (some (.lst ws)), .d (.int i) => match ixN ws.length i with
      | some j => .ok env (L2.set n (some (.lst (ws.set j v))))
      | none => .stuck
    | some (some (.di ks)), .d (.int i) => if ks.length < sizeLine then .ok env (L2.set n (some (.di (aput ks i v)))) else .stuck
    | some (some (.di [])), .d (.tuple xs) => match intsOf xs with
      | some ns => .ok env (L2.set n (some (.dt [(ns, v)])))
      | none => .stuck
    | some (some (.dt ks)), .d (.tuple xs) => match intsOf xs with
      | some ns => if ks.length < sizeLine then .ok env (L2.set n (some (.dt (aput ks ns v)))) else .stuck
      | none => .stuck
    | _, _ => .stuck
  | _ => .stuck
where
  aput {κ α : Type} [DecidableEq κ] (ks : List (κ × α)) (k : κ) (v : α) : List (κ × α) := if ks.any (fun kv => decide (kv.1 = k)) then ks.map (fun kv => if kv.1 = k then (kv.1, v) else kv) else ks ++ [(k, v)]
end
end L2.HW
namespace L2.HW
open PySem PySem.Spec PyProof.Rows
section
variable {X : Cx} {Wx : WX}
abbrev aput {κ α : Type} [DecidableEq κ] (ks : List (κ × α)) (k : κ) (v : α) : List (κ × α) := tIx.aput ks k v
theorem PSet.or {t u : TSet} (h : PSet X t) (k : PSet X u) : PSet X (fun o i v H Q => t o i v H Q ∨ u o i v H Q) := by
  intro pins s σ H o i v ov iv w Q I r1 r2 r3 q
  rcases q with q | q
  · exact h pins s σ H o i v ov iv w Q I r1 r2 r3 q
  · exact k pins s σ H o i v ov iv w Q I r1 r2 r3 q
def rSetD : TSet := fun o i v H Q => ∃ a H', o = .ref a ∧ DPut H a i v H' ∧ Q H'
theorem set_dict (hu : X.A.units + 1 < cLine) : PSet X rSetD := by
  intro pins s σ H o i v ov iv u Q I ro ri rv h
  obtain ⟨a, H', rfl, g, q⟩ := h
  obtain rfl : ov = Value.ref a := ro
  exact d_setItem hu I g ri rv fun s' I' => ⟨H', I', q⟩
def rSetD0 : TSet := fun o i v H Q => ∃ a b k, o = .ref a ∧ i = .ref b ∧ H a = some (.dK []) ∧ H b = some (.tup (k.map kV)) ∧ Q (upd H a (.dT [(k, v)]))
theorem set_dict0 (hu : X.A.units + 1 < cLine) : PSet X rSetD0 := by
  intro pins s σ H o i v ov iv u Q I ro ri rv h
  obtain ⟨a, b, k, rfl, rfl, h1, h2, q⟩ := h
  obtain rfl : ov = Value.ref a := ro
  obtain ⟨z, y, vs, rk, ob, es, ep, e1, e2, e3, e4, e5, e6⟩ := dk_of I.hok h1
  have hvs : vs = [] := by cases rk; rfl
  subst hvs
  have hes : es.toList = [] := by
    generalize es.toList = el at e5
    cases e5
    rfl
  have I' : Inv X pins σ (upd H a (.dT [])) s := I.write (t' := s.toks) (h' := s.heap) (by rw [h1]; trivial) (.inl rfl) (fun _ _ _ e => e) ⟨_, e1⟩
    ⟨Nat.zero_le _, y, [], .nil, ob, es, ep, e1, e2, e3, by rw [hes]; rfl, List.nodup_nil⟩
  have g : DPut (upd H a (.dT [])) a (.ref b) v (upd (upd H a (.dT [])) a (.dT (putK [] k v))) := DPut.t upd_same (by
    rw [upd_ne]
    · exact h2
    · rintro rfl; rw [h1] at h2; cases h2) (by rw [sizeLine_eq]; decide)
  refine d_setItem hu I' g ri rv fun s' I2 => ⟨_, I2, ?_⟩
  rw [upd_upd]
  exact q
theorem rps_set {K : PySem.W.Frag} {mg : Str → Option Value} {M : Hp} {al : List Addr} {v : V} {w : Va} (q : Rp K mg M al v w) : ∀ {vs : List V} {ws : List Va} (n : Nat), Rps K mg M al vs ws → Rps K mg M al (vs.set n v) (ws.set n w)
  | _, _, _, .nil => .nil
  | _, _, 0, .cons _ b => .cons q b
  | _, _, n + 1, .cons a b => .cons a (rps_set q n b)
theorem put_pair {κ κ' α : Type} [DecidableEq κ] [DecidableEq κ'] {f : κ → κ'} (hf : ∀ a b, f a = f b → a = b) {R : V → α → Prop} {ks : List (κ' × V)} {as : List (κ × α)} (r : Paired (fun (p : κ' × V) (q : κ × α) => p.1 = f q.1 ∧ R p.2 q.2) ks as) (k : κ) {v : V} {w : α} (q : R v w) :
    Paired (fun (p : κ' × V) (q : κ × α) => p.1 = f q.1 ∧ R p.2 q.2) (putK ks (f k) v) (aput as k w) := by
  have hany : (ks.any fun kv => decide (kv.1 = f k)) = as.any fun kv => decide (kv.1 = k) := by
    induction r with
    | nil => rfl
    | @cons p q ps qs h _ ih =>
      rw [List.any_cons, List.any_cons, ih]
      congr 1
      rw [h.1]
      by_cases e : q.1 = k
      · simp [e]
      · have e' : ¬ f q.1 = f k := fun z => e (hf _ _ z)
        rw [decide_eq_false e, decide_eq_false e']
  unfold putK aput tIx.aput
  rw [hany]
  by_cases c : (as.any fun kv => decide (kv.1 = k)) = true
  · rw [if_pos c, if_pos c]
    clear hany c
    induction r with
    | nil => exact .nil
    | @cons p q' ps qs h _ ih =>
      refine .cons ?_ ih
      show ((if p.1 = f k then (p.1, v) else p).1 = f (if q'.1 = k then (q'.1, w) else q').1 ∧ R (if p.1 = f k then (p.1, v) else p).2 (if q'.1 = k then (q'.1, w) else q').2)
      by_cases e : q'.1 = k
      · rw [if_pos e, if_pos (by rw [h.1, e])]
        exact ⟨by rw [h.1], q⟩
      · rw [if_neg e, if_neg (by rw [h.1]; exact fun z => e (hf _ _ z))]
        exact h
  · rw [if_neg c, if_neg c]
    clear hany c
    induction r with
    | nil => exact .cons ⟨rfl, q⟩ .nil
    | cons h _ ih => exact .cons h ih
theorem sg_ix {o i : Expr} {f g : EF} {pos : Pos} (hu : X.A.units + 1 < cLine) (ho : SE X (fun _ _ _ _ => False) o f) (hi : SE X (fun _ _ _ _ => False) i g)
    (ha : ∀ v, assign (.Subscript o i pos) X.env v = (do
      let ov ← holding [v] (eval o X.env)
      let iv ← holding [v, ov] (eval i X.env)
      standAt pos
      holding [v, ov, iv] (setItem ov iv v)
      release [v, ov, iv] []) := by intro _; rfl) : SG X [] (.Subscript o i pos) (tIx f g) := by
  refine PG.imp (pg_sub ho hi (PSet.or set_list (PSet.or (set_dict hu) (set_dict0 hu))) ha) ?_
  rintro v σ H Q ⟨w, env, L, al, T, c, r, h⟩
  unfold tIx at h
  have e1 : GPost X (fun _ _ _ _ => False) σ H al T L (RV X) (f env L) fun o H1 => Rdg X (fun _ _ _ _ => False) (RV X) g σ H1 fun i H2 => (fun o i v H Q => rSetL o i v H Q ∨ rSetD o i v H Q ∨ rSetD0 o i v H Q) o i v H2 fun H3 => Q σ H3 := by
    revert h
    generalize f env L = r1
    intro h
    cases r1 with
    | stuck => exact h
    | exc _ _ _ => exact h.elim
    | ok wo L1 =>
      intro ov H1 al1 s1 ro
      have c1 := c.stp s1
      refine ⟨env, L1, al1, T, c1, ?_⟩
      simp only [Res.bind_ok] at h
      revert h
      generalize g env L1 = r2
      intro h
      cases r2 with
      | stuck => exact h
      | exc _ _ _ => exact h.elim
      | ok wi L2 =>
        intro iv H2 al2 s2 ri
        have c2 := c1.stp s2
        have s12 := Stp.trans c.rel.len s1 s2
        have rv := s12.rp r
        have ro2 := s2.rp ro
        have h3 := TPost.on c.rel.len s12 h
        clear h
        simp only [Res.bind_ok] at h3
        split at h3
        · rename_i n
          cases ro2 with
          | @loc _ a e2 =>
            split at h3
            · rename_i ws i e4
              have ei := dq_int (rp_d ri)
              obtain ⟨a', e3, vs, e5, e6⟩ := c2.rel.cell n _ e4
              rw [e2] at e3; cases e3
              split at h3
              · rename_i j ej
                have st := c2.rel.write (o := .lst (vs.set j v)) (ob' := .lst (ws.set j w)) e2 e4 ⟨_, upd_same, rps_set rv j e6⟩
                exact .inl ⟨a, vs, i, j, rfl, ei, e5, by rw [Paired.length e6]; exact ej, h3 _ _ _ st (c2.stp st) (Agr.refl _ _)⟩
              · exact h3.elim
            · rename_i ks i e4
              have ei := dq_int (rp_d ri)
              obtain ⟨a', e3, vs, e5, e6⟩ := c2.rel.cell n _ e4
              rw [e2] at e3; cases e3
              split at h3
              · rename_i hl
                have st := c2.rel.write (o := .dK (putK vs (Sum.inl i) v)) (ob' := .di (aput ks i w)) e2 e4 ⟨_, upd_same, put_pair (f := (Sum.inl : Int → Key)) inl_inj e6 i rv⟩
                exact .inr (.inl ⟨a, _, rfl, by rw [ei]; exact DPut.k (k := Sum.inl i) e5 (by rw [Paired.length e6]; exact hl), h3 _ _ _ st (c2.stp st) (Agr.refl _ _)⟩)
              · exact h3.elim
            · rename_i xs e4
              obtain ⟨a', e3, vs, e5, e6⟩ := c2.rel.cell n _ e4
              rw [e2] at e3; cases e3
              cases e6
              split at h3
              · rename_i ns en
                rw [intsOf_eq en] at ri
                obtain ⟨b, us, rfl, f1, d1⟩ := dq_tup (rp_d ri)
                have g1 := dq_ints d1
                subst g1
                have st := c2.rel.write (o := .dT [(ns.map Sum.inl, v)]) (ob' := .dt [(ns, w)]) e2 e4 ⟨_, upd_same, .cons ⟨rfl, rv⟩ .nil⟩
                exact .inr (.inr ⟨a, b, ns.map Sum.inl, rfl, rfl, e5, by rw [List.map_map]; exact (of_mask f1).2, h3 _ _ _ st (c2.stp st) (Agr.refl _ _)⟩)
              · exact h3.elim
            · rename_i ks xs e4
              obtain ⟨a', e3, vs, e5, e6⟩ := c2.rel.cell n _ e4
              rw [e2] at e3; cases e3
              split at h3
              · rename_i ns en
                rw [intsOf_eq en] at ri
                obtain ⟨b, us, rfl, f1, d1⟩ := dq_tup (rp_d ri)
                have g1 := dq_ints d1
                subst g1
                split at h3
                · rename_i hl
                  have st := c2.rel.write (o := .dT (putK vs (ns.map Sum.inl) v)) (ob' := .dt (aput ks ns w)) e2 e4 ⟨_, upd_same, put_pair (f := fun ns : List Int => ns.map (Sum.inl : Int → Key)) map_inl_inj e6 ns rv⟩
                  exact .inr (.inl ⟨a, _, rfl, DPut.t (k := ns.map Sum.inl) e5 (by rw [List.map_map]; exact (of_mask f1).2) (by rw [Paired.length e6]; exact hl), h3 _ _ _ st (c2.stp st) (Agr.refl _ _)⟩)
                · exact h3.elim
              · exact h3.elim
            · exact h3.elim
        · exact h3.elim
  exact ⟨env, L, al, T, c, e1⟩
end
end L2.HW
namespace L2.HW
open PySem PySem.Spec PyProof.Rows
section
variable {K : PySem.W.Frag} {mg : Str → Option Value} {H H1 : Hp} {al al1 T T1 : List Addr} {L L1 : LH}
def lockL (lk : Option Nat) (L : LH) : LH := match lk with
  | some n => L.set n none
  | none => L
def openL (lk : Option Nat) (L0 L : LH) : LH := match lk with
  | some n => match L0[n]? with
    | some c => L.set n c
    | none => L
  | none => L
@[simp] theorem lockL_none (L : LH) : lockL none L = L := (rfl)
@[simp] theorem openL_none (L0 L : LH) : openL none L0 L = L := (rfl)
theorem Rel.lock (r : Rel K mg H al T L) (lk : Option Nat) : Rel K mg H al T (lockL lk L) := by
  cases lk with
  | none => exact r
  | some n =>
    refine ⟨by simp [lockL, r.len], r.nd, r.dis, r.trk, fun k o e => ?_⟩
    unfold lockL at e
    by_cases z : n = k
    · subst z
      by_cases hn : n < L.length
      · rw [List.getElem?_set_self hn] at e; cases e
      · rw [List.getElem?_eq_none (by simpa using hn)] at e; cases e
    · rw [List.getElem?_set_ne z] at e
      exact r.cell k o e
theorem Conf.lock {σ : St} {env : En} (c : Conf K mg σ H env L al T) (lk : Option Nat) : Conf K mg σ H env (lockL lk L) al T := ⟨c.rel.lock lk, c.len, c.slot⟩
theorem Stp.opened (r0 : Rel K mg H al T L) {lk : Option Nat} (s : Stp K mg H al T (lockL lk L) H1 al1 T1 L1) : Stp K mg H al T L H1 al1 T1 (openL lk L L1) := by
  cases lk with
  | none => exact s
  | some n =>
    simp only [openL]
    cases e0 : L[n]? with
    | none =>
      have : lockL (some n) L = L := by
        unfold lockL
        apply List.ext_getElem?
        intro k
        by_cases z : n = k
        · subst z
          rw [e0, List.getElem?_eq_none]
          have := List.getElem?_eq_none_iff.mp e0
          simpa using this
        · rw [List.getElem?_set_ne z]
      rw [this] at s
      simpa [e0] using s
    | some c =>
      have hn : n < L.length := (List.getElem?_eq_some_iff.mp e0).1
      have lkn : (lockL (some n) L)[n]? = some none := by unfold lockL; rw [List.getElem?_set_self hn]
      have l1n := s.lck n lkn
      have hn1 : n < L1.length := (List.getElem?_eq_some_iff.mp l1n).1
      have alvS : ∀ b, Alv al (lockL (some n) L) b → Alv al L b := fun b ⟨k, o, e1, e2⟩ => ⟨k, o, e1, by
        unfold lockL at e2
        by_cases z : n = k
        · subst z; rw [List.getElem?_set_self hn] at e2; cases e2
        · rw [List.getElem?_set_ne z] at e2; exact e2⟩
      obtain ⟨be, eb, fb⟩ := s.ext
      simp only
      refine ⟨⟨by simp [s.rel.len], s.rel.nd, s.rel.dis, s.rel.trk, fun k o e => ?_⟩, s.ext, s.text, fun b u e z => s.frame b u e fun q => z (alvS b q), s.stay, fun k e => ?_, fun k o e => ?_⟩
      · by_cases z : n = k
        · subst z
          rw [List.getElem?_set_self hn1] at e
          cases e
          obtain ⟨a, e1, q⟩ := r0.cell n o e0
          refine ⟨a, s.ale _ _ e1, ObR.le s.le s.ale (fun u h => s.frame a u h fun ⟨k, o', e2, e3⟩ => ?_) q⟩
          have : k = n := by
            obtain ⟨h1, h2⟩ := List.getElem?_eq_some_iff.mp e1
            obtain ⟨h3, h4⟩ := List.getElem?_eq_some_iff.mp e2
            exact (List.getElem_inj r0.nd).mp (h4.trans h2.symm)
          subst this
          rw [lkn] at e3; cases e3
        · rw [List.getElem?_set_ne z] at e
          exact s.rel.cell k o e
      · by_cases z : n = k
        · subst z
          rw [List.getElem?_set_self hn1]
          rw [e0] at e; cases e; rfl
        · rw [List.getElem?_set_ne z]
          exact s.lck k (by unfold lockL; rw [List.getElem?_set_ne z]; exact e)
      · by_cases z : n = k
        · subst z
          rw [List.getElem?_set_self hn1]
          rw [e0] at e; cases e; exact ⟨_, rfl⟩
        · rw [List.getElem?_set_ne z]
          exact s.alv k o (by unfold lockL; rw [List.getElem?_set_ne z]; exact e)
theorem Stp.updT {D : Addr} {o : HO} (hD : H D = none) (s : Stp K mg H al T L H1 al1 (D :: T) L1) : Stp K mg H al T L (upd H1 D o) al1 (D :: T) L1 := by
  have r := s.rel
  have m : mask (upd H1 D o) (al1 ++ (D :: T)) = mask H1 (al1 ++ (D :: T)) := mask_in (by simp)
  refine ⟨⟨r.len, r.nd, r.dis, fun b h => ?_, fun k ob e => ?_⟩, s.ext, s.text, fun b u e z => ?_, fun b e => ?_, s.lck, s.alv⟩
  · by_cases z : b = D
    · subst z; rw [upd_same]; simp
    · rw [upd_ne z]; exact r.trk b h
  · rw [m]
    obtain ⟨a, e1, q⟩ := r.cell k ob e
    have : a ≠ D := by
      rintro rfl
      exact r.dis a (List.mem_of_getElem? e1) List.mem_cons_self
    exact ⟨a, e1, ObR.le (Le.refl _) (ALe.refl _) (fun _ z => by rw [upd_ne this]; exact z) q⟩
  · rw [upd_ne]
    · exact s.frame b u e z
    · rintro rfl; rw [hD] at e; cases e
  · by_cases z : b = D
    · subst z; rw [upd_same]; simp
    · rw [upd_ne z]; exact s.stay b e
end

def Wlk (K : PySem.W.Frag) (mg : Str → Option Value) (H : Hp) (al T : List Addr) (L : LH) (J : It) (ws : List Va) : Prop :=
  ∀ H1 al1 T1 L1, Stp K mg H al T L H1 al1 T1 L1 → J.stop ws.length H1 ∧ ∀ i w, ws[i]? = some w → J.go i H1 ∧ ∀ x H2, J.yld i H1 x H2 → Stp K mg H1 al1 T1 L1 H2 al1 T1 L1 ∧ Rp K mg (mask H2 (al1 ++ T1)) al1 x w
abbrev Srcf := En → LH → Res (List Va × Option Nat)
def IPost (X : Cx) (Wx : WX) (σ : St) (H : Hp) (al T : List Addr) (L : LH) (r : Res (List Va × Option Nat)) (R : It → Hp → Prop) : Prop := match r with
  | .ok p L1 => ∀ J H1 al1, Stp X.K X.mg H al T L H1 al1 T L1 → Wlk X.K X.mg H1 al1 T (lockL p.2 L1) J p.1 → R J H1
  | .exc c f L1 => ∀ cls d H' al', Stp X.K X.mg H al T L H' al' T L1 → ExR X.mg (mask H' (al' ++ T)) c f cls d → Wx cls d σ H'
  | .stuck => False
def SI (X : Cx) (Wx : WX) (tg iter : Expr) (s : Srcf) : Prop := PI X tg iter fun σ H R => ∃ env L al T, Conf X.K X.mg σ H env L al T ∧ IPost X Wx σ H al T L (s env L) R
theorem PI.imp {X : Cx} {tg iter : Expr} {t t' : TI} (h : PI X tg iter t) (k : ∀ σ H R, t' σ H R → t σ H R) : PI X tg iter t' := ⟨fun pins s σ H R I q => h.run pins s σ H R I (k σ H R q)⟩
theorem PI.or {X : Cx} {tg iter : Expr} {t u : TI} (h : PI X tg iter t) (k : PI X tg iter u) : PI X tg iter (fun σ H R => t σ H R ∨ u σ H R) := ⟨fun pins s σ H R I q => by
  rcases q with q | q
  · exact h.run pins s σ H R I q
  · exact k.run pins s σ H R I q⟩
section
variable {X : Cx} {Wx : WX}
def srcOf (w : Va) (L : LH) : Option (List Va × Option Nat) := match w with
  | .loc n => match L[n]? with
    | some (some (.lst ws)) => some (ws, some n)
    | _ => none
  | .d (.list ds) => some (ds.map .d, none)
  | .d (.tuple ds) => some (ds.map .d, none)
  | .tup ws => some (ws, none)
  | _ => none
def srcV (f : EF) : Srcf := fun env L => (f env L).bind fun w L1 => match srcOf w L1 with
  | some p => .ok p L1
  | none => .stuck
theorem rps_get {K : PySem.W.Frag} {mg : Str → Option Value} {M : Hp} {al : List Addr} : ∀ {vs : List V} {ws : List Va} {i : Nat} {w : Va}, Rps K mg M al vs ws → ws[i]? = some w → ∃ v, vs[i]? = some v ∧ Rp K mg M al v w
  | _, _, _, _, .nil, e => by simp at e
  | _, _, 0, _, .cons a _, e => by simp at e; subst e; exact ⟨_, rfl, a⟩
  | _, _, i + 1, _, .cons _ b, e => by simpa using rps_get (i := i) b (by simpa using e)
theorem pi_seq {tg l : Expr} {tl : TE} (hl : PE X l tl) : PI X tg l (fun σ H R => tl σ H fun x H1 => ∃ a, x = .ref a ∧ ((∃ xs, SqL X.K H1 a xs) ∧ R (Itl X.K a) H1 ∨ (∃ xs, SqT X.K H1 a xs) ∧ R (Itt X.K a) H1)) := by
  refine ⟨fun pins s σ H R I h => ?_⟩
  refine thn (hl.run pins s σ H _ I h) fun v s1 ⟨x, H1, I1, r1, q1⟩ => ?_
  obtain ⟨a, e, q⟩ := q1
  subst e
  cases r1
  rcases q with ⟨⟨xs, hq⟩, q⟩ | ⟨⟨xs, hq⟩, q⟩
  · obtain ⟨its, rv, p, hz⟩ := I1.list hq
    refine wpAny_pyIter_list p.isList ?_
    refine ⟨s1.heap.objs.size, [s1.heap.objs.size], _, _, H1, rfl, I1.kept (t' := s1.toks) fun b o e => Heap.get?_push_of_some _ e, turn_list a _, ⟨_, Heap.get?_push_size _ rfl, rfl, rfl⟩, fun b hb => ?_, q⟩
    have e : b = s1.heap.objs.size := by simpa using hb
    subst e
    exact I1.fpOk (Nat.le_refl _) (I1.hok.fresh (Nat.le_refl _))
  · obtain ⟨its, rv, p, hz⟩ := I1.tuple hq
    refine wpAny_pyIter_tuple (show s1.heap.IsTuple a its.toArray from p) ?_
    refine ⟨s1.heap.objs.size, [s1.heap.objs.size], _, _, H1, rfl, I1.kept (t' := s1.toks) fun b o e => Heap.get?_push_of_some _ e, turn_tuple a _, ⟨_, Heap.get?_push_size _ rfl, rfl, rfl⟩, fun b hb => ?_, q⟩
    have e : b = s1.heap.objs.size := by simpa using hb
    subst e
    exact I1.fpOk (Nat.le_refl _) (I1.hok.fresh (Nat.le_refl _))
section
variable {K : PySem.W.Frag} {mg : Str → Option Value} {H : Hp} {al T : List Addr} {L : LH}
theorem wlk_lst {a : Addr} {vs : List V} {ws : List Va} (rel : Rel K mg H al T L) (h : H a = some (.lst vs)) (na : ¬ Alv al L a) (r : Rps K mg (mask H (al ++ T)) al vs ws) : Wlk K mg H al T L (Itl K a) ws := by
  intro H1 al1 T1 L1 s
  have h1 := s.frame a _ h na
  have r1 := s.rps r
  refine ⟨⟨vs, SqL.of h1, by rw [Paired.length r1]; exact Nat.le_refl _⟩, fun i w e => ?_⟩
  obtain ⟨v, e2, q⟩ := rps_get r1 e
  refine ⟨⟨vs, v, SqL.of h1, e2⟩, fun x H2 y => ?_⟩
  obtain ⟨rfl, y⟩ := y
  have := y vs (SqL.of h1)
  rw [e2] at this; cases this
  exact ⟨Stp.refl s.rel, q⟩
theorem wlk_tup {a : Addr} {vs : List V} {ws : List Va} (rel : Rel K mg H al T L) (h : mask H (al ++ T) a = some (.tup vs)) (r : Rps K mg (mask H (al ++ T)) al vs ws) : Wlk K mg H al T L (Itt K a) ws := by
  intro H1 al1 T1 L1 s
  have h1 := (of_mask (s.le _ _ h)).2
  have r1 := s.rps r
  refine ⟨⟨vs, SqT.of h1, by rw [Paired.length r1]; exact Nat.le_refl _⟩, fun i w e => ?_⟩
  obtain ⟨v, e2, q⟩ := rps_get r1 e
  refine ⟨⟨vs, v, SqT.of h1, e2⟩, fun x H2 y => ?_⟩
  obtain ⟨rfl, y⟩ := y
  have := y vs (SqT.of h1)
  rw [e2] at this; cases this
  exact ⟨Stp.refl s.rel, q⟩
theorem wlk_range {lo : Int} {n : Nat} (rel : Rel K mg H al T L) : Wlk K mg H al T L (Itr lo n) ((List.range n).map fun i => .d (.int (lo + (i : Nat)))) := by
  intro H1 al1 T1 L1 s
  refine ⟨by show n ≤ _; simp, fun i w e => ?_⟩
  rw [List.getElem?_map] at e
  by_cases hi : i < n
  · rw [List.getElem?_range hi] at e
    cases e
    refine ⟨hi, fun x H2 y => ?_⟩
    obtain ⟨rfl, rfl⟩ := y
    exact ⟨Stp.refl s.rel, .d (.int _)⟩
  · rw [List.getElem?_eq_none (by simpa using hi)] at e; cases e
end
theorem not_alv_mask {H : Hp} {al T : List Addr} {L : LH} {a : Addr} {o : HO} (e : mask H (al ++ T) a = some o) : ¬ Alv al L a := fun z => (of_mask e).1 (List.mem_append_left _ z.mem)
theorem si_v {tg e : Expr} {f : EF} (h : SE X Wx e f) : SI X Wx tg e (srcV f) := by
  refine PI.imp (pi_seq h) ?_
  rintro σ H R ⟨env, L, al, T, c, q⟩
  refine ⟨env, L, al, T, c, ?_⟩
  unfold srcV at q
  revert q
  generalize f env L = r
  intro q
  cases r with
  | stuck => exact q
  | exc c f L1 => exact q
  | ok w L1 =>
    intro v H1 al1 s1 r1
    simp only [Res.bind_ok] at q
    cases e : srcOf w L1 with
    | none => rw [e] at q; exact q.elim
    | some p =>
      rw [e] at q
      cases w with
      | loc n =>
        simp only [srcOf] at e
        split at e
        · rename_i ws e1
          cases e
          obtain ⟨a, vs, rfl, ea, e3, e4⟩ := loc_lst s1.rel r1 e1
          refine ⟨a, rfl, .inl ⟨⟨vs, SqL.of e3⟩, q _ H1 al1 s1 ?_⟩⟩
          refine wlk_lst (s1.rel.lock _) e3 (fun ⟨k, o, h1, h2⟩ => ?_) e4
          have hn : n < L1.length := (List.getElem?_eq_some_iff.mp e1).1
          have : k = n := by
            obtain ⟨h3, h4⟩ := List.getElem?_eq_some_iff.mp ea
            obtain ⟨h5, h6⟩ := List.getElem?_eq_some_iff.mp h1
            exact (List.getElem_inj s1.rel.nd).mp (h6.trans h4.symm)
          subst this
          unfold lockL at h2
          simp only at h2
          rw [List.getElem?_set_self hn] at h2
          cases h2
        · cases e
      | d y =>
        cases r1 with
        | d r1 =>
          cases r1 with
          | lst e1 e2 => cases e; exact ⟨_, rfl, .inl ⟨⟨_, SqL.of (of_mask e1).2⟩, q _ H1 al1 s1 (wlk_lst s1.rel (of_mask e1).2 (not_alv_mask e1) (all_dq e2))⟩⟩
          | tup e1 e2 => cases e; exact ⟨_, rfl, .inr ⟨⟨_, SqT.of (of_mask e1).2⟩, q _ H1 al1 s1 (wlk_tup s1.rel e1 (all_dq e2))⟩⟩
          | non => cases e
          | bl _ => cases e
          | int _ => cases e
          | str _ => cases e
      | tup us =>
        cases e
        cases r1 with
        | tup e1 e2 => exact ⟨_, rfl, .inr ⟨⟨_, SqT.of (of_mask e1).2⟩, q _ H1 al1 s1 (wlk_tup s1.rel e1 e2)⟩⟩
      | dct _ => cases e
      | exc _ _ => cases e
      | scr ns => cases e
end
end L2.HW
namespace L2.HW
open PySem PySem.Spec PyProof.Rows
section
variable {X : Cx} {Wx : WX}
def rngV (lo : Int) (n : Nat) : List Va := (List.range n).map fun i => .d (.int (lo + (i : Nat)))
def srcR1 (fs : En → LH → Res (List Va)) : Srcf := fun env L => (fs env L).bind fun ws L1 => match ws with
  | [.d (.int j)] => if -(2 ^ 62) ≤ j ∧ j < 2 ^ 62 then .ok (rngV 0 j.toNat, none) L1 else .stuck
  | _ => .stuck
def srcR2 (fs : En → LH → Res (List Va)) : Srcf := fun env L => (fs env L).bind fun ws L1 => match ws with
  | [.d (.int i), .d (.int j)] => if -(2 ^ 62) ≤ i ∧ i < 2 ^ 62 ∧ -(2 ^ 62) ≤ j ∧ j < 2 ^ 62 then .ok (rngV i (j - i).toNat, none) L1 else .stuck
  | _ => .stuck
theorem iseq {α β : Type} {R : Hp → List Addr → β → α → Prop} {σ : St} {H : Hp} {al T : List Addr} {L : LH} {env : En} {f : En → LH → Res α} {k : α → LH → Res (List Va × Option Nat)} {Q : It → Hp → Prop} {Q' : β → Hp → Prop}
    (c : Conf X.K X.mg σ H env L al T) (h : IPost X Wx σ H al T L ((f env L).bind k) Q)
    (hk : ∀ b H1 a L1 al1, Conf X.K X.mg σ H1 env L1 al1 T → Stp X.K X.mg H al T L H1 al1 T L1 → R (mask H1 (al1 ++ T)) al1 b a → IPost X Wx σ H1 al1 T L1 (k a L1) Q → Q' b H1) : Rdg X Wx R f σ H Q' := by
  refine ⟨env, L, al, T, c, ?_⟩
  revert h
  generalize f env L = r
  intro g
  cases r with
  | stuck => exact g
  | exc c f L1 => exact g
  | ok b L1 =>
    intro b' H1 al1 s1 q1
    refine hk b' H1 b L1 al1 (c.stp s1) s1 q1 ?_
    simp only [Res.bind_ok] at g
    revert g
    generalize k b L1 = r2
    intro g
    cases r2 with
    | stuck => exact g
    | exc c' f L2 => exact fun cls d H' al' t q => g cls d H' al' (Stp.trans c.rel.len s1 t) q
    | ok o L2 => exact fun J H' al' t q => g J H' al' (Stp.trans c.rel.len s1 t) q
theorem si_r1 {tg a : Expr} {fs : En → LH → Res (List Va)} {p pos : Pos} (hg : Gl X "range") (hm : X.mg "range" = none) (ha : SA X Wx [a] fs) (hs : starEach [a] X.env = [(false, eval a X.env)] := by rfl) : SI X Wx tg (.Call (.Name "range" p) [a] [] pos) (srcR1 fs) := by
  refine PI.imp (pi_range1 hg hm ha hs) ?_
  rintro σ H R ⟨env, L, al, T, c, h⟩
  refine iseq (R := RVs X) c h fun vs H1 ws L1 al1 c1 s1 r1 h1 => ?_
  split at h1
  · rename_i j
    obtain ⟨v, rfl, q⟩ := rps_1 r1
    split at h1
    · rename_i hb
      refine ⟨j, by rw [dq_int (rp_d q)], hb.1, hb.2, h1 _ H1 al1 (Stp.refl c1.rel) (wlk_range (lo := 0) c1.rel)⟩
    · exact h1.elim
  · exact h1.elim
def forL (g : Va → En → LH → Res En) (body : SFn) : List Va → En → LH → Out
  | [], env, L => .nx env L
  | w :: ws, env, L => match g w env L with
    | .ok env1 L1 => match body env1 L1 with
      | .nx env2 L2 => forL g body ws env2 L2
      | .ct env2 L2 => forL g body ws env2 L2
      | .bk env2 L2 => .nx env2 L2
      | o => o
    | _ => .stuck
def openOut (lk : Option Nat) (L0 : LH) : Out → Out
  | .nx env L => .nx env (openL lk L0 L)
  | .rt w L => .rt w (openL lk L0 L)
  | .rf o L => .rf o (openL lk L0 L)
  | .bk env L => .bk env (openL lk L0 L)
  | .ct env L => .ct env (openL lk L0 L)
  | .exc c f env L => .exc c f env (openL lk L0 L)
  | .stuck => .stuck
def sFor (s : Srcf) (g : Va → En → LH → Res En) (body : SFn) : SFn := fun env L => (s env L).then env fun p L1 => openOut p.2 L1 (forL g body p.1 env (lockL p.2 L1))
theorem SPost.opened {H1 H3 : Hp} {al1 al3 T : List Addr} {L1 L3 : LH} {lk : Option Nat} {r : Out} {D : Ends} (r0 : Rel X.K X.mg H1 al1 T L1) (s : Stp X.K X.mg H1 al1 T (lockL lk L1) H3 al3 T L3) (h : SPost X Wx H1 al1 T L1 (openOut lk L1 r) D) : SPost X Wx H3 al3 T L3 r D := by
  have hl : al1.length = (lockL lk L1).length := (r0.lock lk).len
  have op : ∀ {H' : Hp} {al' T' : List Addr} {L' : LH}, Stp X.K X.mg H3 al3 T L3 H' al' T' L' → Stp X.K X.mg H1 al1 T L1 H' al' T' (openL lk L1 L') := fun t => Stp.opened r0 (Stp.trans hl s t)
  cases r with
  | nx env' L' => exact fun σ' H' al' t c => h σ' H' al' (op t) ⟨(op t).rel, c.len, c.slot⟩
  | rt w L' => exact fun v H' al' t c => h v H' al' (op t) c
  | rf o L' => exact fun a H' al' ha t c => h a H' al' (s.back ha) (op t) c
  | bk env' L' => exact fun σ' H' al' t c => h σ' H' al' (op t) ⟨(op t).rel, c.len, c.slot⟩
  | ct env' L' => exact fun σ' H' al' t c => h σ' H' al' (op t) ⟨(op t).rel, c.len, c.slot⟩
  | exc c f env' L' => exact fun cls d σ' H' al' t c => h cls d σ' H' al' (op t) ⟨(op t).rel, c.len, c.slot⟩
  | stuck => exact h
theorem ss_for {tg iter : Expr} {body : List Stmt} {pos : Pos} {s : Srcf} {sl : List Nat} {g : Va → En → LH → Res En} {fb : SFn} (hp : PassesOwn (model X.prog X.w) X.A X.env X.xe) (hc : X.calm = true) (hi : SI X Wx tg iter s) (hg : SG X sl tg g) (hb : SB X Wx body fb)
    (hs : ∀ x, foldedSetIterable iter X.env x = pure x := by intro _; rfl) : SS X Wx (.For tg iter body [] pos) (sFor s g fb) := by
  refine PS.imp (ps_for hp hc hi hg hb hs) ?_
  rintro D σ H ⟨env, L, al, T, c, h⟩
  refine ⟨env, L, al, T, c, ?_⟩
  unfold sFor at h
  revert h
  generalize s env L = r
  intro h
  cases r with
  | stuck => exact h
  | exc c' f L1 => exact fun cls d H' al' t e => h cls d σ H' al' t (c.stp t) e
  | ok p L1 =>
    obtain ⟨ws, lk⟩ := p
    intro J H1 al1 s1 wk
    have c1 := c.stp s1
    have h := SPost.on c.rel.len s1 h
    simp only [then_ok] at h
    have hl : al1.length = (lockL lk L1).length := (c1.rel.lock lk).len
    let W : Nat → Nat → St → Hp → Prop := fun i m σ2 H2 => m = ws.length - i ∧ i ≤ ws.length ∧ ∃ env2 al2 L2, Stp X.K X.mg H1 al1 T (lockL lk L1) H2 al2 T L2 ∧ Conf X.K X.mg σ2 H2 env2 L2 al2 T ∧ SPost X Wx H1 al1 T L1 (openOut lk L1 (forL g fb (ws.drop i) env2 L2)) D
    refine ⟨W, ⟨ws.length, by simp, Nat.zero_le _, env, al1, lockL lk L1, Stp.refl (c1.rel.lock lk), c1.lock lk, h⟩, ?_⟩
    rintro i m σ2 H2 ⟨rfl, hi, env2, al2, L2, s2, c2, h2⟩
    obtain ⟨stop, item⟩ := wk H2 al2 T L2 s2
    by_cases hlt : i < ws.length
    · have ew : ws[i]? = some ws[i] := List.getElem?_eq_getElem hlt
      obtain ⟨go, yl⟩ := item i _ ew
      refine .inr ⟨go, W (i + 1) (ws.length - (i + 1)), fun σ' H' n => ⟨ws.length - (i + 1), by omega, n⟩, fun x H3 y => ?_⟩
      obtain ⟨s3, rx⟩ := yl x H3 y
      have c3 := c2.stp s3
      have s23 := Stp.trans hl s2 s3
      refine ⟨ws[i], env2, L2, al2, T, c3, rx, ?_⟩
      rw [List.drop_eq_getElem_cons hlt] at h2
      unfold forL at h2
      revert h2
      generalize g ws[i] env2 L2 = r1
      intro h2
      cases r1 with
      | stuck => exact h2
      | exc _ _ _ => exact h2
      | ok env4 L4 =>
        intro σ4 H4 al4 s4 c4 _
        have s24 := Stp.trans hl s23 s4
        refine ⟨env4, L4, al4, T, c4, ?_⟩
        simp only at h2
        revert h2
        generalize fb env4 L4 = r2
        intro h2
        have again : ∀ {env5 : En} {L5 : LH} {σ5 : St} {H5 : Hp} {al5 : List Addr}, SPost X Wx H1 al1 T L1 (openOut lk L1 (forL g fb (ws.drop (i + 1)) env5 L5)) D → Stp X.K X.mg H4 al4 T L4 H5 al5 T L5 → Conf X.K X.mg σ5 H5 env5 L5 al5 T → W (i + 1) (ws.length - (i + 1)) σ5 H5 :=
          fun {env5 L5 σ5 H5 al5} h5 s5 c5 => ⟨rfl, hlt, env5, al5, L5, Stp.trans hl s24 s5, c5, h5⟩
        cases r2 with
        | nx env5 L5 => exact fun σ5 H5 al5 s5 c5 => again h2 s5 c5
        | ct env5 L5 => exact fun σ5 H5 al5 s5 c5 => again h2 s5 c5
        | bk env5 L5 => exact SPost.opened (r := .nx env5 L5) c1.rel s24 h2
        | rt w L5 => exact SPost.opened (r := .rt w L5) c1.rel s24 h2
        | rf o L5 => exact SPost.opened (r := .rf o L5) c1.rel s24 h2
        | exc c' f' env5 L5 => exact SPost.opened (r := .exc c' f' env5 L5) c1.rel s24 h2
        | stuck => exact h2
    · have e : i = ws.length := by omega
      subst e
      rw [List.drop_length] at h2
      exact .inl ⟨stop, (SPost.opened (r := .nx env2 L2) c1.rel s2 h2) σ2 H2 al2 (Stp.refl c2.rel) c2⟩
end
end L2.HW
namespace L2.HW
open PySem PySem.Spec PyProof.Rows
section
variable {X : Cx} {Wx : WX}
abbrev FX : WX := fun _ _ _ _ => False
def STs (X : Cx) (Wx : WX) (ifs : List Expr) (t : En → LH → Res Bool) : Prop := PTs X ifs (Rdg X Wx RB t)
def tTrue : En → LH → Res Bool := fun _ L => .ok true L
theorem sts_nil : STs X Wx [] tTrue := ⟨fun pins s σ H Q I ⟨env, L, al, T, c, h⟩ => pts_nil.run pins s σ H Q I (gok c.rel h rfl)⟩
theorem sts_one {c : Expr} {t : En → LH → Res Bool} (h : ST X Wx c t) : STs X Wx [c] t := pts_one h
def compL (g : Va → En → LH → Res En) (t : En → LH → Res Bool) (f : EF) : List Va → En → LH → Res (List Va)
  | [], _, L => .ok [] L
  | w :: ws, env, L => match g w env L with
    | .ok env1 L1 => match t env1 L1 with
      | .ok b L2 => if b then match f env1 L2 with
          | .ok u L3 => (compL g t f ws env L3).bind fun us L4 => .ok (u :: us) L4
          | _ => .stuck
        else compL g t f ws env L2
      | _ => .stuck
    | _ => .stuck
def wipeE (env : En) : List Nat → En
  | [] => env
  | v :: vs => (wipeE env vs).set v none
def fComp (s : Srcf) (g : Va → En → LH → Res En) (t : En → LH → Res Bool) (f : EF) (vs : List Nat) : En → LH → Res Ob := fun env L => (s env L).bind fun p L1 =>
  if p.1.length ≤ sizeLine then match compL g t f p.1 (wipeE env vs) (lockL p.2 L1) with
    | .ok us L2 => .ok (.lst us) (openL p.2 L1 L2)
    | _ => .stuck
  else .stuck
theorem wipeE_length (env : En) : ∀ vs, (wipeE env vs).length = env.length
  | [] => rfl
  | v :: vs => by unfold wipeE; rw [List.length_set, wipeE_length env vs]
theorem wipeE_some {env : En} {i : Nat} {x : Va} : ∀ {vs : List Nat}, (wipeE env vs)[i]? = some (some x) → env[i]? = some (some x) ∧ i ∉ vs
  | [], h => ⟨h, by simp⟩
  | v :: vs, h => by
    unfold wipeE at h
    by_cases hi : v = i
    · subst hi
      by_cases hv : v < (wipeE env vs).length
      · rw [List.getElem?_set_self hv] at h; cases h
      · rw [List.getElem?_eq_none (by simpa using hv)] at h; cases h
    · rw [List.getElem?_set_ne hi] at h
      obtain ⟨h1, h2⟩ := wipeE_some h
      exact ⟨h1, by simp only [List.mem_cons, not_or]; exact ⟨fun e => hi e.symm, h2⟩⟩
theorem wipe_out' {σ : St} {i : Nat} : ∀ {vs : List Nat}, i ∉ vs → (wipe σ vs)[i]? = σ[i]?
  | [], _ => rfl
  | v :: vs, h => by
    unfold wipe
    rw [List.getElem?_set_ne (by intro z; exact h (by simp [z]))]
    exact wipe_out' fun z => h (List.mem_cons_of_mem _ z)
theorem wipe_in {σ : St} {i : Nat} : ∀ {vs : List Nat}, i ∈ vs → i < σ.length → (wipe σ vs)[i]? = some none
  | [], h, _ => by cases h
  | v :: vs, h, hl => by
    unfold wipe
    by_cases e : v = i
    · subst e
      rw [List.getElem?_set_self (by rw [wipe_length]; exact hl)]
    · rw [List.getElem?_set_ne e]
      rcases List.mem_cons.mp h with z | z
      · exact absurd z.symm e
      · exact wipe_in z hl
theorem wipe_agr {σ σ2 : St} {vs sl : List Nat} (h : Agr sl (wipe σ vs) σ2) (hs : ∀ j ∈ sl, j ∈ vs) : wipe σ2 vs = wipe σ vs := by
  have hlen : σ2.length = σ.length := by rw [h.1, wipe_length]
  apply List.ext_getElem?
  intro j
  by_cases e : j ∈ vs
  · by_cases hj : j < σ.length
    · rw [wipe_in e (by omega), wipe_in e hj]
    · rw [List.getElem?_eq_none (by rw [wipe_length]; omega), List.getElem?_eq_none (by rw [wipe_length]; omega)]
  · rw [wipe_out' e, h.2 j fun z => e (hs j z)]
theorem Conf.wiped {K : PySem.W.Frag} {mg : Str → Option Value} {σ : St} {H : Hp} {env : En} {L : LH} {al T : List Addr} (c : Conf K mg σ H env L al T) (vs : List Nat) : Conf K mg (wipe σ vs) H (wipeE env vs) L al T :=
  ⟨c.rel, by rw [wipe_length, wipeE_length, c.len], fun i w e => by
    obtain ⟨e1, n⟩ := wipeE_some e
    obtain ⟨v, h1, h2⟩ := c.slot i w e1
    exact ⟨v, by rw [wipe_out' n]; exact h1, h2⟩⟩
theorem lc_at {wi : TI} {s : Srcf} {sl vs : List Nat} {g : Va → En → LH → Res En} {t : En → LH → Res Bool} {f : EF} {σ : St} {H : Hp} {Q : VK} {gR : TG} {tR : TT} {eR : TE} {env : En} {L : LH} {al T : List Addr} (hv : ∀ j ∈ sl, j ∈ vs) (c : Conf X.K X.mg σ H env L al T)
    (hw : ∀ R, IPost X Wx σ H al T L (s env L) R → wi σ H R)
    (hgR : ∀ v σ H Q, (∃ w env L al T, Conf X.K X.mg σ H env L al T ∧ RV X (mask H (al ++ T)) al v w ∧ TPost X sl σ H al T L (g w env L) Q) → gR v σ H Q)
    (htR : ∀ σ H Q, Rdg X FX RB t σ H Q → tR σ H Q) (heR : ∀ σ H Q, Rdg X FX (RV X) f σ H Q → eR σ H Q)
    (h : FPost X Wx σ H al T L (fComp s g t f vs env L) Q) : tLc wi gR tR eR vs σ H Q := by
  refine hw _ ?_
  unfold fComp at h
  revert h
  generalize s env L = r
  intro h
  cases r with
  | stuck => exact h
  | exc c' f L1 => exact h
  | ok p L1 =>
    obtain ⟨ws, lk⟩ := p
    intro J H1 al1 s1 wk D hD
    have c1 := c.stp s1
    simp only [Res.bind_ok] at h
    split at h
    · rename_i hz
      have hl : al1.length = (lockL lk L1).length := (c1.rel.lock lk).len
      have c1l := c1.lock lk
      -- the new list, held
      have s0 : Stp X.K X.mg H1 al1 T (lockL lk L1) (upd H1 D (.lst [])) al1 (D :: T) (lockL lk L1) := c1l.rel.allocT hD
      let W : Nat → Nat → Hp → Prop := fun i m H2 => m = ws.length - i ∧ i ≤ ws.length ∧ ∃ al2 L2 av aw, Stp X.K X.mg H1 al1 T (lockL lk L1) H2 al2 (D :: T) L2 ∧ H2 D = some (.lst av) ∧ Rps X.K X.mg (mask H2 (al2 ++ (D :: T))) al2 av aw ∧ aw.length ≤ i ∧
        FPost X Wx σ H1 al1 T L1 (match compL g t f (ws.drop i) (wipeE env vs) L2 with
          | .ok us L3 => .ok (.lst (aw ++ us)) (openL lk L1 L3)
          | _ => .stuck) Q
      have back : ∀ x, H1 x = none → H x = none := fun x z => s1.back z
      have h1 : FPost X Wx σ H1 al1 T L1 (match compL g t f ws (wipeE env vs) (lockL lk L1) with
          | .ok us L3 => .ok (.lst us) (openL lk L1 L3)
          | _ => .stuck) Q := by
        revert h
        generalize compL g t f ws (wipeE env vs) (lockL lk L1) = r2
        intro h
        cases r2 with
        | ok us L3 => exact fun a H' al' ha t q => h a H' al' (back a ha) (Stp.trans c.rel.len s1 t) q
        | exc _ _ _ => exact h.elim
        | stuck => exact h.elim
      refine ⟨W, ⟨ws.length, by simp, Nat.zero_le _, al1, lockL lk L1, [], [], s0, upd_same, .nil, Nat.le_refl _, ?_⟩, ?_⟩
      · simpa using h1
      rintro i m H2 ⟨rfl, hi, al2, L2, av, aw, s2, hav, raw, hlen, h2⟩
      obtain ⟨stop, item⟩ := wk H2 al2 (D :: T) L2 s2
      by_cases hlt : i < ws.length
      · have ew : ws[i]? = some ws[i] := List.getElem?_eq_getElem hlt
        obtain ⟨go, yl⟩ := item i _ ew
        refine .inr ⟨go, W (i + 1) (ws.length - (i + 1)), fun H' n => ⟨ws.length - (i + 1), by omega, n⟩, fun x H3 y => ?_⟩
        obtain ⟨s3, rx⟩ := yl x H3 y
        have s13 := Stp.trans hl s2 s3
        have c3 : Conf X.K X.mg (wipe σ vs) H3 (wipeE env vs) L2 al2 (D :: T) := (c1l.wiped vs).stp s13
        refine hgR _ _ _ _ ⟨ws[i], wipeE env vs, L2, al2, D :: T, c3, rx, ?_⟩
        rw [List.drop_eq_getElem_cons hlt] at h2
        unfold compL at h2
        revert h2
        generalize g ws[i] (wipeE env vs) L2 = r1
        intro h2
        cases r1 with
        | stuck => exact h2
        | exc _ _ _ => exact h2
        | ok env4 L4 =>
          intro σ4 H4 al4 s4 c4 ag
          have s14 := Stp.trans hl s13 s4
          refine ⟨wipe_agr ag hv, htR _ _ _ ⟨env4, L4, al4, D :: T, c4, ?_⟩⟩
          simp only at h2
          revert h2
          generalize t env4 L4 = r2
          intro h2
          cases r2 with
          | stuck => exact h2
          | exc _ _ _ => exact h2.elim
          | ok b L5 =>
            intro b' H5 al5 s5 e5
            obtain rfl : b' = b := e5
            have s15 := Stp.trans hl s14 s5
            have h5 : H5 D = some (.lst av) := s5.frame D _ (s4.frame D _ (s3.frame D _ hav (fun z => s2.rel.dis D z.mem List.mem_cons_self)) (fun z => s3.rel.dis D z.mem List.mem_cons_self)) (fun z => s4.rel.dis D z.mem List.mem_cons_self)
            have raw5 := s5.rps (s4.rps (s3.rps raw))
            simp only at h2
            cases b' with
            | false =>
              rw [if_neg Bool.false_ne_true] at h2 ⊢
              exact ⟨rfl, hlt, al5, L5, av, aw, s15, h5, raw5, by omega, h2⟩
            | true =>
              rw [if_pos rfl] at h2 ⊢
              have c5 := c4.stp s5
              refine heR _ _ _ ⟨env4, L5, al5, D :: T, c5, ?_⟩
              revert h2
              generalize f env4 L5 = r3
              intro h2
              cases r3 with
              | stuck => exact h2
              | exc _ _ _ => exact h2.elim
              | ok u L6 =>
                intro yv H6 al6 s6 ry
                have s16 := Stp.trans hl s15 s6
                have h6 : H6 D = some (.lst av) := s6.frame D _ h5 (fun z => s5.rel.dis D z.mem List.mem_cons_self)
                have raw6 := s6.rps raw5
                have l6 := Paired.length raw6
                refine ⟨av, h6, by omega, rfl, hlt, al6, L6, av ++ [yv], aw ++ [u], Stp.updT hD s16, upd_same, ?_, by simp; omega, ?_⟩
                · rw [mask_in (by simp)]
                  exact rps_app raw6 (.cons ry .nil)
                · simp only at h2
                  revert h2
                  generalize compL g t f (ws.drop (i + 1)) (wipeE env vs) L6 = r4
                  intro h2
                  cases r4 with
                  | stuck => exact h2
                  | exc _ _ _ => exact h2
                  | ok us L7 => simpa using h2
      · have e : i = ws.length := by omega
        subst e
        rw [List.drop_length] at h2
        unfold compL at h2
        simp only [List.append_nil] at h2
        exact .inl ⟨stop, h2 D H2 al2 hD (Stp.opened c1.rel s2) ⟨av, hav, raw⟩⟩
    · exact h.elim
theorem lc_red {wi : TI} {s : Srcf} {sl vs : List Nat} {g : Va → En → LH → Res En} {t : En → LH → Res Bool} {f : EF} {σ : St} {H : Hp} {Q : VK} {gR : TG} {tR : TT} {eR : TE} (hv : ∀ j ∈ sl, j ∈ vs)
    (hw : ∀ σ H R, (∃ env L al T, Conf X.K X.mg σ H env L al T ∧ IPost X Wx σ H al T L (s env L) R) → wi σ H R)
    (hgR : ∀ v σ H Q, (∃ w env L al T, Conf X.K X.mg σ H env L al T ∧ RV X (mask H (al ++ T)) al v w ∧ TPost X sl σ H al T L (g w env L) Q) → gR v σ H Q)
    (htR : ∀ σ H Q, Rdg X FX RB t σ H Q → tR σ H Q) (heR : ∀ σ H Q, Rdg X FX (RV X) f σ H Q → eR σ H Q)
    (h : FRdg X Wx (fComp s g t f vs) σ H Q) : tLc wi gR tR eR vs σ H Q := by
  obtain ⟨env, L, al, T, c, h⟩ := h
  exact lc_at hv c (fun R q => hw _ _ _ ⟨env, L, al, T, c, q⟩) hgR htR heR h
abbrev gRd (X : Cx) (sl : List Nat) (g : Va → En → LH → Res En) : TG := fun v σ H Q => ∃ w env L al T, Conf X.K X.mg σ H env L al T ∧ RV X (mask H (al ++ T)) al v w ∧ TPost X sl σ H al T L (g w env L) Q
abbrev BlkP (X : Cx) (scope : Scope) (P : Cx → Prop) : Prop := ∀ (s : Shared) (H : Hp) (C : Addr) (cl : List (Str × Addr)) (fp : List Addr), P (X.blk s H scope (compEnvC scope cl C X.env) fp)
theorem sf_comp {elt tg iter : Expr} {ifs : List Expr} {scope : Scope} {own : List (Str × Nat)} {pos : Pos} {s : Srcf} {sl : List Nat} {g : Va → En → LH → Res En} {t : En → LH → Res Bool} {f : EF} (hc : X.calm = true) (hN : X.N.Nodup) (hi : SI X Wx tg iter s) (ok : BlkOk X.N X.env.scope scope own)
    (hv : ∀ j ∈ sl, j ∈ own.map (·.2)) (hg : BlkP X scope fun X => SG X sl tg g) (ht : BlkP X scope fun X => STs X FX ifs t) (he : BlkP X scope fun X => SE X FX elt f) (hs : ∀ x, foldedSetIterable iter X.env x = pure x := by intro _; rfl) :
    SF X Wx (.ListComp elt [⟨tg, iter, ifs, 0⟩] scope pos) (fComp s g t f (own.map (·.2))) :=
  PE.imp (pe_lc (g := gRd X sl g) (tt := Rdg X FX RB t) (te := Rdg X FX (RV X) f) hc hN hi ok (fun s H C cl fp => hg s H C cl fp) (fun s H C cl fp => ht s H C cl fp) (fun s H C cl fp => he s H C cl fp) hs) fun σ H Q h => lc_red hv (fun _ _ _ h => h) (fun _ _ _ _ h => h) (fun _ _ _ h => h) (fun _ _ _ h => h) h
theorem ss_setComp {i : Nat} {y : Str} {py : Pos} {elt tg iter : Expr} {ifs : List Expr} {scope : Scope} {own : List (Str × Nat)} {pos spos : Pos} {s : Srcf} {sl : List Nat} {g : Va → En → LH → Res En} {t : En → LH → Res Bool} {f : EF} (hc : X.calm = true) (hN : X.N.Nodup) (hy : X.N[i]? = some y) (hyl : X.env.scope.names.lookup y = some .local)
    (hsw : swapsWith (.ListComp elt [⟨tg, iter, ifs, 0⟩] scope pos) (some (.Name y py)) spos.line X.env = pure true) (hi : SI X Wx tg iter s) (ok : BlkOk X.N X.env.scope scope own)
    (hv : ∀ j ∈ sl, j ∈ own.map (·.2)) (hg : BlkP X scope fun X => SG X sl tg g) (ht : BlkP X scope fun X => STs X FX ifs t) (he : BlkP X scope fun X => SE X FX elt f) (hs : ∀ x, foldedSetIterable iter X.env x = pure x := by intro _; rfl) :
    SS X Wx (.Assign [.Name y py] (.ListComp elt [⟨tg, iter, ifs, 0⟩] scope pos) spos) (sSet i (eDat (fComp s g t f (own.map (·.2))))) := by
  refine PS.imp (ps_setLc (g := gRd X sl g) (tt := Rdg X FX RB t) (te := Rdg X FX (RV X) f) hc hN hy hyl hsw hi ok (fun s H C cl fp => hg s H C cl fp) (fun s H C cl fp => ht s H C cl fp) (fun s H C cl fp => he s H C cl fp) hs) ?_
  rintro D σ H ⟨env, L, al, T, c, h⟩
  refine lc_red hv (fun _ _ _ h => h) (fun _ _ _ _ h => h) (fun _ _ _ h => h) (fun _ _ _ h => h) ⟨env, L, al, T, c, ?_⟩
  unfold sSet eDat at h
  revert h
  generalize fComp s g t f (own.map (·.2)) env L = r
  intro h
  cases r with
  | stuck => exact h
  | exc c' f' L1 => exact fun cls d H' al' s e => h cls d σ H' al' s (c.stp s) e
  | ok o L1 =>
    intro a H' al' ha st ob
    simp only [Res.bind_ok] at h
    cases e : o.va with
    | none => rw [e] at h; exact h.elim
    | some w =>
      rw [e] at h
      have r := st.rel
      have na : a ∉ al' ++ T := fun z => by
        rcases List.mem_append.mp z with z | z
        · exact r.dis a z List.mem_cons_self
        · exact (c.rel.fresh ha).2 z
      have m : Le (mask H' (al' ++ (a :: T))) (mask H' (al' ++ T)) := fun b u e => by
        obtain ⟨n, e⟩ := of_mask e
        exact mask_of (fun z => n (by simp only [List.mem_append, List.mem_cons] at z ⊢; exact z.imp id .inr)) e
      have st' := Stp.drop (te := [a]) (fun b hb => by have : b = a := by simpa using hb
                                                       rw [this]; exact ha) st
      exact h _ H' al' st' ((c.stp st').put (va_ok na m ob e))
end
end L2.HW
namespace L2.HW
open PySem PySem.Spec PyProof.Rows
abbrev Fn := List Va → LH → Res Va
mutual
/-- no cell from n0 on -/
def Va.low (n0 : Nat) : Va → Bool
  | .loc n => decide (n < n0)
  | .tup ws => lows n0 ws
  | .d _ => true
  | .dct _ => true
  | .exc _ _ => true
  | .scr _ => true
def lows (n0 : Nat) : List Va → Bool
  | [] => true
  | w :: r => w.low n0 && lows n0 r
end
def Ob.low (n0 : Nat) : Ob → Bool
  | .lst ws => lows n0 ws
  | .di kvs => kvs.all fun p => p.2.low n0
  | .dt kvs => kvs.all fun p => p.2.low n0
  | .ins _ fs => fs.all fun p => p.2.low n0
@[simp] theorem low_d (n0 : Nat) (x : PyData) : (Va.d x).low n0 = true := by simp [Va.low]
@[simp] theorem lows_d (n0 : Nat) : ∀ (xs : List PyData), lows n0 (xs.map Va.d) = true
  | [] => by simp [lows]
  | x :: xs => by simp [lows, lows_d n0 xs]
section
variable {K : PySem.W.Frag} {mg : Str → Option Value}
mutual
theorem rp_low {M : Hp} {al : List Addr} : ∀ {v : V} {w : Va}, Rp K mg M al v w → w.low al.length = true
  | _, _, .d q => by simp
  | _, _, .loc e => by simpa [Va.low] using (List.getElem?_eq_some_iff.mp e).1
  | _, _, .scr q => by simp [Va.low]
  | _, _, .tup q r => by simpa [Va.low] using rps_low r
  | _, _, .dct e q => by simp [Va.low]
  | _, _, .exc e q => by simp [Va.low]
theorem rps_low {M : Hp} {al : List Addr} : ∀ {v : List V} {w : List Va}, Rps K mg M al v w → lows al.length w = true
  | _, _, .nil => by simp [lows]
  | _, _, .cons a b => by simp [lows, rp_low a, rps_low b]
end
mutual
theorem low_rp {M M' : Hp} {al be : List Addr} (h : Le M M') : ∀ {v : V} {w : Va}, Rp K mg M (al ++ be) v w → w.low al.length = true → Rp K mg M' al v w
  | _, _, .d q, _ => .d (Dq.le h q)
  | _, _, .loc (n := n) e, l => by
    have l : n < al.length := by simpa [Va.low] using l
    exact .loc (by rw [List.getElem?_append_left l] at e; exact e)
  | _, _, .scr q, _ => .scr (SqL.le h q)
  | _, _, .tup q r, l => .tup (h _ _ q) (low_rps h r (by simpa [Va.low] using l))
  | _, _, .dct e q, _ => .dct (h _ _ e) (KDp.le h q)
  | _, _, .exc e q, _ => .exc (h _ _ e) (ExR.le h q)
theorem low_rps {M M' : Hp} {al be : List Addr} (h : Le M M') : ∀ {v : List V} {w : List Va}, Rps K mg M (al ++ be) v w → lows al.length w = true → Rps K mg M' al v w
  | _, _, .nil, _ => .nil
  | _, _, .cons (b := w) (l₂ := ws) a b, l => by
    have l : w.low al.length = true ∧ lows al.length ws = true := by simpa [lows] using l
    exact .cons (low_rp h a l.1) (low_rps h b l.2)
end
theorem pall {α β : Type} {F : α → β → Prop} {p : β → Bool} (h : ∀ a b, F a b → p b = true) : ∀ {xs : List α} {ys : List β}, Paired F xs ys → ys.all p = true
  | _, _, .nil => rfl
  | _, _, .cons a b => by simp only [List.all_cons, Bool.and_eq_true]; exact ⟨h _ _ a, pall h b⟩
theorem pmapall {α β : Type} {F G : α → β → Prop} {p : β → Bool} (h : ∀ a b, F a b → p b = true → G a b) : ∀ {xs : List α} {ys : List β}, Paired F xs ys → ys.all p = true → Paired G xs ys
  | _, _, .nil, _ => .nil
  | _, _, .cons a b, l => by
    simp only [List.all_cons, Bool.and_eq_true] at l
    exact .cons (h _ _ a l.1) (pmapall h b l.2)
theorem ob_low {M H : Hp} {al : List Addr} {a : Addr} : ∀ {o : Ob}, ObR K mg M al H a o → o.low al.length = true
  | .lst ws, ⟨vs, e, r⟩ => rps_low r
  | .di kvs, ⟨ks, e, r⟩ => pall (fun _ _ q => rp_low q.2) r
  | .dt kvs, ⟨ks, e, r⟩ => pall (fun _ _ q => rp_low q.2) r
  | .ins c fs, ⟨C, dx, ks, e1, e2, r⟩ => pall (fun _ _ q => rp_low q.2) r
theorem low_ob {M M' H : Hp} {al be : List Addr} (h : Le M M') {a : Addr} : ∀ {o : Ob}, ObR K mg M (al ++ be) H a o → o.low al.length = true → ObR K mg M' al H a o
  | .lst ws, ⟨vs, e, r⟩, l => ⟨vs, e, low_rps h r l⟩
  | .di kvs, ⟨ks, e, r⟩, l => ⟨ks, e, pmapall (fun _ _ q n => ⟨q.1, low_rp h q.2 n⟩) r l⟩
  | .dt kvs, ⟨ks, e, r⟩, l => ⟨ks, e, pmapall (fun _ _ q n => ⟨q.1, low_rp h q.2 n⟩) r l⟩
  | .ins c fs, ⟨C, dx, ks, e1, e2, r⟩, l => ⟨C, dx, ks, e1, e2, pmapall (fun _ _ q n => ⟨q.1, low_rp h q.2 n⟩) r l⟩
end
def Kept (L L' : LH) : Prop := ∀ n, n < L.length → L'[n]? = L[n]? ∨ ∃ o, L'[n]? = some (some o) ∧ o.low L.length = true
theorem kept_app (L g : LH) : Kept L (L ++ g) := fun n h => .inl (List.getElem?_append_left h)
@[simp] theorem kept_app' (L g : LH) : Kept L (L ++ g) ↔ True := iff_true_intro (kept_app L g)
@[simp] theorem kept_self (L : LH) : Kept L L ↔ True := iff_true_intro fun n h => .inl rfl
def mapO {α β : Type} (f : α → Option β) : List α → Option (List β)
  | [] => some []
  | a :: r => match f a with
    | some b => match mapO f r with
      | some bs => some (b :: bs)
      | none => none
    | none => none
def settle (L : LH) (n0 : Nat) : Nat → Va → Option Va
  | 0, w => match w with
    | .d x => some (.d x)
    | _ => none
  | k + 1, w => match w with
    | .d x => some (.d x)
    | .loc n => if n < n0 then some (.loc n) else match L[n]? with
      | some (some (.lst ws)) => match mapO (settle L n0 k) ws with
        | some us => (datas us).map fun xs => .d (.list xs)
        | none => none
      | some (some (.di kvs)) => match mapO (fun p : Int × Va => match settle L n0 k p.2 with
            | some (.d x) => some (p.1, x)
            | _ => none) kvs with
        | some ks => some (.dct ks)
        | none => none
      | _ => none
    | .tup ws => match mapO (settle L n0 k) ws with
      | some us => some (mkTup us)
      | none => none
    | w => some w
def settleO (L : LH) (n0 : Nat) (k : Nat) : Ob → Option Va
  | .lst ws => match mapO (settle L n0 k) ws with
    | some us => (datas us).map fun xs => .d (.list xs)
    | none => none
  | .di kvs => match mapO (fun p : Int × Va => match settle L n0 k p.2 with
        | some (.d x) => some (p.1, x)
        | _ => none) kvs with
    | some ks => some (.dct ks)
    | none => none
  | _ => none
theorem settle_loc (L : LH) (n0 k n : Nat) : settle L n0 (k + 1) (.loc n) = if n < n0 then some (.loc n) else match L[n]? with
    | some (some o) => settleO L n0 k o
    | _ => none := by
  conv => lhs; unfold settle
  by_cases h : n < n0
  · simp [h]
  · simp only [h, if_false]
    cases e : L[n]? with
    | none => rfl
    | some o =>
      cases o with
      | none => rfl
      | some o => cases o <;> rfl
@[simp] theorem settle_d (L : LH) (n0 k : Nat) (x : PyData) : settle L n0 k (.d x) = some (.d x) := by cases k <;> rfl
theorem mapO_settle_d (L : LH) (n0 k : Nat) : ∀ xs : List PyData, mapO (settle L n0 k) (xs.map Va.d) = some (xs.map Va.d)
  | [] => rfl
  | x :: xs => by simp [mapO, mapO_settle_d L n0 k xs]
@[simp] theorem settleO_d (L : LH) (n0 k : Nat) (xs : List PyData) : settleO L n0 k (.lst (xs.map Va.d)) = some (.d (.list xs)) := by simp [settleO, mapO_settle_d]
section
variable {K : PySem.W.Frag} {mg : Str → Option Value} {H H' : Hp} {al al' T be : List Addr} {L L' : LH}
theorem mapO_rps {M M' : Hp} {f : Va → Option Va} {al al' : List Addr} (hf : ∀ v w u, Rp K mg M al v w → f w = some u → Rp K mg M' al' v u) : ∀ {vs : List V} {ws us : List Va}, Rps K mg M al vs ws → mapO f ws = some us → Rps K mg M' al' vs us
  | _, _, us, .nil, e => by cases e; exact .nil
  | _, _, us, .cons (b := w) (l₂ := ws) a b, e => by
    unfold mapO at e
    split at e
    · rename_i u e1
      split at e
      · rename_i us' e2
        cases e
        exact .cons (hf _ _ _ a e1) (mapO_rps hf b e2)
      · cases e
    · cases e
theorem mask_more (H : Hp) (al be T : List Addr) : Le (mask H ((al ++ be) ++ T)) (mask H (al ++ T)) := fun b o e => by
  obtain ⟨n, e⟩ := of_mask e
  refine mask_of (fun z => n ?_) e
  simp only [List.mem_append] at z ⊢
  rcases z with z | z
  · exact .inl (.inl z)
  · exact .inr z
theorem settle_ok {L0 : LH} (r0 : al.length = L0.length) (r : Rel K mg H' (al ++ be) T L') : ∀ (k : Nat), (∀ (v : V) (w u : Va), Rp K mg (mask H' ((al ++ be) ++ T)) (al ++ be) v w → settle L' L0.length k w = some u → Rp K mg (mask H' (al ++ T)) al v u) ∧
    (∀ (a : Addr) (o : Ob) (u : Va), a ∉ al → a ∉ T → ObR K mg (mask H' ((al ++ be) ++ T)) (al ++ be) H' a o → settleO L' L0.length k o = some u → Rp K mg (mask H' (al ++ T)) al (.ref a) u) := by
  have m := mask_more H' al be T
  have hO : ∀ k, (∀ (v : V) (w u : Va), Rp K mg (mask H' ((al ++ be) ++ T)) (al ++ be) v w → settle L' L0.length k w = some u → Rp K mg (mask H' (al ++ T)) al v u) →
      (∀ (a : Addr) (o : Ob) (u : Va), a ∉ al → a ∉ T → ObR K mg (mask H' ((al ++ be) ++ T)) (al ++ be) H' a o → settleO L' L0.length k o = some u → Rp K mg (mask H' (al ++ T)) al (.ref a) u) := by
    intro k ih a o u na nT q e
    have hn : a ∉ al ++ T := by simp [na, nT]
    cases o with
    | lst ws =>
      obtain ⟨vs, h1, h2⟩ := q
      simp only [settleO] at e
      split at e
      · rename_i us e1
        cases e5 : datas us with
        | none => rw [e5] at e; cases e
        | some xs =>
          rw [e5] at e
          cases e
          have h3 := mapO_rps ih h2 e1
          rw [datas_eq e5] at h3
          exact .d (.lst (mask_of hn h1) (dq_all h3))
      · cases e
    | di kvs =>
      obtain ⟨ks, h1, h2⟩ := q
      simp only [settleO] at e
      split at e
      · rename_i us e1
        cases e
        refine .dct (mask_of hn h1) ?_
        have go : ∀ {ks : List (Key × V)} {kvs : List (Int × Va)} {us : List (Int × PyData)}, KRp K mg (mask H' ((al ++ be) ++ T)) (al ++ be) ks kvs → mapO (fun p : Int × Va => match settle L' L0.length k p.2 with
            | some (.d x) => some (p.1, x)
            | _ => none) kvs = some us → KDp (mask H' (al ++ T)) ks us := by
          intro ks kvs us h
          induction h generalizing us with
          | nil => intro e; cases e; exact .nil
          | @cons p q ps qs h1 _ ih2 =>
            intro e
            unfold mapO at e
            split at e
            · rename_i b e2
              split at e
              · rename_i bs e3
                cases e
                split at e2
                · rename_i x e4
                  cases e2
                  have h5 := ih _ _ _ h1.2 e4
                  exact .cons ⟨h1.1, rp_d h5⟩ (ih2 e3)
                · cases e2
              · cases e
            · cases e
        exact go h2 e1
      · cases e
    | dt _ => cases e
    | ins _ _ => cases e
  intro k
  induction k with
  | zero =>
    have h0 : ∀ (v : V) (w u : Va), Rp K mg (mask H' ((al ++ be) ++ T)) (al ++ be) v w → settle L' L0.length 0 w = some u → Rp K mg (mask H' (al ++ T)) al v u := by
      intro v w u q e
      cases q with
      | d q => cases e; exact .d (Dq.le m q)
      | loc _ => cases e
      | tup _ _ => cases e
      | dct _ _ => cases e
      | exc _ _ => cases e
      | scr _ => cases e
    exact ⟨h0, hO 0 h0⟩
  | succ k ih =>
    have h0 : ∀ (v : V) (w u : Va), Rp K mg (mask H' ((al ++ be) ++ T)) (al ++ be) v w → settle L' L0.length (k + 1) w = some u → Rp K mg (mask H' (al ++ T)) al v u := by
      intro v w u q e
      cases q with
      | d q => cases e; exact .d (Dq.le m q)
      | @loc n a e1 =>
        rw [settle_loc] at e
        split at e
        · rename_i hlt
          cases e
          exact .loc (by rw [List.getElem?_append_left (by omega)] at e1; exact e1)
        · rename_i hlt
          split at e
          · rename_i o e2
            obtain ⟨b, e3, q3⟩ := r.cell n o e2
            rw [e1] at e3; cases e3
            have ha : a ∈ be := by
              rw [List.getElem?_append_right (by omega)] at e1
              exact List.mem_of_getElem? e1
            have na : a ∉ al := fun z => (List.nodup_append.mp r.nd).2.2 a z a ha rfl
            exact ih.2 a o u na (r.dis a (List.mem_append_right _ ha)) q3 e
          · cases e
      | tup e1 e2 =>
        simp only [settle] at e
        split at e
        · rename_i us e3
          cases e
          exact rp_mkTup (m _ _ e1) (mapO_rps ih.1 e2 e3)
        · cases e
      | dct e1 e2 => cases e; exact .dct (m _ _ e1) (KDp.le m e2)
      | exc e1 e2 => cases e; exact .exc (m _ _ e1) (ExR.le m e2)
      | scr e1 => cases e; exact .scr (SqL.le m e1)
    exact ⟨h0, hO (k + 1) h0⟩
theorem exitS (r0 : Rel K mg H al T L) (s : Stp K mg H al T L H' al' T L') (hk : Kept L L') : Stp K mg H al T L H' al T (L'.take L.length) := by
  obtain ⟨be, e, f⟩ := s.ext
  subst e
  have r := s.rel
  have hl : L.length ≤ L'.length := by have := r.len; have := r0.len; simp at *; omega
  have tk : ∀ n, n < L.length → (L'.take L.length)[n]? = L'[n]? := fun n hn => by rw [List.getElem?_take_of_lt hn]
  refine ⟨⟨by rw [List.length_take, r0.len]; omega, r0.nd, r0.dis, fun a h => r.trk a (h.imp (List.mem_append_left _) id), fun n o en => ?_⟩, ⟨[], by simp, fun _ z => nomatch z⟩, ⟨[], by simp, fun _ z => nomatch z⟩, s.frame, s.stay, fun n en => ?_, fun n o en => ?_⟩
  · have hn : n < L.length := by
      have := (List.getElem?_eq_some_iff.mp en).1
      rw [List.length_take] at this; omega
    rw [tk n hn] at en
    obtain ⟨a, e1, q⟩ := r.cell n o en
    have e1' : al[n]? = some a := by rw [List.getElem?_append_left (by rw [r0.len]; exact hn)] at e1; exact e1
    have lo : o.low al.length = true := by
      rcases hk n hn with z | ⟨o', z, l⟩
      · rw [en] at z
        obtain ⟨b, e2, q2⟩ := r0.cell n o z.symm
        exact ob_low q2
      · rw [en] at z
        cases z
        rw [r0.len]; exact l
    exact ⟨a, e1', low_ob (mask_more H' al be T) q lo⟩
  · rw [tk n (List.getElem?_eq_some_iff.mp en).1]; exact s.lck n en
  · rw [tk n (List.getElem?_eq_some_iff.mp en).1]; exact s.alv n o en
end
open Classical in
noncomputable def outV (L L' : LH) : Option Va → Res Va
  | some w => if Kept L L' then .ok w (L'.take L.length) else .stuck
  | none => .stuck
open Classical in
noncomputable def mkFn (np nl : Nat) (body : SFn) : Fn := fun ws L => if ws.length = np then match body (ws.map some ++ List.replicate (nl - ws.length) none) L with
    | .nx _ L' => outV L L' (some (.d .none))
    | .rt w L' => outV L L' (settle L' L.length 9 w)
    | .rf o L' => outV L L' (settleO L' L.length 9 o)
    | .exc c f _ L' => if Kept L L' then .exc c f (L'.take L.length) else .stuck
    | _ => .stuck
  else .stuck
def NP (np : Nat) (F : Fn) : Prop := ∀ ws L, ws.length ≠ np → F ws L = .stuck
theorem np_mk {np nl : Nat} {body : SFn} : NP np (mkFn np nl body) := fun ws L h => by unfold mkFn; rw [if_neg h]
def noF : Fn := fun _ _ => .stuck
theorem np_no {np : Nat} : NP np noF := fun _ _ _ => rfl
def NPost (K : PySem.W.Frag) (mg : Str → Option Value) (H : Hp) (al T : List Addr) (L : LH) (r : Res Va) (Q : VK) (E : XK) : Prop := match r with
  | .ok w L' => ∀ v H' al', Stp K mg H al T L H' al' T L' → Rp K mg (mask H' (al' ++ T)) al' v w → Q v H'
  | .exc c f L' => ∀ cls d H' al', Stp K mg H al T L H' al' T L' → ExR mg (mask H' (al' ++ T)) c f cls d → E cls d H'
  | .stuck => False
def spOf (K : PySem.W.Frag) (mg : Str → Option Value) (np : Nat) (F : Fn) : Sp := fun vs H Q E => vs.length = np ∧ ∃ ws al T L, Rel K mg H al T L ∧ Rps K mg (mask H (al ++ T)) al vs ws ∧ NPost K mg H al T L (F ws L) Q E
theorem conf_start {K : PySem.W.Frag} {mg : Str → Option Value} {N : List Str} {H : Hp} {al T : List Addr} {L : LH} {vs : List V} {ws : List Va} (r : Rel K mg H al T L) (rs : Rps K mg (mask H (al ++ T)) al vs ws) (hl : vs.length ≤ N.length) :
    Conf K mg (L2.start N vs) H (ws.map some ++ List.replicate (N.length - ws.length) none) L al T := by
  have e := Paired.length rs
  refine ⟨r, ?_, fun i w h => ?_⟩
  · unfold L2.start
    simp only [List.length_append, List.length_map, List.length_replicate]
    omega
  · have hi : i < ws.length := by
      by_cases hi : i < ws.length
      · exact hi
      · rw [List.getElem?_append_right (by simpa using hi), List.getElem?_replicate] at h
        split at h <;> cases h
    rw [List.getElem?_append_left (by simpa using hi), List.getElem?_map] at h
    cases e2 : ws[i]? with
    | none => rw [e2] at h; cases h
    | some u =>
      rw [e2] at h
      cases h
      have go : ∀ {vs : List V} {ws : List Va} {i : Nat}, Rps K mg (mask H (al ++ T)) al vs ws → ws[i]? = some w → ∃ v, vs[i]? = some v ∧ Rp K mg (mask H (al ++ T)) al v w := by
        intro vs ws i h
        induction h generalizing i with
        | nil => intro e; simp at e
        | @cons v u vs us a b ih =>
          intro e
          cases i with
          | zero => simp at e; subst e; exact ⟨v, rfl, a⟩
          | succ i => exact ih (by simpa using e)
      obtain ⟨v, h1, h2⟩ := go rs e2
      refine ⟨v, ?_, h2⟩
      unfold L2.start
      rw [List.getElem?_append_left (by simpa using (List.getElem?_eq_some_iff.mp h1).1), List.getElem?_map, h1]
      rfl
structure FnG (P : Program) (w : World) (K : PySem.W.Frag) (mg : Str → Option Value) (base : Heap) (CX : CXT) (k : Nat) (f : Addr) (fd : FuncData) (ps : List Str) (sp : Sp) : Prop where
  ln : ∀ us H Q E, sp us H Q E → us.length = ps.length
  go : ∀ (A : Around) (out : List Env) (s : Shared) (H : Hp) (ar : Args) (us : List Value) (vs : List V) (Q : VK) (E : XK), A.guards = some [] → Room k A →
    Env0 P w K mg base A out s H → BindsTo s fd ar (ps.zip us) → Vals vs us → sp vs H Q E → codeAny (model P w) A (.call (.ref f) ar) (CR CX out P w H s Q E) s
theorem FnG.more {P : Program} {w : World} {K : PySem.W.Frag} {mg : Str → Option Value} {base : Heap} {CX : CXT} {i k : Nat} {f : Addr} {fd : FuncData} {ps : List Str} {sp : Sp}
    (F : FnG P w K mg base CX i f fd ps sp) (h : i ≤ k) : FnG P w K mg base CX k f fd ps sp :=
  ⟨F.ln, fun A out s H ar us vs Q E hg hr => F.go A out s H ar us vs Q E hg (hr.mono h)⟩
theorem fnG_of {CX : CXT} {P : Program} {w : World} {K : PySem.W.Frag} {mg : Str → Option Value} {base : Heap} {k : Nat} {f : Addr} {nm qual : Str} {pars : Arguments} {body : List Stmt} {sc : Scope}
    {dvs : List V} {kws : List (Str × V)} {fd : FuncData} {N ps : List Str} {sp : Sp} (F : FunD K nm qual pars body sc dvs kws f fd) (S : FnScope N ps sc)
    (ln : ∀ us H Q E, sp us H Q E → us.length = ps.length)
    (hb : ∀ (cd : Value) (A : Around) (out : List Env) (s : Shared) (H : Hp) (vs : List V) (Q : VK) (E : XK), A.guards = some [] → Room k (A.deeper (envOfC qual sc s.heap.objs.size f cd)) → sp vs H Q E →
      ∃ t, PSs (cxOf CX P w K mg base N qual sc f cd A out s H E) body t ∧ t { nx := fun _ H1 => Q .non H1, rt := Q } (L2.start N vs) H) :
    FnG P w K mg base CX (k + 1) f fd ps sp := by
  obtain ⟨oc, od, dV, kV, doc, pm, an, cd, ct, osl, rfl, lk, hcode, _, _⟩ := F.ex
  refine ⟨ln, ?_⟩
  intro A out s H ar us vs Q E hg hr en bt rv hsp
  have kin : K.In s.heap := en.mod.kin.keeps fun b o z => (en.bs b o z).1
  have nl : s.heap.NoLimit := en.mod.nolimit.keeps fun b o z => (en.bs b o z).1
  have hk : ∀ z ∈ ps.zip us, sc.names.lookup z.1 = some .local ∨ (sc.names.lookup z.1 = some .cell ∧ ((cellsFrom (s.heap.objs.size + 1) sc.names []).lookup z.1).isSome = true) := by
    rintro ⟨n, v⟩ hz
    exact (S.par n (List.of_mem_zip hz).1).imp id fun q => ⟨q, PySem.W.cellsFrom_some _ _ _ (.inl q)⟩
  refine codeAny_call_function hr.depth (kin _ _ lk) rfl S.co S.gen rfl (PySem.W.codeRec_of kin hcode) (bt _ _ _ _ ?_)
  refine wpAny_newFunctionEnv_cells S.kind hk fun env ee s1 fresh => ?_
  subst ee
  refine ⟨nl.keeps fresh.toInCall.keep, codeAny_func ?_⟩
  obtain ⟨t, run, start⟩ := hb cd A out s H vs Q E hg (hr.deeper _) hsp
  have inv := inv_start (E := E) (CX := CX) S hr.hd en (ln _ _ _ _ hsp) rv fresh
  refine wpAny_mono (run.run [] s1 (L2.start N vs) H _ inv start) (fun fl s2 z => ?_) fun _ _ z => z
  match fl, z with
  | .ret u, ⟨v, σ2, H2, J, r2, q⟩ => exact ⟨v, H2, J.os, J.bare, J.base, J.hok, r2, q⟩
  | .next, ⟨σ2, H2, J, q⟩ => exact ⟨.non, H2, J.os, J.bare, J.base, J.hok, rfl, q⟩
  | .brk, ⟨_, _, _, q⟩ => exact q.elim
  | .cont, ⟨_, _, _, q⟩ => exact q.elim
theorem run_fnG {X : Cx} {CX : CXT} {k : Nat} {f : Addr} {fd : FuncData} {ps : List Str} {sp : Sp} {E : St → XK} {pins : List (Addr × Obj)} {σ : St} {H : Hp} {s : Shared} {Q : VK} {us : List Value} {vs : List V}
    (F : FnG X.prog X.w X.K X.mg X.base CX k f fd ps sp) (hg : X.A.guards = some []) (hr : Room k X.A) (hb : Binds X.K fd ps []) (hx : PassesAt CX X σ (E σ)) (I : Inv X pins σ H s) (rv : Vals vs us) (h : sp vs H Q (E σ)) :
    wpAny (model X.prog X.w) X.A (call (.ref f) us) (EP X pins σ Q) X.xe s := by
  have bt : BindsTo s fd ⟨us, []⟩ (ps.zip us) := by
    have z := hb s us I.kIn (by rw [List.append_nil, ← rv.length]; exact F.ln _ _ _ _ h)
    rwa [List.append_nil] at z
  refine wpAny_call (codeAny_mono (F.go X.A X.stack s H ⟨us, []⟩ us vs Q (E σ) hg hr I.env0 bt rv h) ?_)
  intro r s2 z
  match r, z with
  | .error e, z => exact hx pins H s e s2 I z
  | .ok (.ret u), z => exact I.after z
  | .ok .next, z => exact z.elim
  | .ok .brk, z => exact z.elim
  | .ok .cont, z => exact z.elim
section
variable {P : Program} {w : World} {K : PySem.W.Frag} {mg : Str → Option Value} {base : Heap} {x qual : Str} {params : Arguments} {body : List Stmt} {scope : Scope} {dvs : List V} {kws : List (Str × V)} {f : Addr} {fd : FuncData}
abbrev WxE (E : XK) : WX := fun cls d _ H => E cls d H
theorem body_end {K : PySem.W.Frag} {mg : Str → Option Value} {H : Hp} {al T : List Addr} {L : LH} {X : Cx} (hK : X.K = K) (hmg : X.mg = mg) {Q : VK} {E : XK} {np nl : Nat} {bf : SFn} {ws : List Va} (r0 : Rel K mg H al T L) (hl : ws.length = np)
    (h : NPost K mg H al T L (mkFn np nl bf ws L) Q E) : SPost X (WxE E) H al T L (bf (ws.map some ++ List.replicate (nl - ws.length) none) L) { nx := fun _ H' => Q .non H', rt := Q } := by
  subst hK hmg
  unfold mkFn at h
  rw [if_pos hl] at h
  revert h
  generalize bf (ws.map some ++ List.replicate (nl - ws.length) none) L = r
  intro h
  have one : ∀ (o : Option Va) (L' : LH) (v : V) (H' : Hp) (al' : List Addr), NPost X.K X.mg H al T L (outV L L' o) Q E → Stp X.K X.mg H al T L H' al' T L' → (∀ u be, al' = al ++ be → o = some u → Rp X.K X.mg (mask H' (al ++ T)) al v u) → Q v H' := by
    intro o L' v H' al' h s k
    cases o with
    | none => exact h.elim
    | some u =>
      simp only [outV] at h
      split at h
      · rename_i hk
        obtain ⟨be, e, _⟩ := s.ext
        exact h v H' al (exitS r0 s hk) (k u be e rfl)
      · exact h.elim
  cases r with
  | nx env' L' => exact fun σ' H' al' s c => one _ L' .non H' al' h s fun u be e eu => by cases eu; exact .d .non
  | rt u L' =>
      intro v H' al' s q
      refine one _ L' v H' al' h s fun u' be e eu => ?_
      subst e
      exact (settle_ok r0.len s.rel 9).1 v u u' q eu
  | rf o L' =>
      intro a H' al' ha s q
      have s' := Stp.drop (te := [a]) (fun b hb => by have : b = a := by simpa using hb
                                                      rw [this]; exact ha) s
      refine one _ L' (.ref a) H' al' h s' fun u' be e eu => ?_
      subst e
      have n := r0.fresh ha
      refine (settle_ok r0.len s'.rel 9).2 a o u' n.1 n.2 ?_ eu
      have m : Le (mask H' ((al ++ be) ++ (a :: T))) (mask H' ((al ++ be) ++ T)) := fun b u e => by
        obtain ⟨n, e⟩ := of_mask e
        exact mask_of (fun z => n (by simp only [List.mem_append, List.mem_cons] at z ⊢; exact z.imp id .inr)) e
      exact ObR.le m (ALe.refl _) (fun _ z => z) q
  | bk _ _ => exact h.elim
  | ct _ _ => exact h.elim
  | exc c f env' L' =>
    intro cls d σ' H' al' s _ q
    simp only at h
    split at h
    · rename_i hk
      obtain ⟨be, e, _⟩ := s.ext
      subst e
      exact h cls d H' al (exitS r0 s hk) (ExR.le (mask_more H' al be T) q)
    · exact h.elim
  | stuck => exact h.elim
theorem fn_body (F : FunD K x qual params body scope dvs kws f fd) {N ps : List Str} {k np nl : Nat} {bf : SFn} (S : FnScope N ps scope) (hnp : ps.length = np) (hnl : N.length = nl) (hle : np ≤ nl)
    (hb : ∀ (cdv : Value) (A : Around) (outer : List Env) (s : Shared) (H : Hp) (E : XK), A.guards = some [] → Room k (A.deeper (envOfC qual scope s.heap.objs.size f cdv)) → SB (cxOf (L2.CX P w) P w K mg base N qual scope f cdv A outer s H E) (WxE E) body bf) :
    FnG P w K mg base (L2.CX P w) (k + 1) f fd ps (spOf K mg np (mkFn np nl bf)) := by
  refine fnG_of F S (fun vs H Q E h => by rw [h.1, hnp]) (fun cdv A outer s H vs Q E hg hr h => ⟨_, hb cdv A outer s H E hg hr, ?_⟩)
  obtain ⟨hl, ws, al, T, L, r, rs, h⟩ := h
  have e := Paired.length rs
  subst hnl
  refine ⟨_, L, al, T, conf_start r rs (by omega), ?_⟩
  exact body_end (X := cxOf (L2.CX P w) P w K mg base N qual scope f cdv A outer s H E) rfl rfl r (by omega) h
theorem fn_no {k : Nat} {ps : List Str} {np : Nat} : FnG P w K mg base (L2.CX P w) k f fd ps (spOf K mg np noF) :=
  ⟨fun vs H Q E h => by obtain ⟨_, _, _, _, _, _, _, h⟩ := h; exact h.elim, fun A outer s H args us vs Q E _ _ _ _ _ h => by obtain ⟨_, _, _, _, _, _, _, h⟩ := h; exact h.elim⟩
end
section
variable {X : Cx} {Wx : WX} {k : Nat} {f : Addr} {fd : FuncData} {ps : List Str} {np : Nat} {F : Fn} {x : Str} {p pos : Pos} {e : Expr} {es : List Expr} {fs : En → LH → Res (List Va)}
def eCall (F : Fn) (fs : En → LH → Res (List Va)) : EF := fun env L => (fs env L).bind F
theorem call_sp {σ : St} {H : Hp} {Q : VK} (n : NP np F) (h : Rdg X Wx (RV X) (eCall F fs) σ H Q) : tCallS (spOf X.K X.mg np F) (WE Wx) (Rdg X Wx (RVs X) fs) σ H Q := by
  obtain ⟨env, L, al, T, c, q⟩ := h
  refine rseq (R := RVs X) c q fun vs H1 ws L1 al1 c1 s1 r1 q1 => ?_
  have hl : ws.length = np := by
    by_cases z : ws.length = np
    · exact z
    · rw [n ws L1 z] at q1; exact q1.elim
  refine ⟨by rw [Paired.length r1, hl], ws, al1, T, L1, c1.rel, r1, ?_⟩
  revert q1
  generalize F ws L1 = r
  intro q1
  cases r with
  | ok w L2 => exact fun v H' al' s q => q1 v H' al' s q
  | exc c f L2 => exact fun cls d H' al' s q => q1 cls d H' al' s q
  | stuck => exact q1
theorem pe_callG {sp : Sp} {E : St → XK} {t : TA} (G : FnG X.prog X.w X.K X.mg X.base (L2.CX X.prog X.w) k f fd ps sp) (hg0 : X.A.guards = some []) (hr : Room k X.A) (hg : Gl X x) (hm : X.mg x = some (.ref f)) (hk : PySem.W.keepIn X.K (.ref f) = true)
    (hb : Binds X.K fd ps []) (hx : ∀ σ, PassesAt (L2.CX X.prog X.w) X σ (E σ)) (ha : PA X (e :: es) t) (hdb : (x == ("__debug__" : Str)) = false) (he : starEach (e :: es) X.env = (false, eval e X.env) :: starEach es X.env)
    (hpl : (backTo pos (starEach es X.env)).any (·.1) = false) : PE X (.Call (.Name x p) (e :: es) [] pos) (tCallS sp E t) := by
  refine ⟨fun pins s σ H Q I h => wpAny_Call_Name_kw (ld_glob I hg hm ?_ hdb)⟩
  exact PySem.W.callWith_K (h₀ := X.base) I.ok.mod.kin hk (thn (ha.run pos pins s σ H _ I h) fun us s1 ⟨vs, H1, I1, r, q⟩ => ⟨I1.kIn, run_fnG G hg0 hr hb (hx σ) I1 r q⟩) he hpl
theorem se_call (G : FnG X.prog X.w X.K X.mg X.base (L2.CX X.prog X.w) k f fd ps (spOf X.K X.mg np F)) (n : NP np F) (tk : Takes X Wx) (hg0 : X.A.guards = some []) (hr : Room k X.A) (hg : Gl X x) (hm : X.mg x = some (.ref f)) (hk : PySem.W.keepIn X.K (.ref f) = true) (hb : Binds X.K fd ps [])
    (ha : SA X Wx (e :: es) fs) (hdb : (x == ("__debug__" : Str)) = false := by decide) (he : starEach (e :: es) X.env = (false, eval e X.env) :: starEach es X.env := by rfl) (hpl : (backTo pos (starEach es X.env)).any (·.1) = false := by rfl) :
    SE X Wx (.Call (.Name x p) (e :: es) [] pos) (eCall F fs) :=
  PE.imp (pe_callG (E := WE Wx) G hg0 hr hg hm hk hb (fun σ => passAt tk σ) ha hdb he hpl) fun _ _ _ h => call_sp n h
end
end L2.HW
namespace L2.HW
open PySem PySem.Spec PyProof.Rows
section
variable {X : Cx} {Wx : WX}
def eMeth (chk : LH → Va → Bool) (g : Va → List Va → LH → Res Va) (fo : EF) (fs : En → LH → Res (List Va)) : EF := fun env L => (fo env L).bind fun w L1 => if chk L1 w then (fs env L1).bind fun ws L2 => g w ws L2 else .stuck
def OkM (X : Cx) (r : V → List V → Hp → VK → Prop) (g : Va → List Va → LH → Res Va) : Prop := ∀ (Wx : WX) (σ : St) (H : Hp) (al T : List Addr) (L : LH) (x : V) (xs : List V) (w : Va) (ws : List Va) (Q : VK), Rel X.K X.mg H al T L → RV X (mask H (al ++ T)) al x w → RVs X (mask H (al ++ T)) al xs ws →
  GPost X Wx σ H al T L (RV X) (g w ws L) Q → r x xs H Q
def OkTy (X : Cx) (T : String) (chk : LH → Va → Bool) : Prop := ∀ (H : Hp) (al U : List Addr) (L : LH) (x : V) (w : Va), Rel X.K X.mg H al U L → RV X (mask H (al ++ U)) al x w → chk L w = true → tyV X.K T x H
variable {o : Expr} {es : List Expr} {e : Expr} {fo : EF} {fs : En → LH → Res (List Va)} {name : Str} {apos cpos : Pos} {T id : String} {r : V → List V → Hp → VK → Prop} {chk : LH → Va → Bool} {g : Va → List Va → LH → Res Va}
theorem se_meth (pa : PlainAttrs T) (slot : Slot T name id) (hty : typeOf (.builtin id) = pure (.type "method_descriptor")) (hm : MtR X id r) (ok : OkM X r g) (ty : OkTy X T chk) (ho : SE X Wx o fo) (ha : SA X Wx (e :: es) fs)
    (hbase : attributeBase o name X.env (eval o X.env) = eval o X.env := by rfl)
    (hfew : ((backTo cpos (starEach (e :: es) X.env)).all (fun x => !x.1) && (backToKw cpos (keywordEach [] X.env)).all (fun x => x.1.isSome)
      && decide ((e :: es).length + ([] : List Keyword).length + (if ([] : List Keyword).isEmpty then 0 else 1) < 30)) = true := by rfl)
    (hline : (apos.endLine == cpos.line) = true := by rfl) (hs : starEach (e :: es) X.env = (false, eval e X.env) :: starEach es X.env := by rfl) (hplain : (backTo cpos (starEach es X.env)).any (·.1) = false := by rfl) :
    SE X Wx (.Call (.Attribute o name apos) (e :: es) [] cpos) (eMeth chk g fo fs) :=
  PE.imp (pe_bm pa slot hty hm ho ha hbase hfew hline hs hplain) fun σ H Q ⟨env, L, al, U, c, h⟩ => by
    refine rseq (R := RV X) c h fun v H1 w L1 al1 c1 s1 r1 h1 => ?_
    split at h1
    · rename_i hc
      refine ⟨ty H1 al1 U L1 v w c1.rel r1 hc, ?_⟩
      refine rseq (R := RVs X) c1 h1 fun vs H2 ws L2 al2 c2 s2 r2 h2 => ?_
      exact ok Wx σ H2 al2 U L2 v vs w ws Q c2.rel (s2.rp r1) r2 h2
    · exact h1.elim
theorem se_meth0 (pa : PlainAttrs T) (slot : Slot T name id) (hty : typeOf (.builtin id) = pure (.type "method_descriptor")) (hm : MtR X id r) (ok : OkM X r g) (ty : OkTy X T chk) (ho : SE X Wx o fo)
    (hbase : attributeBase o name X.env (eval o X.env) = eval o X.env := by rfl) (hline : (apos.endLine == cpos.line) = true := by rfl) :
    SE X Wx (.Call (.Attribute o name apos) [] [] cpos) (eMeth chk g fo aNil) :=
  PE.imp (pe_bm0 pa slot hty hm ho hbase hline) fun σ H Q ⟨env, L, al, U, c, h⟩ => by
    refine rseq (R := RV X) c h fun v H1 w L1 al1 c1 s1 r1 h1 => ?_
    split at h1
    · rename_i hc
      exact ⟨ty H1 al1 U L1 v w c1.rel r1 hc, ok Wx σ H1 al1 U L1 v [] w [] Q c1.rel r1 .nil h1⟩
    · exact h1.elim
def isLs : LH → Va → Bool := fun L w => match w with
  | .d (.list _) => true
  | .loc n => match L[n]? with
    | some (some (.lst _)) => true
    | _ => false
  | _ => false
theorem ty_list : OkTy X "list" isLs := by
  intro H al U L x w r q h
  unfold isLs at h
  split at h
  · obtain ⟨a, vs, rfl, sq, _⟩ := seq_ok r q (seq_list L _)
    cases q with
    | d q => cases q with | lst e1 e2 => exact .inl ⟨rfl, _, SqL.of (of_mask e1).2⟩
  · split at h
    · rename_i n ws e
      obtain ⟨a, vs, rfl, _, e3, _⟩ := loc_lst r q e
      exact .inl ⟨rfl, vs, SqL.of e3⟩
    · cases h
  · cases h
theorem gset {σ : St} {H : Hp} {al T : List Addr} {L : LH} {n : Nat} {a : Addr} {ws us : List Va} {vs : List V} {w : Va} {v : V} {Q : VK} (r : Rel X.K X.mg H al T L) (ea : al[n]? = some a) (e : L[n]? = some (some (.lst ws)))
    (h : GPost X Wx σ H al T L (RV X) (.ok w (L.set n (some (.lst us)))) Q) (rv : RVs X (mask H (al ++ T)) al vs us) (rw_ : RV X (mask H (al ++ T)) al v w) : Q v (upd H a (.lst vs)) := by
  have m : mask (upd H a (.lst vs)) (al ++ T) = mask H (al ++ T) := mask_in (List.mem_append_left _ (List.mem_of_getElem? ea))
  exact h v _ al (Rel.write r ea e ⟨vs, upd_same, rv⟩) (by rw [m]; exact rw_)
def mAppend : Va → List Va → LH → Res Va := fun w ws L => match w, ws with
  | .loc n, [v] => match L[n]? with
    | some (some (.lst us)) => if us.length < sizeLine then .ok (.d .none) (L.set n (some (.lst (us ++ [v])))) else .stuck
    | _ => .stuck
  | _, _ => .stuck
theorem ok_append : OkM X rAppend mAppend := by
  intro Wx σ H al T L x xs w ws Q r q qs h
  unfold mAppend at h
  split at h
  · rename_i n v
    split at h
    · rename_i us e
      split at h
      · rename_i hz
        obtain ⟨a, vs, rfl, ea, ha, rr⟩ := loc_lst r q e
        obtain ⟨y, rfl, qy⟩ := rps_1 qs
        exact ⟨a, vs, y, rfl, rfl, ha, by rw [Paired.length rr]; exact hz, gset r ea e h (rps_app rr (.cons qy .nil)) (.d .non)⟩
      · exact h.elim
    · exact h.elim
  · exact h.elim
theorem se_append (ho : SE X Wx o fo) (ha : SA X Wx [e] fs) (hbase : attributeBase o "append" X.env (eval o X.env) = eval o X.env := by rfl)
    (hfew : ((backTo cpos (starEach [e] X.env)).all (fun x => !x.1) && (backToKw cpos (keywordEach [] X.env)).all (fun x => x.1.isSome)
      && decide ([e].length + ([] : List Keyword).length + (if ([] : List Keyword).isEmpty then 0 else 1) < 30)) = true := by rfl)
    (hline : (apos.endLine == cpos.line) = true := by rfl) (hs : starEach [e] X.env = (false, eval e X.env) :: starEach [] X.env := by rfl) (hplain : (backTo cpos (starEach [] X.env)).any (·.1) = false := by rfl) :
    SE X Wx (.Call (.Attribute o "append" apos) [e] [] cpos) (eMeth isLs mAppend fo fs) :=
  se_meth PySem.F.plainAttrs_list PySem.F.slot_list_append PySem.F.type_list_append mt_append ok_append ty_list ho ha hbase hfew hline hs hplain
def mInsert : Va → List Va → LH → Res Va := fun w ws L => match w, ws with
  | .loc n, [.d (.int i), v] => match L[n]? with
    | some (some (.lst us)) => if us.length < sizeLine ∧ 0 ≤ i ∧ i < 2 ^ 63 then .ok (.d .none) (L.set n (some (.lst (us.take i.toNat ++ [v] ++ us.drop i.toNat)))) else .stuck
    | _ => .stuck
  | _, _ => .stuck
def mPop0 : Va → List Va → LH → Res Va := fun w ws L => match w, ws with
  | .loc n, [] => match L[n]? with
    | some (some (.lst us)) => match us[us.length - 1]? with
      | some u => .ok u (L.set n (some (.lst us.dropLast)))
      | none => .stuck
    | _ => .stuck
  | _, _ => .stuck
theorem rps_dropLast {M : Hp} {al : List Addr} {vs : List V} {ws : List Va} (h : RVs X M al vs ws) : RVs X M al vs.dropLast ws.dropLast := by
  rw [List.dropLast_eq_take, List.dropLast_eq_take, Paired.length h]
  exact rps_take _ h
theorem ok_pop0 : OkM X rPop mPop0 := by
  intro Wx σ H al T L x xs w ws Q r q qs h
  unfold mPop0 at h
  split at h
  · rename_i n
    split at h
    · rename_i us e
      split at h
      · rename_i u eu
        obtain ⟨a, vs, rfl, ea, ha, rr⟩ := loc_lst r q e
        cases qs
        obtain ⟨y, e2, q2⟩ := rps_get rr eu
        exact ⟨a, vs, y, rfl, rfl, ha, by rw [Paired.length rr]; exact e2, gset r ea e h (rps_dropLast rr) q2⟩
      · exact h.elim
    · exact h.elim
  · exact h.elim
def eNeg (f : EF) : EF := fun env L => (f env L).bind fun w L1 => match w with
  | .d (.int i) => .ok (.d (.int (-i))) L1
  | _ => .stuck
theorem se_neg {a : Expr} {f : EF} {pos : Pos} (h : SE X Wx a f) : SE X Wx (.UnaryOp .USub a pos) (eNeg f) :=
  PE.imp (pe_un un_neg h) fun σ H Q ⟨env, L, al, U, c, h⟩ => by
    refine rseq (R := RV X) c h fun v H1 w L1 al1 c1 s1 r1 h1 => ?_
    split at h1
    · rename_i i
      exact ⟨i, dq_int (rp_d r1), gok c1.rel h1 (.d (.int _))⟩
    · exact h1.elim
mutual
theorem dq_reads {pins : List (Addr × Obj)} {σ : St} {H : Hp} {s : Shared} (I : Inv X pins σ H s) : ∀ {v : V} {x : PyData} {u : Value}, Dq H v x → RelV v u → ∃ as, Reads s.heap u x as
  | _, _, _, .non, r => by cases r; exact ⟨_, .none⟩
  | _, _, _, .bl b, r => by cases r; exact ⟨_, .bool b⟩
  | _, _, _, .int i, r => by obtain ⟨t, rfl⟩ := r; exact ⟨_, .int i t⟩
  | _, _, _, .str x, r => by obtain ⟨t, rfl⟩ := r; exact ⟨_, .str x t⟩
  | _, _, _, .lst e q, r => by
    cases r
    obtain ⟨z, its, n, rv, hl, e2⟩ := I.lstM e
    obtain ⟨as, ra⟩ := dqs_reads I q rv
    exact ⟨_, .list e2 rfl rfl (by simpa using ra)⟩
  | _, _, _, .tup e q, r => by
    cases r
    obtain ⟨_, its, rv, o, e2, c, n, d⟩ := I.hok _ _ e
    obtain ⟨as, ra⟩ := dqs_reads I q rv
    exact ⟨_, .tuple e2 c d (by simpa using ra)⟩
theorem dqs_reads {pins : List (Addr × Obj)} {σ : St} {H : Hp} {s : Shared} (I : Inv X pins σ H s) : ∀ {v : List V} {x : List PyData} {u : List Value}, DqAll H v x → Vals v u → ∃ as, ReadsAll s.heap u x as
  | _, _, _, .nil, .nil => ⟨_, .nil⟩
  | _, _, _, .cons a b, .cons c d => by
    obtain ⟨_, h1⟩ := dq_reads I a c
    obtain ⟨_, h2⟩ := dqs_reads I b d
    exact ⟨_, .cons h1 h2⟩
end
mutual
theorem dq_noDict {H : Hp} : ∀ {v : V} {x : PyData}, Dq H v x → x.hasDict = false
  | _, _, .non => by simp [PyData.hasDict]
  | _, _, .bl b => by simp [PyData.hasDict]
  | _, _, .int i => by simp [PyData.hasDict]
  | _, _, .str x => by simp [PyData.hasDict]
  | _, _, .lst e q => by simp [PyData.hasDict, dqs_noDict q]
  | _, _, .tup e q => by simp [PyData.hasDict, dqs_noDict q]
theorem dqs_noDict {H : Hp} : ∀ {v : List V} {x : List PyData}, DqAll H v x → PyData.hasDictAll x = false
  | _, _, .nil => by simp [PyData.hasDictAll]
  | _, _, .cons a b => by simp [PyData.hasDictAll, dq_noDict a, dqs_noDict b]
end
def okShow (x : PyData) : Prop := x.showable = true ∧ x.depth < 180 ∧ x.shown.length ≤ sizeLine
def rRepr : List V → Hp → VK → Prop := fun xs H Q => ∃ v x, xs = [v] ∧ Dq H v x ∧ okShow x ∧ Q (.str x.shown) H
theorem call_reprD (hg : X.A.guards = some []) (hu : X.A.units + 200 < cLine) : CallR X (.builtin "repr") rRepr := by
  intro pins s σ H xs us Q I r h
  obtain ⟨v, x, rfl, dq, ⟨h1, h2, h3⟩, q⟩ := h
  obtain ⟨u, rfl, ru⟩ := Vals.one r
  cases dq with
  | non => cases ru; exact PySem.P.repr_of_none ⟨.str _, H, I.tok _, ⟨_, rfl⟩, q⟩
  | bl b => cases ru; exact PySem.P.repr_of_bool ⟨.str _, H, I.tok _, ⟨_, rfl⟩, q⟩
  | int i => obtain ⟨t, rfl⟩ := ru; exact PySem.P.repr_of_int (by simpa [PyData.showable] using h1) ⟨.str _, H, I.tok _, ⟨_, rfl⟩, q⟩
  | str z => obtain ⟨t, rfl⟩ := ru; exact PySem.P.repr_of_str ⟨.str _, H, I.tok _, ⟨_, rfl⟩, q⟩ (by simpa [PyData.shown] using h3)
  | lst e d =>
    cases ru
    obtain ⟨as, ra⟩ := dq_reads I (.lst e d) rfl
    exact PySem.repr_of_reads' ra h1 (PyData.noDict_hsm (dq_noDict (Dq.lst e d))) hg (by omega) (fun _ _ e => e) (fun h' u tk k => ⟨.str _, H, I.kept k, ⟨_, rfl⟩, q⟩) h3
  | tup e d =>
    cases ru
    obtain ⟨as, ra⟩ := dq_reads I (.tup e d) rfl
    exact PySem.repr_of_reads' ra h1 (PyData.noDict_hsm (dq_noDict (Dq.tup e d))) hg (by omega) (fun _ _ e => e) (fun h' u tk k => ⟨.str _, H, I.kept k, ⟨_, rfl⟩, q⟩) h3
open Classical in
noncomputable def cRepr : List Va → LH → Res Va := fun ws L => match ws with
  | [w] => match w.data L with
    | some x => if okShow x then .ok (.d (.str x.shown)) L else .stuck
    | none => .stuck
  | _ => .stuck
theorem ok_repr : OkC X rRepr cRepr := by
  intro Wx σ H al T L xs ws Q r q h
  unfold cRepr at h
  split at h
  · rename_i w
    obtain ⟨v, rfl, q1⟩ := rps_1 q
    split at h
    · rename_i x e
      split at h
      · rename_i hs
        exact ⟨v, x, rfl, data_ok r q1 e, hs, gok r h (.d (.str _))⟩
      · exact h.elim
    · exact h.elim
  · exact h.elim
end
end L2.HW
namespace HT
open PySem PySem.Spec PyProof.Rows
end HT
namespace L2.HW
open PySem PySem.Spec PyProof.Rows
section
variable {X : Cx} {Wx : WX}
def eRev (f : EF) : EF := fun env L => (f env L).bind fun w L1 => match w.data L1 with
  | some (.list xs) => .ok (.d (.list xs.reverse)) L1
  | some (.tuple xs) => .ok (.d (.tuple xs.reverse)) L1
  | _ => .stuck
end
end L2.HW
namespace L2.HW
open PySem PySem.Spec PyProof.Rows
theorem cx_none {P : Program} {w : World} {H : Hp} {s : Shared} {e : Value} {s' : Shared} (h : L2.CX P w [] H s (fun _ _ _ => False) e s') : False := by
  obtain ⟨_, _, _, _, _, _, _, _, _, _, _, _, z⟩ := h
  exact z
theorem law_runs {P : Program} {w : World} {K : PySem.W.Frag} {mg mb : Str → Option Value} {k : Nat} {fa a : Addr} {x : Str} {sp : Sp} {s : Shared} {vs : List Value} {ns : List Int}
    (kin : K.In s.heap) (gl : s.heap.Ns mainGlobals mg) (bl : s.heap.Ns builtinsNs mb) (bb : ∀ x : Str, x ≠ "__name__" → mb x = bootBuiltins x) (nl : s.heap.NoLimit) (ng : s.gens = #[])
    (at_ : s.heap.get? a = some { cls := .type "list", data := .seq vs.toArray }) (hi : IntsAre vs ns) (hn : ns.length ≤ sizeLine) (hr : Room k callerA)
    (F : ∀ base : Heap, K.In base → base.Ns mainGlobals mg → ∃ fd, Binds K fd [x] [] ∧ FnG P w K mg base (L2.CX P w) k fa fd [x] sp)
    (hsp : ∀ H : Hp, SqL K H a (ns.map V.int) → sp [.ref a] H (fun v _ => v = .bl true) fun _ _ _ => False) :
    codeAny (model P w) callerA (.call (.ref fa) ⟨[.ref a], []⟩) (fun r s2 => r = .ok (.ret (.bool true)) ∧ OldK s.heap s2.heap ∧ s2.os = s.os ∧ AllBare s2.gens) s := by
  have rv := vals_ints hi
  have hlen := hi.length
  have core : ∀ H : Hp, (∀ b, H b = none ∨ (b = a ∧ K.lookup a = none ∧ H b = some (.frz { cls := .type "list", data := .seq vs.toArray } (.lst (ns.map V.int))))) → SqL K H a (ns.map V.int) → HOk P w H s.heap →
      codeAny (model P w) callerA (.call (.ref fa) ⟨[.ref a], []⟩) (fun r s2 => r = .ok (.ret (.bool true)) ∧ OldK s.heap s2.heap ∧ s2.os = s.os ∧ AllBare s2.gens) s := by
    intro H only sq ok
    have nod : ∀ (b : Addr) (o : Obj), s.heap.get? b = some o → (∀ (ys : Array Value) (m : Nat), o.data ≠ .seq ys m) → H b = none := by
      intro b o e d
      rcases only b with z | ⟨z, _, _⟩
      · exact z
      · subst z
        rw [at_] at e
        cases e
        exact absurd rfl (d _ _)
    have keepNs : ∀ {b : Addr} {m : Str → Option Value}, s.heap.Ns b m → (hidT s.heap H).Ns b m := by
      rintro b m ⟨o, es, ep, e, d, r⟩
      exact ⟨o, es, ep, hidT_get e (nod b o e fun ys m z => by rw [d] at z; cases z), d, r⟩
    have kin2 : K.In (hidT s.heap H) := by
      intro b o e
      refine hidT_get (kin b o e) ?_
      rcases only b with z | ⟨z, z2, _⟩
      · exact z
      · rw [z, z2] at e; cases e
    obtain ⟨mc, l1, l2⟩ := nl
    have md : Mod K mg (hidT s.heap H) := ⟨kin2, keepNs gl, ⟨mb, keepNs bl, bb⟩, ⟨mc, keepNs l1, l2⟩⟩
    have en : Env0 P w K mg (hidT s.heap H) callerA [] s H :=
      { frames := rfl, mod := md, bs := fun b o e => of_hidT e, bsz := Nat.le_of_eq (hidT_size _ _), funs := trivial, frf := (fun b z => absurd (show b ∈ ([] : List Addr) from z) (by simp)), hok := ok, bare := .of_eq ng }
    obtain ⟨fd, bt, fg⟩ := F _ kin2 (keepNs gl)
    have run := fg.go callerA [] s H ⟨[.ref a], []⟩ [.ref a] [.ref a] _ _ rfl hr en (bt s [.ref a] kin rfl) (.cons rfl .nil) (hsp H sq)
    refine codeAny_mono run ?_
    intro r s2 z
    match r, z with
    | .error e, z => exact (cx_none z).elim
    | .ok .next, z => exact z.elim
    | .ok .brk, z => exact z.elim
    | .ok .cont, z => exact z.elim
    | .ok (.ret u), ⟨v, H2, os, bare, un, ok2, rl, q⟩ =>
      have q : v = .bl true := q
      subst q
      have eu : u = Value.bool true := rl
      subst eu
      refine ⟨rfl, OldK.of_keep ?_, os, bare⟩
      intro b o e
      rcases only b with z | ⟨_, _, z⟩
      · exact un.keep b o e z (fun y => absurd (show b ∈ ([] : List Addr) from y) (by simp)) (by simp)
      · have g1 := (ok b _ z).1
        have g2 := (ok2 b _ (un.frzs b _ _ z)).1
        rw [e] at g1
        cases g1
        exact g2
  by_cases hk : K.lookup a = none
  · refine core (fun b => if b = a then some (.frz { cls := .type "list", data := .seq vs.toArray } (.lst (ns.map V.int))) else none) (fun b => ?_) (.inl (.inr ⟨_, if_pos rfl⟩)) ?_
    · by_cases hb : b = a
      · exact .inr ⟨hb, hk, if_pos hb⟩
      · exact .inl (if_neg hb)
    · intro b u z
      by_cases hb : b = a
      · have z := (if_pos hb).symm.trans z
        cases z
        rw [hb]
        exact ⟨at_, by simpa using hn, vs, _, rv, at_⟩
      · have z := (if_neg hb).symm.trans z
        cases z
  · obtain ⟨o, hk⟩ : ∃ o, K.lookup a = some o := by
      cases e : K.lookup a with
      | none => exact absurd e hk
      | some o => exact ⟨o, rfl⟩
    have e := kin a o hk
    rw [at_] at e
    cases e
    exact core (fun _ => none) (fun _ => .inl rfl) (.inr ⟨_, vs.toArray, _, hk, rfl, rfl, rfl, by simpa [hlen] using hn, by simpa using rv⟩) fun b u z => nomatch (show (none : Option HO) = some u from z)
theorem walk_hw {l : PySem.W.OpenLaw} {n k : Nat} {q : Program} {loose : List Str} {XP : (Str → Option Value) → Heap → Prop} {YP : World → Heap → Prop} {d : DefRec} {x : Str} {Fl : Fn}
    (hn : l.most = some n) (hn2 : n ≤ sizeLine) (hdf : d.params.defaults = []) (hr : Room k callerA) (law : ∀ ns : List Int, ns.length ≤ n → ∃ L, Fl [.scr ns] [] = .ok (.d (.bool true)) L)
    (F : ∀ (w : World) (mg : Str → Option Value) (fa : Addr) (h : Heap), YP w h → h.Ns mainGlobals mg → mg d.name = some (.ref fa) →
      ∃ (K : PySem.W.Frag), K.In h ∧ ∀ base : Heap, K.In base → base.Ns mainGlobals mg → ∃ fd, Binds K fd [x] [] ∧ FnG l.prog w K mg base (L2.CX l.prog w) k fa fd [x] (spOf K mg 1 Fl)) :
    PySem.W.WalkO q loose XP YP l.row.toRowW d [] (fun f vs => PySem.call f vs) := by
  refine Att.attach_call hn hdf fun w s₀ s₁ mg mb fa o pm cd doc a vs ns G Y ho hd hcd hmg hobj hints hlen hg => ?_
  obtain ⟨K, kin, hF⟩ := F w mg fa _ Y G.T.g hmg
  refine law_runs kin G.T.g G.T.b G.T.builtins G.T.nolimit hg hobj hints (Nat.le_trans hlen hn2) hr hF fun H sq => ?_
  obtain ⟨L, e⟩ := law ns hlen
  refine ⟨rfl, [.scr ns], [], [], [], ⟨rfl, .nil, (fun _ z => nomatch z), (fun _ z => Or.elim z (fun z => nomatch z) (fun z => nomatch z)), (fun n o z => by simp at z)⟩, .cons (.scr (SqL.le (fun b o z => ?_) sq)) .nil, ?_⟩
  · exact mask_of (by simp) z
  · rw [e]
    intro v H' al' s r
    cases r with
    | d r => cases r; rfl
end L2.HW
namespace L2.HW
open PySem PySem.Spec PyProof.Rows
structure Ctx (X : Cx) (Wx : WX) (k : Nat) : Prop where
  gd : X.A.guards = some []
  rm : Room k X.A
  tk : Takes X Wx
  cm : X.calm = true
  nd : X.N.Nodup
structure CtxF (X : Cx) (Wx : WX) (k : Nat) : Prop extends Ctx X Wx k where
  pa : PassesOwn (model X.prog X.w) X.A X.env X.xe
theorem takesFX {X : Cx} : Takes X FX := fun u s' ⟨_, _, _, _, _, _, _, _, _, _, _, _, _, _, _, _, z⟩ => z.elim
section
variable {X : Cx} {Wx : WX} {k : Nat}
theorem Ctx.bk (c : Ctx X Wx k) (s : Shared) (H : Hp) (sc : Scope) (e : Env) (fp : List Addr) : Ctx (X.blk s H sc e fp) FX k := ⟨c.gd, c.rm, takesFX, c.cm, c.nd⟩
theorem Ctx.u0 (c : Ctx X Wx k) : X.A.units < cLine := by have := c.rm.un; omega
theorem Ctx.u1 (c : Ctx X Wx k) : X.A.units + 1 < cLine := by have := c.rm.un; omega
theorem Ctx.u64 (c : Ctx X Wx k) : X.A.units + 64 < cLine := by have := c.rm.un; omega
theorem Ctx.u65 (c : Ctx X Wx k) : X.A.units + 65 < cLine := by have := c.rm.un; omega
theorem Ctx.u200 (c : Ctx X Wx k) : X.A.units + 200 < cLine := by have := c.rm.un; omega
end
def Def (K : PySem.W.Frag) (mg : Str → Option Value) (x : Str) (st : Stmt) : Prop := ∃ f fd, mg x = some (.ref f) ∧ FunD K x x (defArgs st) (defBody st) (defScope st) [] [] f fd
def Has (P : Program) (w : World) (K : PySem.W.Frag) (mg : Str → Option Value) (base : Heap) (x : Str) (ps : List Str) (k : Nat) (F : Fn) : Prop :=
  ∃ f fd, mg x = some (.ref f) ∧ PySem.W.keepIn K (.ref f) = true ∧ Binds K fd ps [] ∧ NP ps.length F ∧ FnG P w K mg base (L2.CX P w) k f fd ps (spOf K mg ps.length F)
def BindE (x : Str) (st : Stmt) (ps : List Str) : Prop := ∀ (kV doc pm : Value) (an : Option Addr) (cdv ct : Value) (us : List Value), us.length = ps.length →
  bindArgs (PySem.W.fnOf x x (defArgs st) (defBody st) (defScope st) .none kV doc pm an cdv ct) ⟨us, []⟩ = pure (ps.zip us)
section
variable {P : Program} {w : World} {K : PySem.W.Frag} {mg : Str → Option Value} {base : Heap} {x : Str} {st : Stmt} {ps N : List Str} {k nl : Nat}
theorem has_no (D : Def K mg x st) (hb : BindE x st ps) : Has P w K mg base x ps k noF := by
  obtain ⟨f, fd, h, F⟩ := D
  exact ⟨f, fd, h, F.kp, fun s us _ hl => by rw [List.append_nil] at hl ⊢; exact FunD.bindsA F hb s us hl, np_no, fn_no⟩
theorem has_of {bf : SFn} (D : Def K mg x st) (hb : BindE x st ps) (S : FnScope N ps (defScope st)) (hnl : N.length = nl) (hle : ps.length ≤ nl)
    (h : ∀ (f : Addr) (cdv : Value) (A : Around) (outer : List Env) (s : Shared) (H : Hp) (E : XK), CtxF (cxOf (L2.CX P w) P w K mg base N x (defScope st) f cdv A outer s H E) (WxE E) k →
      SB (cxOf (L2.CX P w) P w K mg base N x (defScope st) f cdv A outer s H E) (WxE E) (defBody st) bf) : Has P w K mg base x ps (k + 1) (mkFn ps.length nl bf) := by
  obtain ⟨f, fd, hm, F⟩ := D
  refine ⟨f, fd, hm, F.kp, fun s us _ hl => by rw [List.append_nil] at hl ⊢; exact FunD.bindsA F hb s us hl, np_mk, ?_⟩
  refine fn_body F S rfl hnl hle fun cdv A outer s H E hg hr => h f cdv A outer s H E ⟨⟨hg, hr, takes_of rfl rfl rfl rfl, rfl, S.nd⟩, passes_of rfl⟩
theorem law_end {F : Fn} {fa : Addr} {h : Heap} {y : Str} (H : ∀ base : Heap, Has P w K mg base x [y] k F) (hm : mg x = some (.ref fa)) (hK : K.In h) :
    ∃ (K : PySem.W.Frag), K.In h ∧ ∀ base : Heap, K.In base → base.Ns mainGlobals mg → ∃ fd, Binds K fd [y] [] ∧ FnG P w K mg base (L2.CX P w) k fa fd [y] (spOf K mg 1 F) := by
  refine ⟨K, hK, fun base _ _ => ?_⟩
  obtain ⟨f, fd, h1, _, h3, _, h5⟩ := H base
  rw [hm] at h1
  cases h1
  exact ⟨fd, h3, h5⟩
theorem Has.more {F : Fn} {j : Nat} (h : Has P w K mg base x ps k F) (hj : k ≤ j) : Has P w K mg base x ps j F := by
  obtain ⟨f, fd, h1, h2, h3, h4, h5⟩ := h
  exact ⟨f, fd, h1, h2, h3, h4, h5.more hj⟩
end
section
variable {X : Cx} {Wx : WX} {k j : Nat} {ps : List Str} {F : Fn} {x : Str} {p pos : Pos} {e : Expr} {es : List Expr} {fs : En → LH → Res (List Va)}
theorem w_call (c : Ctx X Wx k) (h : Has X.prog X.w X.K X.mg X.base x ps j F) (ha : SA X Wx (e :: es) fs) (hj : j ≤ k := by decide) (hg : Gl X x := by rfl) (hdb : (x == ("__debug__" : Str)) = false := by decide)
    (he : starEach (e :: es) X.env = (false, eval e X.env) :: starEach es X.env := by rfl) (hpl : (backTo pos (starEach es X.env)).any (·.1) = false := by rfl) : SE X Wx (.Call (.Name x p) (e :: es) [] pos) (eCall F fs) := by
  obtain ⟨f, fd, h1, h2, h3, h4, h5⟩ := h
  exact se_call h5 h4 c.tk c.gd (c.rm.mono hj) hg h1 h2 h3 ha hdb he hpl
variable {a b : Expr} {fa fb : EF}
theorem w_v (i : Nat) (hN : X.N[i]? = some x := by rfl) (hv : Vis X.env.scope x := by first | exact Or.inl rfl | exact Or.inr (Or.inl rfl) | exact Or.inr (Or.inr rfl)) (hd : (x == ("__debug__" : Str)) = false := by decide) (hcd : (x == ("__classdict__" : Str)) = false := by decide) :
    SE X Wx (.Name x pos) (eVar i) := se_var hN hv hd hcd
theorem w_add (ha : SE X Wx a fa) (hb : SE X Wx b fb) : SE X Wx (.BinOp a .Add b pos) (eOp opAdd fa fb) := se_op or_add ok_add ha hb
theorem w_sub (ha : SE X Wx a fa) (hb : SE X Wx b fb) : SE X Wx (.BinOp a .Sub b pos) (eOp opSub fa fb) := se_op op_sub ok_sub ha hb
theorem w_mul (ha : SE X Wx a fa) (hb : SE X Wx b fb) : SE X Wx (.BinOp a .Mult b pos) (eOp opMul fa fb) := se_op or_mul ok_mul ha hb
theorem w_div (ha : SE X Wx a fa) (hb : SE X Wx b fb) : SE X Wx (.BinOp a .FloorDiv b pos) (eOp opDiv fa fb) := se_op op_fdivW ok_div ha hb
theorem w_mod (ha : SE X Wx a fa) (hb : SE X Wx b fb) : SE X Wx (.BinOp a .Mod b pos) (eOp opMod fa fb) := se_op op_mod ok_mod ha hb
theorem w_pow (ha : SE X Wx a fa) (hb : SE X Wx b fb) : SE X Wx (.BinOp a .Pow b pos) (eOp opPow fa fb) := se_op op_pow ok_pow ha hb
theorem w_ge (c : Ctx X Wx k) (ha : SE X Wx a fa) (hb : SE X Wx b fb) (hm : behindInMarks .GtE b = false := by rfl) : SE X Wx (.Compare a [.GtE] [b] pos) (eOp opGe fa fb) := se_cmp op_ge ok_ge ha hb hm
theorem w_eq (c : Ctx X Wx k) (ha : SE X Wx a fa) (hb : SE X Wx b fb) (hm : behindInMarks .Eq b = false := by rfl) : SE X Wx (.Compare a [.Eq] [b] pos) (eOp opEq fa fb) := se_cmp (or_eq c.u64) ok_eq ha hb hm
theorem w_ne (c : Ctx X Wx k) (ha : SE X Wx a fa) (hb : SE X Wx b fb) (hm : behindInMarks .NotEq b = false := by rfl) : SE X Wx (.Compare a [.NotEq] [b] pos) (eOp opNe fa fb) := se_cmp (or_ne c.u64) ok_ne ha hb hm
theorem w_notN (c : Ctx X Wx k) (ha : SE X Wx a fa) (hb : SE X Wx b fb) (hm : behindInMarks .IsNot b = false := by rfl) : SE X Wx (.Compare a [.IsNot] [b] pos) (eOp opNotN fa fb) := se_cmp op_notN ok_notN ha hb hm
theorem t_ge (c : Ctx X Wx k) (ha : SE X Wx a fa) (hb : SE X Wx b fb) (hm : behindInMarks .GtE b = false := by rfl) : ST X Wx (.Compare a [.GtE] [b] pos) (tVal (eOp opGe fa fb)) := st_cmp op_ge ok_ge ha hb hm
theorem t_lt (c : Ctx X Wx k) (ha : SE X Wx a fa) (hb : SE X Wx b fb) (hm : behindInMarks .Lt b = false := by rfl) : ST X Wx (.Compare a [.Lt] [b] pos) (tVal (eOp opLt fa fb)) := st_cmp (or_lt c.u0) ok_lt ha hb hm
theorem t_eq (c : Ctx X Wx k) (ha : SE X Wx a fa) (hb : SE X Wx b fb) (hm : behindInMarks .Eq b = false := by rfl) : ST X Wx (.Compare a [.Eq] [b] pos) (tVal (eOp opEq fa fb)) := st_cmp (or_eq c.u64) ok_eq ha hb hm
theorem t_ne (c : Ctx X Wx k) (ha : SE X Wx a fa) (hb : SE X Wx b fb) (hm : behindInMarks .NotEq b = false := by rfl) : ST X Wx (.Compare a [.NotEq] [b] pos) (tVal (eOp opNe fa fb)) := st_cmp (or_ne c.u64) ok_ne ha hb hm
theorem t_in (c : Ctx X Wx k) (ha : SE X Wx a fa) (hb : SE X Wx b fb) (hm : behindInMarks .In b = false := by rfl) : ST X Wx (.Compare a [.In] [b] pos) (tVal (eOp (opIn false) fa fb)) := st_cmp (op_in_any c.u65) ok_in ha hb hm
theorem t_notIn (c : Ctx X Wx k) (ha : SE X Wx a fa) (hb : SE X Wx b fb) (hm : behindInMarks .NotIn b = false := by rfl) : ST X Wx (.Compare a [.NotIn] [b] pos) (tVal (eOp (opIn true) fa fb)) := st_cmp (op_notIn_any c.u65) ok_in ha hb hm
theorem t_isN (c : Ctx X Wx k) (ha : SE X Wx a fa) (hb : SE X Wx b fb) (hm : behindInMarks .Is b = false := by rfl) : ST X Wx (.Compare a [.Is] [b] pos) (tVal (eOp opIsN fa fb)) := st_cmp op_isN ok_isN ha hb hm
theorem t_notN (c : Ctx X Wx k) (ha : SE X Wx a fa) (hb : SE X Wx b fb) (hm : behindInMarks .IsNot b = false := by rfl) : ST X Wx (.Compare a [.IsNot] [b] pos) (tVal (eOp opNotN fa fb)) := st_cmp op_notN ok_notN ha hb hm
theorem w_ix (c : Ctx X Wx k) (ha : SE X Wx a fa) (hb : SE X Wx b fb) (hs : PlainIx b := by exact fun _ _ => rfl) : SE X Wx (.Subscript a b pos) (eOp opIx fa fb) := se_ix c.u1 ha hb hs
theorem w_len (hm : X.mg "len" = none) (ha : SA X Wx [e] fs) (hg : Gl X "len" := by rfl) (he : starEach [e] X.env = (false, eval e X.env) :: starEach [] X.env := by rfl) (hpl : (backTo pos (starEach [] X.env)).any (·.1) = false := by rfl) :
    SE X Wx (.Call (.Name "len" p) [e] [] pos) (eCallB cLen fs) := se_callB cr_len ok_len hg hm rfl ha (by decide) (by decide) he hpl
theorem w_all (c : Ctx X Wx k) (hm : X.mg "all" = none) (ha : SA X Wx [e] fs) (hg : Gl X "all" := by rfl) (he : starEach [e] X.env = (false, eval e X.env) :: starEach [] X.env := by rfl) (hpl : (backTo pos (starEach [] X.env)).any (·.1) = false := by rfl) :
    SE X Wx (.Call (.Name "all" p) [e] [] pos) (eCallB cAll fs) := se_callB (cr_all c.cm) ok_all hg hm rfl ha (by decide) (by decide) he hpl
theorem w_min2 (c : Ctx X Wx k) (hm : X.mg "min" = none) (ha : SA X Wx [e, a] fs) (hg : Gl X "min" := by rfl) (he : starEach [e, a] X.env = (false, eval e X.env) :: starEach [a] X.env := by rfl) (hpl : (backTo pos (starEach [a] X.env)).any (·.1) = false := by rfl) :
    SE X Wx (.Call (.Name "min" p) [e, a] [] pos) (eCallB cMin2 fs) := se_callB (call_min2 c.cm) ok_min2 hg hm rfl ha (by decide) (by decide) he hpl
theorem w_max2 (c : Ctx X Wx k) (hm : X.mg "max" = none) (ha : SA X Wx [e, a] fs) (hg : Gl X "max" := by rfl) (he : starEach [e, a] X.env = (false, eval e X.env) :: starEach [a] X.env := by rfl) (hpl : (backTo pos (starEach [a] X.env)).any (·.1) = false := by rfl) :
    SE X Wx (.Call (.Name "max" p) [e, a] [] pos) (eCallB cMax2 fs) := se_callB (call_max2 c.cm) ok_max2 hg hm rfl ha (by decide) (by decide) he hpl
theorem w_repr (c : Ctx X Wx k) (hm : X.mg "repr" = none) (ha : SA X Wx [e] fs) (hg : Gl X "repr" := by rfl) (he : starEach [e] X.env = (false, eval e X.env) :: starEach [] X.env := by rfl) (hpl : (backTo pos (starEach [] X.env)).any (·.1) = false := by rfl) :
    SE X Wx (.Call (.Name "repr" p) [e] [] pos) (eCallB cRepr fs) := se_callB (call_reprD c.gd c.u200) ok_repr hg hm rfl ha (by decide) (by decide) he hpl
theorem w_int (hm : X.mg "int" = none) (ha : SA X Wx [e] fs) (hg : Gl X "int" := by rfl) (he : starEach [e] X.env = (false, eval e X.env) :: starEach [] X.env := by rfl) (hpl : (backTo pos (starEach [] X.env)).any (·.1) = false := by rfl) :
    SE X Wx (.Call (.Name "int" p) [e] [] pos) (eCallB cInt fs) := se_callTy call_int1 ok_int hg hm rfl ha (by decide) (by decide) he hpl
theorem w_str (hm : X.mg "str" = none) (ha : SA X Wx [e] fs) (hg : Gl X "str" := by rfl) (he : starEach [e] X.env = (false, eval e X.env) :: starEach [] X.env := by rfl) (hpl : (backTo pos (starEach [] X.env)).any (·.1) = false := by rfl) :
    SE X Wx (.Call (.Name "str" p) [e] [] pos) (eCallB cStr fs) := se_callTy call_str_int ok_str hg hm rfl ha (by decide) (by decide) he hpl
theorem w_tuple (hm : X.mg "tuple" = none) (ha : SA X Wx [e] fs) (hg : Gl X "tuple" := by rfl) (he : starEach [e] X.env = (false, eval e X.env) :: starEach [] X.env := by rfl) (hpl : (backTo pos (starEach [] X.env)).any (·.1) = false := by rfl) :
    SE X Wx (.Call (.Name "tuple" p) [e] [] pos) (eCallB cTuple fs) := se_callTy call_tuple_of ok_tuple hg hm rfl ha (by decide) (by decide) he hpl
variable {f : EF} {i : Nat} {pos' : Pos} {st : Stmt} {sf : SFn}
theorem z_set (c : Ctx X Wx k) (i : Nat) (he : SE X Wx e f) (hi : X.N[i]? = some x := by rfl) (hx : Loc X.env.scope x := by first | exact Or.inl rfl | exact Or.inr rfl) (hs : swapsWith e (some (.Name x pos')) pos.line X.env = pure false := by rfl)
    (hf : X.fn x = true ∨ X.env.scope.names.lookup x = some .local := by first | exact .inl rfl | exact .inr rfl) : SS X Wx (.Assign [.Name x pos'] e pos) (sSet i f) := ss_set c.nd hi hx he hs hf
theorem g_name (c : Ctx X Wx k) (i : Nat) (hi : X.N[i]? = some x := by rfl) (hx : Loc X.env.scope x := by first | exact Or.inl rfl | exact Or.inr rfl) (hf : X.fn x = true ∨ X.env.scope.names.lookup x = some .local := by first | exact .inl rfl | exact .inr rfl) :
    SG X [i] (.Name x pos) (tN i) := sg_name c.nd hi hx hf
theorem z_for {tg iter : Expr} {body : List Stmt} {s : Srcf} {sl : List Nat} {g : Va → En → LH → Res En} {fb : SFn} (c : CtxF X Wx k) (hi : SI X Wx tg iter s) (hg : SG X sl tg g) (hb : SB X Wx body fb)
    (hs : ∀ x, foldedSetIterable iter X.env x = pure x := by intro _; rfl) : SS X Wx (.For tg iter body [] pos) (sFor s g fb) := ss_for c.pa c.cm hi hg hb hs
end
end L2.HW
namespace L2.HW
open PySem PySem.Spec PyProof.Rows
abbrev FnF := List Va → LH → Res Ob
def settleOb (L : LH) (n0 k : Nat) : Ob → Option Ob
  | .lst ws => (mapO (settle L n0 k) ws).map .lst
  | .di kvs => (mapO (fun p : Int × Va => (settle L n0 k p.2).map fun x => (p.1, x)) kvs).map .di
  | .dt kvs => (mapO (fun p : List Int × Va => (settle L n0 k p.2).map fun x => (p.1, x)) kvs).map .dt
  | .ins _ _ => none
@[simp] theorem settleOb_d (L : LH) (n0 k : Nat) (xs : List PyData) : settleOb L n0 k (.lst (xs.map Va.d)) = some (.lst (xs.map Va.d)) := by simp [settleOb, mapO_settle_d]
section
variable {K : PySem.W.Frag} {mg : Str → Option Value} {H H' : Hp} {al al' T T' be : List Addr} {L L' : LH}
theorem settle_in {M' : Hp} {L0 : LH} (r0 : al.length = L0.length) (r : Rel K mg H' (al ++ be) T L') (m : Le (mask H' ((al ++ be) ++ T)) M')
    (hM : ∀ (n : Nat) (b : Addr) (o : Ob), L0.length ≤ n → (al ++ be)[n]? = some b → L'[n]? = some (some o) → ∀ u, H' b = some u → M' b = some u) : ∀ (k : Nat),
    (∀ (v : V) (w u : Va), Rp K mg (mask H' ((al ++ be) ++ T)) (al ++ be) v w → settle L' L0.length k w = some u → Rp K mg M' al v u) ∧
    (∀ (a : Addr) (o : Ob) (u : Va), (∀ z, H' a = some z → M' a = some z) → ObR K mg (mask H' ((al ++ be) ++ T)) (al ++ be) H' a o → settleO L' L0.length k o = some u → Rp K mg M' al (.ref a) u) := by
  have obj : ∀ k, (∀ (v : V) (w u : Va), Rp K mg (mask H' ((al ++ be) ++ T)) (al ++ be) v w → settle L' L0.length k w = some u → Rp K mg M' al v u) →
      (∀ (a : Addr) (o : Ob) (u : Va), (∀ z, H' a = some z → M' a = some z) → ObR K mg (mask H' ((al ++ be) ++ T)) (al ++ be) H' a o → settleO L' L0.length k o = some u → Rp K mg M' al (.ref a) u) := by
    intro k ih a o u see q e
    cases o with
    | lst ws =>
      obtain ⟨vs, h1, h2⟩ := q
      simp only [settleO] at e
      split at e
      · rename_i us e1
        cases e5 : datas us with
        | none => rw [e5] at e; cases e
        | some xs =>
          rw [e5] at e
          cases e
          have h3 := mapO_rps ih h2 e1
          rw [datas_eq e5] at h3
          exact .d (.lst (see _ h1) (dq_all h3))
      · cases e
    | di kvs =>
      obtain ⟨ks, h1, h2⟩ := q
      simp only [settleO] at e
      split at e
      · rename_i us e1
        cases e
        refine .dct (see _ h1) ?_
        have go : ∀ {ks : List (Key × V)} {kvs : List (Int × Va)} {us : List (Int × PyData)}, KRp K mg (mask H' ((al ++ be) ++ T)) (al ++ be) ks kvs → mapO (fun p : Int × Va => match settle L' L0.length k p.2 with
            | some (.d x) => some (p.1, x)
            | _ => none) kvs = some us → KDp M' ks us := by
          intro ks kvs us h
          induction h generalizing us with
          | nil => intro e; cases e; exact .nil
          | @cons p q ps qs h1 _ ih2 =>
            intro e
            unfold mapO at e
            split at e
            · rename_i b e2
              split at e
              · rename_i bs e3
                cases e
                split at e2
                · rename_i x e4
                  cases e2
                  exact .cons ⟨h1.1, rp_d (ih _ _ _ h1.2 e4)⟩ (ih2 e3)
                · cases e2
              · cases e
            · cases e
        exact go h2 e1
      · cases e
    | dt _ => cases e
    | ins _ _ => cases e
  intro k
  induction k with
  | zero =>
    have h0 : ∀ (v : V) (w u : Va), Rp K mg (mask H' ((al ++ be) ++ T)) (al ++ be) v w → settle L' L0.length 0 w = some u → Rp K mg M' al v u := by
      intro v w u q e
      cases q with
      | d q => cases e; exact .d (Dq.le m q)
      | loc _ => cases e
      | tup _ _ => cases e
      | dct _ _ => cases e
      | exc _ _ => cases e
      | scr _ => cases e
    exact ⟨h0, obj 0 h0⟩
  | succ k ih =>
    have h0 : ∀ (v : V) (w u : Va), Rp K mg (mask H' ((al ++ be) ++ T)) (al ++ be) v w → settle L' L0.length (k + 1) w = some u → Rp K mg M' al v u := by
      intro v w u q e
      cases q with
      | d q => cases e; exact .d (Dq.le m q)
      | @loc n a e1 =>
        rw [settle_loc] at e
        split at e
        · cases e
          exact .loc (by rw [List.getElem?_append_left (by omega)] at e1; exact e1)
        · split at e
          · rename_i o e2
            obtain ⟨b, e3, q3⟩ := r.cell n o e2
            rw [e1] at e3; cases e3
            exact ih.2 a o u (hM n a o (by omega) e1 e2) q3 e
          · cases e
      | tup e1 e2 =>
        simp only [settle] at e
        split at e
        · rename_i us e3
          cases e
          exact rp_mkTup (m _ _ e1) (mapO_rps ih.1 e2 e3)
        · cases e
      | dct e1 e2 => cases e; exact .dct (m _ _ e1) (KDp.le m e2)
      | exc e1 e2 => cases e; exact .exc (m _ _ e1) (ExR.le m e2)
      | scr e1 => cases e; exact .scr (SqL.le m e1)
    exact ⟨h0, obj (k + 1) h0⟩
theorem mapO_krp {κ κ' : Type} {G : κ → κ' → Prop} {M M' : Hp} {al al' : List Addr} {f : Va → Option Va} (hf : ∀ v w u, Rp K mg M al v w → f w = some u → Rp K mg M' al' v u) :
    ∀ {ks : List (κ × V)} {kvs us : List (κ' × Va)}, Paired (fun (p : κ × V) (q : κ' × Va) => G p.1 q.1 ∧ Rp K mg M al p.2 q.2) ks kvs → mapO (fun p : κ' × Va => (f p.2).map fun x => (p.1, x)) kvs = some us → Paired (fun (p : κ × V) (q : κ' × Va) => G p.1 q.1 ∧ Rp K mg M' al' p.2 q.2) ks us := by
  intro ks kvs us h
  induction h generalizing us with
  | nil => intro e; cases e; exact .nil
  | @cons p q ps qs h1 _ ih =>
    intro e
    unfold mapO at e
    split at e
    · rename_i b e2
      split at e
      · rename_i bs e3
        cases e
        cases e4 : f q.2 with
        | none => rw [e4] at e2; cases e2
        | some x =>
          rw [e4] at e2
          cases e2
          exact .cons ⟨h1.1, hf _ _ _ h1.2 e4⟩ (ih e3)
      · cases e
    · cases e
theorem settleOb_in {M M' : Hp} {al al' : List Addr} {L' : LH} {n0 k : Nat} (ih : ∀ (v : V) (w u : Va), Rp K mg M al v w → settle L' n0 k w = some u → Rp K mg M' al' v u) {a : Addr} : ∀ {o u : Ob}, ObR K mg M al H' a o → settleOb L' n0 k o = some u → ObR K mg M' al' H' a u
  | .lst ws, u, ⟨vs, h1, h2⟩, e => by
    simp only [settleOb] at e
    cases e1 : mapO (settle L' n0 k) ws with
    | none => rw [e1] at e; cases e
    | some us => rw [e1] at e; cases e; exact ⟨vs, h1, mapO_rps ih h2 e1⟩
  | .di kvs, u, ⟨ks, h1, h2⟩, e => by
    simp only [settleOb] at e
    cases e1 : mapO (fun p : Int × Va => (settle L' n0 k p.2).map fun x => (p.1, x)) kvs with
    | none => rw [e1] at e; cases e
    | some us => rw [e1] at e; cases e; exact ⟨ks, h1, mapO_krp (G := fun p q => p = Sum.inl q) ih h2 e1⟩
  | .dt kvs, u, ⟨ks, h1, h2⟩, e => by
    simp only [settleOb] at e
    cases e1 : mapO (fun p : List Int × Va => (settle L' n0 k p.2).map fun x => (p.1, x)) kvs with
    | none => rw [e1] at e; cases e
    | some us => rw [e1] at e; cases e; exact ⟨ks, h1, mapO_krp (G := fun (p : List Key) (q : List Int) => p = q.map Sum.inl) ih h2 e1⟩
theorem Stp.holdT {a : Addr} (s : Stp K mg H al T L H' al T L') (ha : H a = none) (ha' : H' a ≠ none) (na : a ∉ al) (low : ∀ (n : Nat) (o : Ob), L'[n]? = some (some o) → ∀ b, al[n]? = some b → ObR K mg (mask H' (al ++ (a :: T))) al H' b o) : Stp K mg H al T L H' al (a :: T) L' := by
  have r := s.rel
  refine ⟨⟨r.len, r.nd, fun b hb z => ?_, fun b h => ?_, fun n o e => ?_⟩, ⟨[], by simp, fun _ z => nomatch z⟩, ⟨[a], rfl, fun b hb => ?_⟩, s.frame, s.stay, s.lck, s.alv⟩
  · rcases List.mem_cons.mp z with z | z
    · exact na (z ▸ hb)
    · exact r.dis b hb z
  · rcases h with h | h
    · exact r.trk b (.inl h)
    · rcases List.mem_cons.mp h with z | z
      · rw [z]; exact ha'
      · exact r.trk b (.inr z)
  · obtain ⟨b, e1, _⟩ := r.cell n o e
    exact ⟨b, e1, low n o e b e1⟩
  · have : b = a := by simpa using hb
    rw [this]; exact ha
end
open Classical in
noncomputable def mkFnF (np nl : Nat) (body : SFn) : FnF := fun ws L => if ws.length = np then match body (ws.map some ++ List.replicate (nl - ws.length) none) L with
    | .rt (.loc n) L' => if L.length ≤ n then match L'[n]? with
        | some (some o) => match settleOb (L'.set n none) L.length 9 o with
          | some u => if Kept L L' then .ok u (L'.take L.length) else .stuck
          | none => .stuck
        | _ => .stuck
      else .stuck
    | .rf o L' => match settleOb L' L.length 9 o with
      | some u => if Kept L L' then .ok u (L'.take L.length) else .stuck
      | none => .stuck
    | .exc c f _ L' => if Kept L L' then .exc c f (L'.take L.length) else .stuck
    | _ => .stuck
  else .stuck
def NPF (np : Nat) (F : FnF) : Prop := ∀ ws L, ws.length ≠ np → F ws L = .stuck
theorem npf_mk {np nl : Nat} {body : SFn} : NPF np (mkFnF np nl body) := fun ws L h => by unfold mkFnF; rw [if_neg h]
def NPostF (K : PySem.W.Frag) (mg : Str → Option Value) (H : Hp) (al T : List Addr) (L : LH) (r : Res Ob) (Q : VK) (E : XK) : Prop := match r with
  | .ok o L' => ∀ a H' al', H a = none → Stp K mg H al T L H' al' (a :: T) L' → ObR K mg (mask H' (al' ++ (a :: T))) al' H' a o → Q (.ref a) H'
  | .exc c f L' => ∀ cls d H' al', Stp K mg H al T L H' al' T L' → ExR mg (mask H' (al' ++ T)) c f cls d → E cls d H'
  | .stuck => False
def spOfF (K : PySem.W.Frag) (mg : Str → Option Value) (np : Nat) (F : FnF) : Sp := fun vs H Q E => vs.length = np ∧ ∃ ws al T L, Rel K mg H al T L ∧ Rps K mg (mask H (al ++ T)) al vs ws ∧ NPostF K mg H al T L (F ws L) Q E
section
variable {P : Program} {w : World} {K : PySem.W.Frag} {mg : Str → Option Value} {base : Heap} {x qual : Str} {params : Arguments} {body : List Stmt} {scope : Scope} {dvs : List V} {kws : List (Str × V)} {f : Addr} {fd : FuncData}
theorem body_endF {H : Hp} {al T : List Addr} {L : LH} {X : Cx} {Q : VK} {E : XK} {np nl : Nat} {bf : SFn} {ws : List Va} (r0 : Rel X.K X.mg H al T L) (hl : ws.length = np)
    (h : NPostF X.K X.mg H al T L (mkFnF np nl bf ws L) Q E) : SPost X (WxE E) H al T L (bf (ws.map some ++ List.replicate (nl - ws.length) none) L) { nx := fun _ H' => Q .non H', rt := Q } := by
  unfold mkFnF at h
  rw [if_pos hl] at h
  revert h
  generalize bf (ws.map some ++ List.replicate (nl - ws.length) none) L = r
  intro h
  cases r with
  | nx _ _ => exact h.elim
  | bk _ _ => exact h.elim
  | ct _ _ => exact h.elim
  | stuck => exact h.elim
  | exc c f env' L' =>
    intro cls d σ' H' al' s _ q
    simp only at h
    split at h
    · rename_i hk
      obtain ⟨be, e, _⟩ := s.ext
      subst e
      exact h cls d H' al (exitS r0 s hk) (ExR.le (mask_more H' al be T) q)
    · exact h.elim
  | rf o L' =>
    intro a H' al' ha s q
    simp only at h
    split at h
    · rename_i u eu
      split at h
      · rename_i hk
        obtain ⟨be, e, _⟩ := s.ext
        subst e
        have n := r0.fresh ha
        -- the protected address stays so
        have sT : Stp X.K X.mg H al T L H' al (a :: T) (L'.take L.length) := by
          have rr := s.rel
          have fresh : ∀ b ∈ [a], H b = none := by
            intro b hb
            have : b = a := by simpa using hb
            rw [this]
            exact ha
          have base : Stp X.K X.mg H al T L H' al T (L'.take L.length) := exitS r0 (Stp.drop (te := [a]) fresh s) hk
          refine Stp.holdT base ha (rr.trk a (.inr List.mem_cons_self)) n.1 fun i ob ei b eb => ?_
          have hi : i < L.length := by
            have := (List.getElem?_eq_some_iff.mp ei).1
            rw [List.length_take] at this; omega
          rw [List.getElem?_take_of_lt hi] at ei
          obtain ⟨b', e2, q2⟩ := rr.cell i ob ei
          rw [List.getElem?_append_left (by rw [r0.len]; exact hi), eb] at e2
          cases e2
          obtain ⟨b3, e3, q3⟩ := base.rel.cell i ob (by rw [List.getElem?_take_of_lt hi]; exact ei)
          rw [eb] at e3; cases e3
          exact low_ob (be := be) (mask_more H' al be (a :: T)) q2 (ob_low q3)
        refine h a H' al ha sT (settleOb_in ?_ q eu)
        refine (settle_in r0.len s.rel (mask_more H' al be (a :: T)) ?_ 9).1
        intro n b o hn eb _ u hu
        refine mask_of (fun z => ?_) hu
        have hb : b ∈ be := by
          rw [List.getElem?_append_right (by have := r0.len; omega)] at eb
          exact List.mem_of_getElem? eb
        rcases List.mem_append.mp z with z | z
        · exact (List.nodup_append.mp s.rel.nd).2.2 b z b hb rfl
        · exact s.rel.dis b (List.mem_append_right _ hb) z
      · exact h.elim
    · exact h.elim
  | rt v L' =>
    match v with
    | .d _ => exact h.elim
    | .tup _ => exact h.elim
    | .dct _ => exact h.elim
    | .exc _ _ => exact h.elim
    | .scr _ => exact h.elim
    | .loc n =>
      intro v H' al' s q
      simp only at h
      split at h
      · rename_i hn
        split at h
        · rename_i o eo
          split at h
          · rename_i u eu
            split at h
            · rename_i hk
              obtain ⟨be, e, fr⟩ := s.ext
              subst e
              have rr := s.rel
              cases q with
              | @loc _ a ea =>
                obtain ⟨a', ea', qa⟩ := rr.cell n o eo
                rw [ea] at ea'; cases ea'
                have hb : a ∈ be := by
                  rw [List.getElem?_append_right (by have := r0.len; omega)] at ea
                  exact List.mem_of_getElem? ea
                have ha : H a = none := fr a hb
                have na := r0.fresh ha
                have base := exitS r0 s hk
                have mm : Le (mask H' ((al ++ be) ++ T)) (mask H' (al ++ (a :: T))) := fun b o e => by
                  obtain ⟨z, e⟩ := of_mask e
                  refine mask_of (fun y => z ?_) e
                  simp only [List.mem_append, List.mem_cons] at y ⊢
                  rcases y with y | y | y
                  · exact .inl (.inl y)
                  · exact .inl (.inr (y ▸ hb))
                  · exact .inr y
                have sT : Stp X.K X.mg H al T L H' al (a :: T) (L'.take L.length) := by
                  refine Stp.holdT base ha (rr.trk a (.inl (List.mem_append_right _ hb))) na.1 fun i ob ei b eb => ?_
                  have hi : i < L.length := by
                    have := (List.getElem?_eq_some_iff.mp ei).1
                    rw [List.length_take] at this; omega
                  obtain ⟨b3, e3, q3⟩ := base.rel.cell i ob ei
                  rw [List.getElem?_take_of_lt hi] at ei
                  obtain ⟨b', e2, q2⟩ := rr.cell i ob ei
                  rw [List.getElem?_append_left (by rw [r0.len]; exact hi), eb] at e2
                  cases e2
                  rw [eb] at e3; cases e3
                  exact low_ob (be := be) mm q2 (ob_low q3)
                refine h a H' al ha sT (settleOb_in ?_ qa eu)
                refine (settle_in r0.len (rr.lock (some n)) mm ?_ 9).1
                intro m b o2 hm eb eo2 u2 hu
                have hbb : b ∈ be := by
                  rw [List.getElem?_append_right (by have := r0.len; omega)] at eb
                  exact List.mem_of_getElem? eb
                have nb : b ≠ a := by
                  rintro rfl
                  obtain ⟨h1, h2⟩ := List.getElem?_eq_some_iff.mp ea
                  obtain ⟨h3, h4⟩ := List.getElem?_eq_some_iff.mp eb
                  have : m = n := (List.getElem_inj rr.nd).mp (h4.trans h2.symm)
                  subst this
                  have eo2 : (L'.set m none)[m]? = some (some o2) := eo2
                  rw [List.getElem?_set_self (List.getElem?_eq_some_iff.mp eo).1] at eo2
                  cases eo2
                refine mask_of (fun z => ?_) hu
                simp only [List.mem_append, List.mem_cons] at z
                rcases z with z | z | z
                · exact (List.nodup_append.mp rr.nd).2.2 b z b hbb rfl
                · exact nb z
                · exact rr.dis b (List.mem_append_right _ hbb) z
            · exact h.elim
          · exact h.elim
        · exact h.elim
      · exact h.elim
theorem fn_bodyF (F : FunD K x qual params body scope dvs kws f fd) {N ps : List Str} {k np nl : Nat} {bf : SFn} (S : FnScope N ps scope) (hnp : ps.length = np) (hnl : N.length = nl) (hle : np ≤ nl)
    (hb : ∀ (cdv : Value) (A : Around) (outer : List Env) (s : Shared) (H : Hp) (E : XK), A.guards = some [] → Room k (A.deeper (envOfC qual scope s.heap.objs.size f cdv)) → SB (cxOf (L2.CX P w) P w K mg base N qual scope f cdv A outer s H E) (WxE E) body bf) :
    FnG P w K mg base (L2.CX P w) (k + 1) f fd ps (spOfF K mg np (mkFnF np nl bf)) := by
  refine fnG_of F S (fun vs H Q E h => by rw [h.1, hnp]) (fun cdv A outer s H vs Q E hg hr h => ⟨_, hb cdv A outer s H E hg hr, ?_⟩)
  obtain ⟨hl, ws, al, T, L, r, rs, h⟩ := h
  have e := Paired.length rs
  subst hnl
  refine ⟨_, L, al, T, conf_start r rs (by omega), ?_⟩
  exact body_endF (X := cxOf (L2.CX P w) P w K mg base N qual scope f cdv A outer s H E) r (by omega) h
end
def HasF (P : Program) (w : World) (K : PySem.W.Frag) (mg : Str → Option Value) (base : Heap) (x : Str) (ps : List Str) (k : Nat) (F : FnF) : Prop :=
  ∃ f fd, mg x = some (.ref f) ∧ PySem.W.keepIn K (.ref f) = true ∧ Binds K fd ps [] ∧ NPF ps.length F ∧ FnG P w K mg base (L2.CX P w) k f fd ps (spOfF K mg ps.length F)
theorem hasF_of {P : Program} {w : World} {K : PySem.W.Frag} {mg : Str → Option Value} {base : Heap} {x : Str} {st : Stmt} {ps N : List Str} {k nl : Nat} {bf : SFn} (D : Def K mg x st) (hb : BindE x st ps) (S : FnScope N ps (defScope st)) (hnl : N.length = nl) (hle : ps.length ≤ nl)
    (h : ∀ (f : Addr) (cdv : Value) (A : Around) (outer : List Env) (s : Shared) (H : Hp) (E : XK), CtxF (cxOf (L2.CX P w) P w K mg base N x (defScope st) f cdv A outer s H E) (WxE E) k →
      SB (cxOf (L2.CX P w) P w K mg base N x (defScope st) f cdv A outer s H E) (WxE E) (defBody st) bf) : HasF P w K mg base x ps (k + 1) (mkFnF ps.length nl bf) := by
  obtain ⟨f, fd, hm, F⟩ := D
  refine ⟨f, fd, hm, F.kp, fun s us _ hl => by rw [List.append_nil] at hl ⊢; exact FunD.bindsA F hb s us hl, npf_mk, ?_⟩
  refine fn_bodyF F S rfl hnl hle fun cdv A outer s H E hg hr => h f cdv A outer s H E ⟨⟨hg, hr, takes_of rfl rfl rfl rfl, rfl, S.nd⟩, passes_of rfl⟩
section
variable {X : Cx} {Wx : WX} {k j : Nat} {ps : List Str} {F : FnF} {x : Str} {p pos : Pos} {e : Expr} {es : List Expr} {fs : En → LH → Res (List Va)}
def fCall (F : FnF) (fs : En → LH → Res (List Va)) : En → LH → Res Ob := fun env L => (fs env L).bind F
theorem w_callF (c : Ctx X Wx k) (h : HasF X.prog X.w X.K X.mg X.base x ps j F) (ha : SA X Wx (e :: es) fs) (hj : j ≤ k := by decide) (hg : Gl X x := by rfl) (hdb : (x == ("__debug__" : Str)) = false := by decide)
    (he : starEach (e :: es) X.env = (false, eval e X.env) :: starEach es X.env := by rfl) (hpl : (backTo pos (starEach es X.env)).any (·.1) = false := by rfl) : SF X Wx (.Call (.Name x p) (e :: es) [] pos) (fCall F fs) := by
  obtain ⟨f, fd, h1, h2, h3, h4, h5⟩ := h
  refine PE.imp (pe_callG (E := WE Wx) h5 c.gd (c.rm.mono hj) hg h1 h2 h3 (fun σ => passAt c.tk σ) ha hdb he hpl) ?_
  rintro σ H Q ⟨env, L, al, T, cf, q⟩
  refine fseq (R := RVs X) cf q fun vs H1 ws L1 al1 c1 s1 r1 q1 => ?_
  have hl : ws.length = ps.length := by
    by_cases z : ws.length = ps.length
    · exact z
    · rw [h4 ws L1 z] at q1; exact q1.elim
  refine ⟨by rw [Paired.length r1, hl], ws, al1, T, L1, c1.rel, r1, ?_⟩
  revert q1
  generalize F ws L1 = r
  intro q1
  cases r with
  | ok o L2 => exact fun a H' al' ha s q => q1 a H' al' ha s q
  | exc c f L2 => exact fun cls d H' al' s q => q1 cls d H' al' s q
  | stuck => exact q1
end
end L2.HW
namespace L2.HW
open PySem PySem.Spec PyProof.Rows
section
variable {X : Cx} {Wx : WX}
def dcompL (g : Va → En → LH → Res En) (t : En → LH → Res Bool) (fk fv : EF) : List Va → List (Int × Va) → En → LH → Res (List (Int × Va))
  | [], acc, _, L => .ok acc L
  | w :: ws, acc, env, L => match g w env L with
    | .ok env1 L1 => match t env1 L1 with
      | .ok b L2 => if b then match fk env1 L2 with
          | .ok (.d (.int k)) L3 => match fv env1 L3 with
            | .ok u L4 => if acc.length < sizeLine then dcompL g t fk fv ws (aput acc k u) env L4 else .stuck
            | _ => .stuck
          | _ => .stuck
        else dcompL g t fk fv ws acc env L2
      | _ => .stuck
    | _ => .stuck
end
end L2.HW
namespace PySem
open Sem (wp)
theorem meets_enumerate_new1 {v : Value} {o : Obj} {H : Heap → Prop} (B : Begins v o H) :
    Meets (Builtin.«enumerate.__new__» ⟨[.type "enumerate", v], []⟩) (fun _ R s => H s.heap ∧
      R (.ok (.ret (.ref (s.heap.push o).objs.size))) { s with heap := (s.heap.push o).push { cls := .type "enumerate", data := .fields #[.none, .bool false, .ref s.heap.objs.size, rawInt 0, .none, .none] } }) :=
  .of_wp fun prog w A R s h => by
    obtain ⟨hp, g, d, tk, os⟩ := s; obtain ⟨h1, h⟩ := h
    have hsub := sub_enumerate
    have q1 : ∀ {A' : Around} {E : Value → Shared → Prop} {Q : Value → Shared → Prop}, Q (.ref hp.objs.size) ⟨hp.push o, g, d, tk, os⟩ → wpAny (model prog w) A' (pyIter v) Q E ⟨hp, g, d, tk, os⟩ :=
      fun q => B.iter prog w _ _ ⟨hp, g, d, tk, os⟩ _ h1 q
    wp_walk using q1
    refine wpAny_stack_any fun st => wpAny_pure ?_
    split
    · rename_i c _ _ _ _ _
      cases (c == Value.type "enumerate")
      · wp_walk using q1
        exact ⟨_, rfl, h⟩
      · wp_walk using q1
        exact ⟨_, rfl, h⟩
    · wp_walk using q1
      exact ⟨_, rfl, h⟩
section
variable {prog : Program} {w : World} {A : Around} {E : Value → Shared → Prop} {s : Shared}
theorem enum_begins1 {v : Value} {o : Obj} {H : Heap → Prop} {Q : Value → Shared → Prop} (B : Begins v o H) (h1 : H s.heap)
    (h : ∀ h', IsEnum h' (s.heap.objs.size + 1) s.heap.objs.size 0 .none → h'.get? s.heap.objs.size = some o → h'.objs.size = s.heap.objs.size + 2 →
      (∀ b o, s.heap.get? b = some o → h'.get? b = some o) → Q (.ref (s.heap.objs.size + 1)) { s with heap := h' }) :
    wpAny (model prog w) A (call (.type "enumerate") [v]) Q E s := by
  refine callType_new F.called_enumerate (by decide) (F.typeCall_enumerate_1 _) (F.newCall_enumerate_1 _) (fun obj => F.args_object_init_2 obj _) F.entry_enumerate_new
    (meets_enumerate_new1 B) ⟨h1, ?_⟩
  have hz : (s.heap.push o).objs.size = s.heap.objs.size + 1 := Heap.size_push ..
  show _ ∧ _
  rw [hz]
  have he : IsEnum ((s.heap.push o).push { cls := .type "enumerate", data := .fields #[.none, .bool false, .ref s.heap.objs.size, rawInt 0, .none, .none] }) (s.heap.objs.size + 1) s.heap.objs.size 0 .none := by
    have := Heap.get?_push_size (s.heap.push o) (o := { cls := .type "enumerate", data := .fields #[.none, .bool false, .ref s.heap.objs.size, rawInt 0, .none, .none] }) rfl
    rw [hz] at this; exact this
  refine ⟨⟨_, he, rfl⟩, h _ he (Heap.get?_push_of_some _ (Heap.get?_push_size _ B.free)) (by rw [Heap.size_push, hz]) fun b o x => Heap.get?_push_of_some _ (Heap.get?_push_of_some _ x)⟩
end
end PySem
namespace L2.HW
open PySem PySem.Spec PyProof.Rows

def enumV (k0 : Int) (ws : List Va) : List Va := ws.zipIdx.map fun p => mkTup [.d (.int (k0 + (p.2 : Nat))), p.1]
def srcE (k0 : Int) (fs : En → LH → Res (List Va)) : Srcf := fun env L => (fs env L).bind fun ws L1 => match ws with
  | [w] => match srcOf w L1 with
    | some p => .ok (enumV k0 p.1, p.2) L1
    | none => .stuck
  | _ => .stuck
end L2.HW
namespace L2.HW
open PySem PySem.Spec PyProof.Rows
def ExcF (K : PySem.W.Frag) (mg : Str → Option Value) (x : Str) : Prop := ∃ C : Addr, mg x = some (.ref C) ∧ PySem.W.excIn K C He.veBase "ValueError.__new__" = true ∧ PySem.W.keepIn K (.ref C) = true ∧ PySem.W.subIn K (.ref C) (.type "BaseException") = some true ∧ PySem.W.typeIn K (.ref C) = some (.type "type")
section
variable {X : Cx} {Wx : WX} {k : Nat}
def sRaise (x : Str) : SFn := fun env L => .exc x none env L
theorem ss_raise {x m : Str} {j : Nat} {p p2 pos pos2 : Pos} (c : Ctx X Wx k) (F : ExcF X.K X.mg x) (hg : Gl X x := by rfl) (hdb : (x == ("__debug__" : Str)) = false := by decide) :
    SS X Wx (.Raise (some (.Call (.Name x p) [.Constant (.str m) j p2] [] pos)) none pos2) (sRaise x) := by
  obtain ⟨C, hm, h1, h2, h3, h4⟩ := F
  refine PS.imp (ps_raise c.cm c.tk (pmk_own PySem.F.excBase_ValueError h1 hm h2 (raises_own h3 h4) hg hdb)) ?_
  rintro D σ H ⟨env, L, al, T, cf, h⟩
  exact h (.ref C) none σ H al (Stp.refl cf.rel) cf ⟨C, hm, rfl, rfl⟩
def dsp : List (EF × EF) → En → LH → Res (List (Int × Va))
  | [], _, L => .ok [] L
  | (f, g) :: r, env, L => match f env L with
    | .ok (.d (.int k)) L1 => match g env L1 with
      | .ok v L2 => match dsp r env L2 with
        | .ok kvs L3 => .ok ((k, v) :: kvs) L3
        | _ => .stuck
      | _ => .stuck
    | _ => .stuck
def mergeA (acc : List (Int × Va)) : List (Int × Va) → List (Int × Va)
  | [] => acc
  | p :: r => mergeA (aput acc p.1 p.2) r
def fDisp (ps : List (EF × EF)) : En → LH → Res Ob := fun env L => match dsp ps env L with
  | .ok kvs L1 => if kvs.length ≤ 15 then .ok (.di (mergeA [] kvs)) L1 else .stuck
  | _ => .stuck
def DR (K : PySem.W.Frag) (mg : Str → Option Value) (M : Hp) (al : List Addr) : List (V × V) → List (Int × Va) → Prop := Paired fun p q => p.1 = .int q.1 ∧ Rp K mg M al p.2 q.2
theorem DR.le {K : PySem.W.Frag} {mg : Str → Option Value} {M M' : Hp} {al al' : List Addr} (h : Le M M') (ha : ALe al al') {a : List (V × V)} {b : List (Int × Va)} (r : DR K mg M al a b) : DR K mg M' al' a b :=
  Paired.map2 (fun _ _ q => ⟨q.1, Rp.le h ha q.2⟩) r
def sAugIx (op : Int → Int → Int) (f g e : EF) : SFn := fun env L => (f env L).then env fun w L1 => (g env L1).then env fun u L2 => match w, u with
  | .loc n, .d (.int k) => match L2[n]? with
    | some (some (.lst ws)) => if 0 ≤ k then match ws[k.toNat]? with
      | some (.d (.int a)) => (e env L2).then env fun v L3 => match v, L3[n]? with
        | .d (.int b), some (some (.lst ws3)) => if k.toNat < ws3.length then .nx env (L3.set n (some (.lst (ws3.set k.toNat (.d (.int (op a b))))))) else .stuck
        | _, _ => .stuck
      | _ => .stuck
      else .stuck
    | _ => .stuck
  | _, _ => .stuck
def isD : LH → Va → Bool := fun L w => match w with
  | .dct _ => true
  | .loc n => match L[n]? with
    | some (some (.di _)) => true
    | some (some (.dt _)) => true
    | _ => false
  | _ => false
def eGet1 (f g : EF) : EF := fun env L => (f env L).bind fun w L1 => if isD L1 w then (g env L1).bind fun u L2 => match w.dget L2 u with
  | some (some x) => .ok x L2
  | some none => .ok (.d .none) L2
  | none => .stuck
  else .stuck
def eGet2 (f g h : EF) : EF := fun env L => (f env L).bind fun w L1 => if isD L1 w then (g env L1).bind fun u L2 => (h env L2).bind fun z L3 => match w.dget L3 u with
  | some (some x) => .ok x L3
  | some none => .ok z L3
  | none => .stuck
  else .stuck
end
end L2.HW
namespace L2.HW
open PySem PySem.Spec PyProof.Rows
section
variable {X : Cx} {Wx : WX}
def itemsV (kvs : List (Int × Va)) : List Va := kvs.map fun p => mkTup [.d (.int p.1), p.2]
def srcIt (i : Nat) : Srcf := fun env L => match env[i]? with
  | some (some (.loc n)) => match L[n]? with
    | some (some (.di kvs)) => .ok (itemsV kvs, some n) L
    | _ => .stuck
  | _ => .stuck
end
end L2.HW
namespace L2.HW
open PySem PySem.Spec PyProof.Rows
section
variable {X : Cx} {Wx : WX}
def insP (q : Int × Int) : List (Int × Int) → List (Int × Int)
  | [] => [q]
  | a :: r => if q.1 < a.1 then q :: a :: r else a :: insP q r
def sortP : List (Int × Int) → List (Int × Int)
  | [] => []
  | q :: r => insP q (sortP r)
def intKvs : List (Int × Va) → Option (List (Int × Int))
  | [] => some []
  | (k, .d (.int v)) :: r => (intKvs r).map ((k, v) :: ·)
  | _ :: _ => none
@[simp] theorem intKvs_map (ks : List (Int × Int)) : intKvs (ks.map fun q => (q.1, Va.d (.int q.2))) = some ks := by
  induction ks with
  | nil => rfl
  | cons q r ih => simp only [List.map_cons, intKvs, ih]; rfl
def fSortIt (i : Nat) : En → LH → Res Ob := fun env L => match env[i]? with
  | some (some (.loc n)) => match L[n]? with
    | some (some (.di kvs)) => match intKvs kvs with
      | some ks => .ok (.lst (((sortP ks).map fun q => PyData.tuple [.int q.1, .int q.2]).map Va.d)) L
      | none => .stuck
    | _ => .stuck
  | _ => .stuck
end
end L2.HW
namespace L2.HW
open PySem PySem.Spec PyProof.Rows
section
variable {X : Cx} {Wx : WX} {k : Nat}
open Classical in
noncomputable def cMin1X : List Va → LH → Res Va := fun ws L => one ws L fun us => match vaInts us with
  | some ns => match minI ns with
    | some m => .ok (.d (.int m)) L
    | none => .stuck
  | none => match datas us with
    | some (x :: r) => if PySem.W.AlikeAll (x :: r) ∧ PyData.depthAll (x :: r) ≤ 60 then .ok (.d (PySem.W.minD x r)) L else .stuck
    | _ => .stuck
open Classical in
noncomputable def eMinDef (fs : En → LH → Res (List Va)) (g : EF) : EF := fun env L => (fs env L).bind fun ws L1 => (g env L1).bind fun z L2 => one ws L2 fun us => match datas us with
  | some [] => .ok z L2
  | some (x :: r) => if PySem.W.AlikeAll (x :: r) ∧ PyData.depthAll (x :: r) ≤ 60 then .ok (.d (PySem.W.minD x r)) L2 else .stuck
  | none => .stuck
end
end L2.HW
namespace L2.HW
open PySem PySem.Spec PyProof.Rows
instance (a b : Int) : Decidable (RgOk a b) := by unfold RgOk; infer_instance
def rngD (a : Int) (n : Nat) : List PyData := (List.range n).map fun i => .int (a + (i : Nat))
section
variable {X : Cx} {Wx : WX} {k : Nat}
def fLstR1 (f : EF) : En → LH → Res Ob := fun env L => (f env L).bind fun w L1 => match w with
  | .d (.int n) => if RgOk 0 n then .ok (.lst ((rngD 0 n.toNat).map Va.d)) L1 else .stuck
  | _ => .stuck
def fLstR2 (f g : EF) : En → LH → Res Ob := fun env L => (f env L).bind fun w L1 => (g env L1).bind fun u L2 => match w, u with
  | .d (.int a), .d (.int b) => if RgOk a b then .ok (.lst ((rngD a (b - a).toNat).map Va.d)) L2 else .stuck
  | _, _ => .stuck
def eTupR1 (f : EF) : EF := fun env L => (f env L).bind fun w L1 => match w with
  | .d (.int n) => if RgOk 0 n then .ok (.d (.tuple (rngD 0 n.toNat))) L1 else .stuck
  | _ => .stuck
def eTupR2 (f g : EF) : EF := fun env L => (f env L).bind fun w L1 => (g env L1).bind fun u L2 => match w, u with
  | .d (.int a), .d (.int b) => if RgOk a b then .ok (.d (.tuple (rngD a (b - a).toNat))) L2 else .stuck
  | _, _ => .stuck
variable {e : Expr} {fs : En → LH → Res (List Va)} {p pos : Pos}
end
end L2.HW
namespace L2.HW
open PySem PySem.Spec PyProof.Rows
def wKeep (K : PySem.W.Frag) (c : Value) (i : Nat) (ts : Addr → Value → Option Addr → TS) (D : Ends) : WX := fun cls d σ H =>
  PySem.W.exmOne K cls c = some true ∧ ∃ C : Addr, cls = .ref C ∧ ∀ a : Addr, H a = none →
    ts a cls d { nx := fun σ' H' => H' a = none → D.nx (σ'.set i none) (upd H' a (exk a C d)), rt := fun _ _ => False, bk := fun _ _ => False, ct := fun _ _ => False } (σ.set i (some (.ref a))) H
theorem inv_note {X : Cx} {pins : List (Addr × Obj)} {σ : St} {H : Hp} {s : Shared} {a C : Addr} {d : Option Addr} {oe : Obj} {vs : Array Value} (I : Inv X ((a, oe) :: pins) σ H s) (hex : X.ex = []) (h0 : X.s_0.heap.get? a = none)
    (hc : oe.cls = .ref C) (hd : oe.dict = d) (hv : oe.data = .fields vs) (n0 : ∀ p ∈ X.pn ++ pins, p.1 ≠ a) : Inv X pins σ (upd H a (exk a C d)) s := by
  obtain ⟨ga, na, nl, nf, nv⟩ := I.pin (a, oe) (by simp)
  have ne : ∀ {b : Addr} {o : HO}, H b = some o → b ≠ a := fun e z => by rw [z, na] at e; cases e
  have off : ∀ {b : Addr}, b ≠ a → upd H a (exk a C d) b = H b := fun z => upd_ne z
  refine ⟨I.ok, I.os, I.bare, ⟨I.base.keep, I.base.slot, fun b o e n x => ?_, I.base.there, fun b xs e => ?_, fun b o u e => ?_, fun b ps e => ?_⟩, I.loc, I.cell, ?_, fun x c e => ?_, fun p hp => ?_, fun b o e => ?_, I.len⟩
  · have : b ≠ a := fun z => by rw [z, h0] at e; cases e
    rw [off this]; exact I.base.free b o e n x
  · have e1 := I.base.tups b xs e
    rw [off (ne e1)]; exact e1
  · have e1 := I.base.frzs b o u e
    rw [off (ne e1)]; exact e1
  · obtain ⟨more, e1⟩ := I.base.tbls b ps e
    exact ⟨more, by rw [off (ne e1)]; exact e1⟩
  · rw [off fun z => nl z.symm]; exact I.free
  · have : c ≠ a := fun z => by
      obtain ⟨v, o, k1, k2⟩ := I.cell x c e
      rw [z, ga] at k1
      cases k1
      exact nv v (by simp_all)
    rw [off this]; exact I.freeC x c e
  · obtain ⟨k1, k2, k3, k4, k5⟩ := I.pin p (by
      rcases List.mem_append.mp hp with h | h
      · exact List.mem_append_left _ h
      · exact List.mem_append_right _ (List.mem_cons_of_mem _ h))
    exact ⟨k1, by rw [off (n0 p hp)]; exact k2, k3, k4, k5⟩
  · by_cases z : b = a
    · subst z
      rw [upd_same] at e
      cases e
      exact ⟨⟨oe, vs, ga, hc, hd, hv⟩, ⟨oe, ga⟩, fun h1 h2 ⟨o1, v1, q1, q2, q3, q4⟩ k => ⟨o1, v1, k o1 q1, q2, q3, q4⟩⟩
    · rw [off z] at e
      exact (I.hok b o e).stay (fun _ _ _ q => q) (fun c q => by rw [off (ne q)]; exact q) fun c xs q => by rw [off (ne q)]; exact q
theorem ps_try_keep {X : Cx} {x n : Str} {c : Value} {i : Nat} {body suite : List Stmt} {b0 : Stmt} {np pos pos' : Pos} {tb : WX → TS} {ts : Addr → Value → Option Addr → TS}
    (hs : X.stack = X.env :: X.outer) (hf : X.env.frame = some X.env.locals) (hex : X.ex = []) (hN : X.N.Nodup) (hi : X.N[i]? = some n) (hln : X.env.kindOf n = some .local) (hc : Names X x c)
    (hb : ∀ (W : WX) (pn : List (Addr × Obj)) (xe : Value → Shared → Prop), Takes (X.tr pn xe) W → PassesOwn (model X.prog X.w) X.A X.env xe → PSs (X.tr pn xe) body (tb W))
    (hsu : ∀ (a : Addr) (oe : Obj) (cls : Value) (d : Option Addr) (pn : List (Addr × Obj)), Zc cls d oe → (∃ vs, oe.data = .fields vs) → PSs (X.suite a ((a, oe) :: pn)) (b0 :: suite) (ts a cls d)) :
    PS X (.Try body [.ExceptHandler (some (.Name x np)) (some n) (b0 :: suite) pos'] [] [] pos) fun D σ H => tb (wKeep X.K c i ts D) D σ H := by
  refine ⟨fun pins s σ H D I h => ?_⟩
  have ok := I.ok
  have hfr : X.A.frames = some (X.env :: X.outer) := by rw [ok.frames, hs]
  refine wpAny_Try_except ?_
  have body_ := (hb (wKeep X.K c i ts D) (X.pn ++ pins) (fun e s1 => wpAny (model X.prog X.w) X.A (noteFrame e X.env) (fun _ s2 => wpAny (model X.prog X.w) X.A (setFlight e none) (fun _ s3 => wpAny (model X.prog X.w) X.A (handleBy e X.env [.ExceptHandler (some (.Name x np)) (some n) (b0 :: suite) pos']) (SP X pins D) X.xe s3) X.xe s2) X.xe s1) ?_ PassesOwn.looking).run [] s σ H D (I.toTry _) h
  · refine wpAny_mono body_ (fun f s1 hsp => ?_) fun e s1 he => he
    cases f with
    | next => obtain ⟨σ1, H1, J, q⟩ := hsp; exact wpAny_execs_nil ⟨σ1, H1, J.ofTry ok, q⟩
    | brk => obtain ⟨σ1, H1, J, q⟩ := hsp; exact ⟨σ1, H1, J.ofTry ok, q⟩
    | cont => obtain ⟨σ1, H1, J, q⟩ := hsp; exact ⟨σ1, H1, J.ofTry ok, q⟩
    | ret u => obtain ⟨v, σ1, H1, J, r, q⟩ := hsp; exact ⟨v, σ1, H1, J.ofTry ok, r, q⟩
  · rintro u s1 ⟨a, B, sI, pins1, σ1, H1, cls, d, rfl, J0, nb, up, sky, na, os, ag, hm, C, hC, hyes⟩
    have J := J0.ofTry ok
    have sky1 : Sky B (X.env :: X.outer) a (Zc cls d) X.env.locals s1.heap := by rw [← hs]; exact sky
    refine Sky.land Zc.steady hfr hf sky1 fun h3 fl3 up3 => ?_
    have J3 : Inv X pins σ1 H1 { s1 with heap := h3 } := J.landed nb fl3.1 (up.trans up3) os ag
    obtain ⟨oe3, vs3, he3, hz3, hd3⟩ := fl3.there
    have nfr : a ∉ frs (X.env :: X.outer) := fun hm2 => by
      obtain ⟨_, o2, e2, n2⟩ := fl3.2.2.1.mem hm2
      rw [he3] at e2
      cases e2
      exact n2 _ hd3
    have nL : a ≠ X.env.locals := fun z => nfr (List.mem_filterMap.mpr ⟨X.env, List.mem_cons_self, by rw [hf, z]⟩)
    have nF : a ∉ X.fs := fun hm2 => by
      obtain ⟨e, he, q⟩ := List.mem_filterMap.mp hm2
      exact nfr (List.mem_filterMap.mpr ⟨e, List.mem_cons_of_mem _ he, q⟩)
    have nI : sI.heap.get? a = none := by
      cases e : sI.heap.get? a with
      | none => rfl
      | some o =>
        have := nb a o e (by show a ∉ frs X.stack; rw [hs]; exact nfr)
        rw [fl3.2.1] at this
        cases this
    have n0 : X.s_0.heap.get? a = none := by
      cases e : X.s_0.heap.get? a with
      | none => rfl
      | some o =>
        obtain ⟨o2, e2⟩ := J.base.there a o e (by rw [hex]; simp)
        rw [nI] at e2; cases e2
    have npin : ∀ p ∈ X.pn ++ pins, p.1 ≠ a := fun p hp z => by
      have := (J.pin p hp).1
      rw [z, nI] at this; cases this
    have S3 := J3.suite he3 hd3 na nL nF
    refine wpAny_handleBy_cons (codeAny_handlers_test ?_) (by intro q; cases q)
    have LM := PySem.W.exm_one (M := model X.prog X.w) (c := c) J3.kIn (fun A Q E s k q => wpAny_typeOf_ref (k a oe3 he3) (by rw [hz3.1]; exact q)) hm
    have test : ∀ {Q : Value → Shared → Prop} {E : Value → Shared → Prop}, Q c _ → wpAny (model X.prog X.w) (X.A.mark (some (.ref a))) (eval (.Name x np) X.env) Q E _ := fun {Q E} q => by
      obtain ⟨hg, hdbg, hm3 | ⟨hm3, hv, hnn⟩⟩ := hc
      · exact ld_glob S3 hg hm3 q hdbg
      · exact ld_blt S3 hg hm3 hv q hnn hdbg
    refine test (PySem.W.Looks.here LM ?_)
    refine codeAny_handlers_suite_as (HandSPX.lands_againZ fl3 fun h4 fl4 up4 => ?_)
    have J4 : Inv X pins σ1 H1 { s1 with heap := h4 } := J.landed nb fl4.1 ((up.trans up3).trans up4) os ag
    obtain ⟨oe4, vs4, he4, hz4, hd4⟩ := fl4.there
    have S4 := J4.suite he4 hd4 na nL nF
    refine store_ok (X := X.suite a ((a, oe4) :: (X.pn ++ pins))) (σ := σ1) (H := H1) (i := i) (x := n) (v := V.ref a) S4 hN hi (.inl hln) rfl (fun s5 S5 => ?_) (.inr hln)
    refine wpAny_mono ((hsu a oe4 cls d (X.pn ++ pins) hz4 ⟨vs4, hd4⟩).run [] s5 _ H1 _ S5 (hyes a na)) (fun f s6 hsp => ?_) (fun _ _ z => z.elim)
    cases f with
    | next =>
      obtain ⟨σ6, H6, S6, q6⟩ := hsp
      have P6 : Inv X ((a, oe4) :: pins) σ6 H6 s6 := ⟨ok, S6.os, S6.bare, S6.base, S6.loc, S6.cell, S6.free, S6.freeC, fun p hp => S6.pin p (by
        have : p ∈ (a, oe4) :: (X.pn ++ pins) := by
          rcases List.mem_append.mp hp with h | h
          · exact List.mem_cons_of_mem _ (List.mem_append_left _ h)
          · rcases List.mem_cons.mp h with rfl | h
            · exact List.mem_cons_self
            · exact List.mem_cons_of_mem _ (List.mem_append_right _ h)
        exact List.mem_append_left _ this), S6.hok, S6.len⟩
      refine gone_ok P6 hN hi hln fun s7 J7 => ⟨σ6.set i none, upd H6 a (exk a C d), inv_note J7 hex n0 (by rw [hz4.1, hC]) hz4.2 hd4 npin, q6 (J7.pin (a, oe4) (by simp)).2.1⟩
    | brk => obtain ⟨_, _, _, q⟩ := hsp; exact q.elim
    | cont => obtain ⟨_, _, _, q⟩ := hsp; exact q.elim
    | ret u => obtain ⟨_, _, _, _, _, q⟩ := hsp; exact q.elim
end L2.HW
namespace L2.HW
open PySem PySem.Spec PyProof.Rows
def ten : List Str := ["NoWeb", "NoMoment", "NoNumber", "NoRoad", "NoCut", "NoShape", "NotTree", "NotRoad", "NoText", "Unlike"]
def hasteS : Str := "HasteError"
structure KX (K : PySem.W.Frag) (C : Addr) : Prop where
  cl : (PySem.W.clsIn K C).isSome = true
  ga : PySem.W.findIn K (.ref C) "__getattribute__" = some (some (.builtin "BaseException.__getattribute__"))
  gt : PySem.W.findIn K (.ref C) "__getattr__" = some none
  sb : PySem.W.subIn K (.ref C) (.type "BaseException") = some true
  cc : PySem.W.findIn K (.ref C) "__class__" = some (some (.builtin "object.__class__"))
  sp : PySem.W.specialIn K (.builtin "object.__class__") "__get__" = some (some (.builtin "getset_descriptor.__get__"))
  tk : PySem.W.takesIn K (.builtin "object.__class__") = some true
  mo : PySem.W.mroIn K C (.type "object") = some true
def kxB (K : PySem.W.Frag) (C : Addr) : Bool :=
  (PySem.W.clsIn K C).isSome && (decide (PySem.W.findIn K (.ref C) "__getattribute__" = some (some (.builtin "BaseException.__getattribute__"))) && (decide (PySem.W.findIn K (.ref C) "__getattr__" = some none) &&
  (decide (PySem.W.subIn K (.ref C) (.type "BaseException") = some true) && (decide (PySem.W.findIn K (.ref C) "__class__" = some (some (.builtin "object.__class__"))) && (decide (PySem.W.specialIn K (.builtin "object.__class__") "__get__" = some (some (.builtin "getset_descriptor.__get__"))) &&
  (decide (PySem.W.takesIn K (.builtin "object.__class__") = some true) && decide (PySem.W.mroIn K C (.type "object") = some true)))))))
theorem kxB_ok {K : PySem.W.Frag} {C : Addr} (h : kxB K C = true) : KX K C := by
  unfold kxB at h
  simp only [Bool.and_eq_true, decide_eq_true_eq] at h
  obtain ⟨h1, h2, h3, h4, h5, h6, h7, h8⟩ := h
  exact ⟨h1, h2, h3, h4, h5, h6, h7, h8⟩
def isErr (x y : Str) : Bool := decide (x = y) || decide (y = hasteS)
structure ExcAll (K : PySem.W.Frag) (mg : Str → Option Value) : Prop where
  at_ : ∀ x ∈ hasteS :: ten, ∃ C : Addr, mg x = some (.ref C)
  kx : ∀ x ∈ ten, ∀ C, mg x = some (.ref C) → KX K C
  ko : ∀ x ∈ ten, ∀ y ∈ hasteS :: ten, ∀ C D, mg x = some (.ref C) → mg y = some (.ref D) → PySem.W.kitOne K (.ref C) (.ref D) = some (isErr x y)
  kv : ∀ x ∈ ten, ∀ C, mg x = some (.ref C) → PySem.W.kitOne K (.ref C) (.type "ValueError") = some true
  kn : ∀ y ∈ hasteS :: ten, ∀ D, mg y = some (.ref D) → PySem.W.kitOne K (.type "NoneType") (.ref D) = some false
  nv : PySem.W.kitOne K (.type "NoneType") (.type "ValueError") = some false
  em : ∀ x ∈ ten, ∀ C D, mg x = some (.ref C) → mg hasteS = some (.ref D) → PySem.W.exmOne K (.ref C) (.ref D) = some true
def excAllB (K : PySem.W.Frag) : Bool :=
  (hasteS :: ten).all (fun x => He.Fa.ok K (.glo x)) && (ten.all (fun x => kxB K (He.ga K x) && ((hasteS :: ten).all (fun y => decide (PySem.W.kitOne K (.ref (He.ga K x)) (.ref (He.ga K y)) = some (isErr x y))) &&
    (decide (PySem.W.kitOne K (.ref (He.ga K x)) (.type "ValueError") = some true) && decide (PySem.W.exmOne K (.ref (He.ga K x)) (.ref (He.ga K hasteS)) = some true)))) &&
  ((hasteS :: ten).all (fun y => decide (PySem.W.kitOne K (.type "NoneType") (.ref (He.ga K y)) = some false)) && decide (PySem.W.kitOne K (.type "NoneType") (.type "ValueError") = some false)))
theorem excAll_of {K : PySem.W.Frag} {mg : Str → Option Value} {h : Heap} (X : K.In h) (G : h.Ns mainGlobals mg) (e : excAllB K = true) : ExcAll K mg := by
  unfold excAllB at e
  simp only [Bool.and_eq_true, List.all_eq_true, decide_eq_true_eq] at e
  obtain ⟨e1, e2, e3, e4⟩ := e
  have g : ∀ x ∈ hasteS :: ten, mg x = some (.ref (He.ga K x)) := fun x hx => He.glo_ok X G (e1 x hx)
  have gt : ∀ x ∈ ten, mg x = some (.ref (He.ga K x)) := fun x hx => g x (List.mem_cons_of_mem _ hx)
  have u : ∀ {x : Str} {C D : Addr}, mg x = some (.ref C) → mg x = some (.ref D) → C = D := fun a b => by rw [a] at b; cases b; rfl
  refine ⟨fun x hx => ⟨_, g x hx⟩, fun x hx C hC => ?_, fun x hx y hy C D hC hD => ?_, fun x hx C hC => ?_, fun y hy D hD => ?_, e4, fun x hx C D hC hD => ?_⟩
  · rw [u hC (gt x hx)]; exact kxB_ok (e2 x hx).1
  · rw [u hC (gt x hx), u hD (g y hy)]; exact (e2 x hx).2.1 y hy
  · rw [u hC (gt x hx)]; exact (e2 x hx).2.2.1
  · rw [u hD (g y hy)]; exact e3 y hy
  · rw [u hC (gt x hx), u hD (g hasteS List.mem_cons_self)]; exact (e2 x hx).2.2.2
def rIsX (K : PySem.W.Frag) : List V → Hp → VK → Prop := fun xs H Q => ∃ (x c : V) (u : Value) (b : Bool), xs = [x, c] ∧ ClsV c u ∧
  ((∃ t, TyX K H x t ∧ PySem.W.kitOne K t u = some b) ∨ ∃ (a C : Addr) (d : Option Addr), x = .ref a ∧ H a = some (exk a C d) ∧ KX K C ∧ (∀ dd, d = some dd → ∃ fs, H dd = some (.xd fs)) ∧ PySem.W.kitOne K (.ref C) u = some b) ∧ Q (.bl b) H
theorem call_isX {X : Cx} : CallR X (.builtin "isinstance") (rIsX X.K) := by
  intro pins s σ H xs us Q I r h
  obtain ⟨x, c, u, b, rfl, k, hx, q⟩ := h
  rcases hx with ⟨t, ty, e⟩ | ⟨a, C, d, rfl, ha, kx, hd, e⟩
  · exact call_isi pins s σ H _ us Q I r ⟨x, c, t, u, b, rfl, k, ty, e, q⟩
  · obtain ⟨u1, u2, rfl, r1, r2⟩ := vals2 r
    have e2 := ClsV.eq k r2
    subst e2
    cases r1
    obtain ⟨⟨oe, vs, g1, g2, g3, g4⟩, _⟩ := I.hok a _ ha
    have at_ : ∃ od, PySem.W.InstAt s.heap a oe C od := by
      cases d with
      | none => exact ⟨none, g1, g2, by unfold PySem.W.notCls; rw [g4], by rw [g3]; trivial⟩
      | some dd =>
        obtain ⟨fs, hf⟩ := hd dd rfl
        obtain ⟨mA, ⟨o, es, ep, k1, _⟩, _⟩ := I.hok dd _ hf
        exact ⟨some o, g1, g2, by unfold PySem.W.notCls; rw [g4], by rw [g3]; exact k1⟩
    obtain ⟨od, at_⟩ := at_
    have Z := PySem.W.kitx_exc (x := a) (ox := oe) (od := od) kx.cl kx.ga kx.gt kx.sb kx.cc kx.sp kx.tk kx.mo
    exact PySem.W.kia_one Z I.kIn at_ e (by intro z; cases z) fun tk => ⟨.bl b, H, I.tok tk, rfl, q⟩
def eIsE (x : Str) (f : EF) : EF := fun env L => (f env L).bind fun w L1 => match w with
  | .exc c _ => if c ∈ ten then .ok (.d (.bool (isErr c x || decide (x = "ValueError")))) L1 else .stuck
  | .d .none => .ok (.d (.bool false)) L1
  | _ => .stuck
section
variable {X : Cx} {Wx : WX} {k : Nat}
theorem rp_excd {K : PySem.W.Frag} {mg : Str → Option Value} {H : Hp} {P : List Addr} {al : List Addr} {v : V} {c : Str} {g : Option PyData} (r : Rp K mg (mask H P) al v (.exc c g)) : ∃ (a C : Addr) (d : Option Addr), v = .ref a ∧ H a = some (exk a C d) ∧ mg c = some (.ref C) ∧ ∀ dd, d = some dd → ∃ fs, H dd = some (.xd fs) := by
  cases r with
  | @exc a C _ _ d h1 h2 =>
    obtain ⟨C', q1, q2, q3⟩ := h2
    cases q2
    refine ⟨a, C, d, rfl, (of_mask h1).2, q1, fun dd e => ?_⟩
    cases g with
    | none => rw [q3] at e; cases e
    | some x =>
      obtain ⟨dd', v, e1, e2, _⟩ := q3
      rw [e1] at e
      cases e
      exact ⟨_, (of_mask e2).2⟩
theorem se_isE {y : Str} {p q pos : Pos} {e : Expr} {f : EF} (E : ExcAll X.K X.mg) (hg : Gl X "isinstance") (hm : X.mg "isinstance" = none) (ha : SE X Wx e f) (hy : y ∈ hasteS :: ten := by decide) (hg2 : Gl X y := by rfl) (hd2 : (y == ("__debug__" : Str)) = false := by decide)
    (he : starEach (e :: [.Name y q]) X.env = (false, eval e X.env) :: starEach [.Name y q] X.env := by rfl) : SE X Wx (.Call (.Name "isinstance" p) [e, .Name y q] [] pos) (eIsE y f) := by
  obtain ⟨D, hD⟩ := E.at_ y hy
  have nv : ¬ y = ("ValueError" : Str) := by
    intro z
    rw [z] at hy
    exact absurd hy (by decide)
  refine PE.imp (pe_callB call_isX hg hm (by decide +kernel) (pa_cons ha (pa_cons (pe_glob (v := .ref D) hg2 hD rfl hd2) pa_nil) he) (by decide) (by decide) he rfl) ?_
  rintro σ H Q ⟨env, L, al, T', c, h⟩
  refine rseq (R := RV X) c h fun v H1 w L1 al1 c1 s1 r1 q1 => ?_
  split at q1
  · rename_i cn g
    split at q1
    · rename_i hc
      obtain ⟨a, C, d, rfl, ea, ec, ed⟩ := rp_excd r1
      have : (isErr cn y || decide (y = ("ValueError" : Str))) = isErr cn y := by rw [decide_eq_false nv, Bool.or_false]
      rw [this] at q1
      exact ⟨.ref a, .ref D, .ref D, isErr cn y, rfl, .own D, .inr ⟨a, C, d, rfl, ea, E.kx cn hc C ec, ed, E.ko cn hc y hy C D ec hD⟩, gok c1.rel q1 (.d (.bl _))⟩
    · exact q1.elim
  · have : v = .non := by
      cases r1 with
      | d r => cases r; rfl
    subst this
    exact ⟨.non, .ref D, .ref D, false, rfl, .own D, .inl ⟨_, .base .non, E.kn y hy D hD⟩, gok c1.rel q1 (.d (.bl _))⟩
  · exact q1.elim
theorem se_isV {p q pos : Pos} {e : Expr} {f : EF} (E : ExcAll X.K X.mg) (hg : Gl X "isinstance") (hm : X.mg "isinstance" = none) (hm2 : X.mg "ValueError" = none) (ha : SE X Wx e f) (hg2 : Gl X "ValueError" := by rfl)
    (he : starEach (e :: [.Name "ValueError" q]) X.env = (false, eval e X.env) :: starEach [.Name "ValueError" q] X.env := by rfl) : SE X Wx (.Call (.Name "isinstance" p) [e, .Name "ValueError" q] [] pos) (eIsE "ValueError" f) := by
  refine PE.imp (pe_callB call_isX hg hm (by decide +kernel) (pa_cons ha (pa_cons (pe_bltn (v := .ty "ValueError") hg2 hm2 (by decide +kernel) rfl (by decide) (by decide)) pa_nil) he) (by decide) (by decide) he rfl) ?_
  rintro σ H Q ⟨env, L, al, T', c, h⟩
  refine rseq (R := RV X) c h fun v H1 w L1 al1 c1 s1 r1 q1 => ?_
  split at q1
  · rename_i cn g
    split at q1
    · rename_i hc
      obtain ⟨a, C, d, rfl, ea, ec, ed⟩ := rp_excd r1
      simp only [decide_true, Bool.or_true] at q1
      exact ⟨.ref a, .ty "ValueError", .type "ValueError", true, rfl, .ty _, .inr ⟨a, C, d, rfl, ea, E.kx cn hc C ec, ed, E.kv cn hc C ec⟩, gok c1.rel q1 (.d (.bl _))⟩
    · exact q1.elim
  · have : v = .non := by
      cases r1 with
      | d r => cases r; rfl
    subst this
    exact ⟨.non, .ty "ValueError", .type "ValueError", false, rfl, .ty _, .inl ⟨_, .base .non, E.nv⟩, gok c1.rel q1 (.d (.bl _))⟩
  · exact q1.elim
def sTry (i j : Nat) (f : SFn) : SFn := fun env L => match f env L with
  | .exc c g env1 L1 => if c ∈ ten ∧ i < env1.length then .nx ((env1.set j (some (.exc c g))).set i none) L1 else .stuck
  | o => o
end
end L2.HW
namespace L2.HW
open PySem PySem.Spec PyProof.Rows
section
variable {X : Cx} {Wx : WX} {k : Nat}
theorem conf_none {K : PySem.W.Frag} {mg : Str → Option Value} {σ : St} {H : Hp} {env : En} {L : LH} {al T : List Addr} (c : Conf K mg σ H env L al T) (i : Nat) : Conf K mg (σ.set i none) H (env.set i none) L al T :=
  ⟨c.rel, by simpa using c.len, fun j u e => by
    by_cases h : i = j
    · subst h
      by_cases q : i < env.length
      · rw [List.getElem?_set_self q] at e; cases e
      · rw [List.getElem?_eq_none (by simpa using q)] at e; cases e
    · rw [List.getElem?_set_ne h] at e
      obtain ⟨v, h1, h2⟩ := c.slot j u e
      exact ⟨v, by rw [List.getElem?_set_ne h]; exact h1, h2⟩⟩
theorem ss_try {n y : Str} {i j : Nat} {body : List Stmt} {np p1 p2 p3 pos pos' : Pos} {fb : SFn} (c : CtxF X Wx k) (E : ExcAll X.K X.mg) (hij : i ≠ j)
    (hb : ∀ (W : WX) (pn : List (Addr × Obj)) (xe : Value → Shared → Prop), CtxF (X.tr pn xe) W k → SB (X.tr pn xe) W body fb)
    (hi : X.N[i]? = some n := by rfl) (hj : X.N[j]? = some y := by rfl) (hln : X.env.kindOf n = some .local := by rfl) (hv : Vis X.env.scope n := by exact Or.inl rfl) (hy : Loc X.env.scope y := by first | exact Or.inl rfl | exact Or.inr rfl)
    (hst : X.stack = X.env :: X.outer := by rfl) (hf : X.env.frame = some X.env.locals := by rfl) (hex : X.ex = [] := by rfl) (hgh : Gl X hasteS := by rfl)
    (hd : (n == ("__debug__" : Str)) = false := by decide) (hcd : (n == ("__classdict__" : Str)) = false := by decide) (hsw : swapsWith (.Name n p2) (some (.Name y p1)) p3.line X.env = pure false := by rfl)
    (hfy : X.fn y = true ∨ X.env.scope.names.lookup y = some .local := by first | exact .inl rfl | exact .inr rfl) :
    SS X Wx (.Try body [.ExceptHandler (some (.Name hasteS np)) (some n) [.Assign [.Name y p1] (.Name n p2) p3] pos'] [] [] pos) (sTry i j fb) := by
  obtain ⟨D, hD⟩ := E.at_ hasteS List.mem_cons_self
  refine PS.imp (ps_try_keep (c := .ref D) (i := i) (tb := fun W => SRdg (X.tr X.pn X.xe) W fb) (ts := fun a cls d => fun D σ H => ∃ v, σ[i]? = some (some v) ∧ D.nx (σ.set j (some v)) H) hst hf hex c.nd hi hln ⟨hgh, by decide, .inl hD⟩ (fun W pn xe tk pa => ?_) (fun a oe cls d pn hz hv' => ?_)) ?_
  · have := hb W pn xe ⟨⟨c.gd, c.rm, tk, c.cm, c.nd⟩, pa⟩
    exact this
  · refine PSs.imp (pss_one (ps_set (X := X.suite a ((a, oe) :: pn)) c.nd hj hy (pe_var hi hv hd hcd) hsw hfy)) ?_
    rintro D σ H ⟨v, h1, h2⟩
    exact ⟨v, h1, h2⟩
  · rintro D2 σ H ⟨env, L, al, T, cf, h⟩
    refine ⟨env, L, al, T, cf, ?_⟩
    unfold sTry at h
    revert h
    generalize fb env L = r
    intro h
    cases r with
    | nx env1 L1 => exact h
    | rt w L1 => exact h
    | rf o L1 => exact h
    | bk env1 L1 => exact h
    | ct env1 L1 => exact h
    | stuck => exact h
    | exc cn g env1 L1 =>
      simp only at h
      split at h
      · rename_i hcl
        obtain ⟨hc, hlt⟩ := hcl
        intro cls d σ' H' al' s cf' ex
        obtain ⟨C, q1, q2, q3⟩ := ex
        subst q2
        refine ⟨E.em cn hc C D q1 hD, C, rfl, fun a ha => ?_⟩
        have hlen := cf'.len
        have hil : i < σ'.length := by omega
        · refine ⟨.ref a, by rw [List.getElem?_set_self hil], fun _ => ?_⟩
          have hal := s.rel.alloc (o := exk a C d) ha
          have na := s.rel.fresh ha
          have s2 := Stp.trans cf.rel.len s hal
          have cf2 := cf'.stp hal
          have ex2 : ExR X.mg (mask (upd H' a (exk a C d)) (al' ++ T)) cn g (.ref C) d := ExR.le hal.le ⟨C, q1, rfl, q3⟩
          have rp : Rp X.K X.mg (mask (upd H' a (exk a C d)) (al' ++ T)) al' (.ref a) (.exc cn g) := .exc (mask_of (by simp [na.1, na.2]) upd_same) ex2
          refine h _ _ al' s2 ?_
          have e1 := conf_none (cf2.put (i := j) rp) i
          have e2 : (((σ'.set i (some (.ref a))).set j (some (.ref a))).set i none) = ((σ'.set j (some (.ref a))).set i none) := by
            rw [List.set_comm _ _ hij, List.set_set]
          rw [e2]
          exact e1
      · exact h.elim
def zipV (ws us : List Va) : List Va := List.zipWith (fun w u => mkTup [w, u]) ws us
def srcZ (fs : En → LH → Res (List Va)) : Srcf := fun env L => (fs env L).bind fun ws L1 => match ws with
  | [w, u] => match srcOf w L1, srcOf u L1 with
    | some (xs, none), some (ys, none) => match w, u with
      | .d (.list _), .d (.list _) => .ok (zipV xs ys, none) L1
      | .d (.tuple _), .d (.tuple _) => .ok (zipV xs ys, none) L1
      | _, _ => .stuck
    | _, _ => .stuck
  | _ => .stuck
theorem zipV_at {ws us : List Va} {i : Nat} {x : Va} (e : (zipV ws us)[i]? = some x) : ∃ w u, ws[i]? = some w ∧ us[i]? = some u ∧ x = mkTup [w, u] := by
  unfold zipV at e
  rw [List.getElem?_zipWith] at e
  cases e1 : ws[i]? with
  | none => rw [e1] at e; simp at e
  | some w =>
    cases e2 : us[i]? with
    | none => rw [e1, e2] at e; simp at e
    | some u =>
      rw [e1, e2] at e
      simp at e
      exact ⟨w, u, rfl, rfl, e.symm⟩
theorem wlk_zip {K : PySem.W.Frag} {mg : Str → Option Value} {H : Hp} {al T : List Addr} {L : LH} {sq : Hp → Addr → List V → Prop} {J : Addr → Addr → It} {a b : Addr} {vs us : List V} {ws xs : List Va}
    (hJ : J = fun a b => ⟨fun i H => ∃ xs ys x y, sq H a xs ∧ sq H b ys ∧ xs[i]? = some x ∧ ys[i]? = some y, fun i H v H' => ∃ T x y, v = V.ref T ∧ H T = none ∧ H' = upd H T (.tup [x, y]) ∧ (∀ xs, sq H a xs → xs[i]? = some x) ∧ ∀ ys, sq H b ys → ys[i]? = some y, fun i H => ∃ xs ys, sq H a xs ∧ sq H b ys ∧ (xs.length ≤ i ∨ ys.length ≤ i)⟩)
    (hs : ∀ H1 al1 T1 L1, Stp K mg H al T L H1 al1 T1 L1 → sq H1 a vs) (hu : ∀ H1 al1 T1 L1, Stp K mg H al T L H1 al1 T1 L1 → sq H1 b us) (r : Rps K mg (mask H (al ++ T)) al vs ws) (q : Rps K mg (mask H (al ++ T)) al us xs) : Wlk K mg H al T L (J a b) (zipV ws xs) := by
  subst hJ
  intro H1 al1 T1 L1 s
  have h1 := hs H1 al1 T1 L1 s
  have h2 := hu H1 al1 T1 L1 s
  have r1 := s.rps r
  have q1 := s.rps q
  refine ⟨⟨vs, us, h1, h2, ?_⟩, fun i w e => ?_⟩
  · have e1 := Paired.length r1
    have e2 := Paired.length q1
    have : (zipV ws xs).length = min ws.length xs.length := by unfold zipV; simp
    omega
  · obtain ⟨x, y, ex, ey, rfl⟩ := zipV_at e
    obtain ⟨v, e2, p2⟩ := rps_get r1 ex
    obtain ⟨v', e3, p3⟩ := rps_get q1 ey
    refine ⟨⟨vs, us, v, v', h1, h2, e2, e3⟩, fun z H2 yy => ?_⟩
    obtain ⟨p, x', y', rfl, hp, rfl, y1, y2⟩ := yy
    have k1 := y1 vs h1
    have k2 := y2 us h2
    rw [e2] at k1; cases k1
    rw [e3] at k2; cases k2
    have st := s.rel.alloc (o := .tup [v, v']) hp
    obtain ⟨n1, n2⟩ := s.rel.fresh hp
    exact ⟨st, rp_mkTup (mask_of (by simp [n1, n2]) upd_same) (.cons (st.rp p2) (.cons (st.rp p3) .nil))⟩
theorem si_zip {e e2 : Expr} {fs : En → LH → Res (List Va)} {p pos tpos : Pos} {elts : List Expr} {kk : Nat} (hg : Gl X "zip") (hm : X.mg "zip" = none) (ha : SA X Wx [e, e2] fs) (hs : starEach [e, e2] X.env = (false, eval e X.env) :: starEach [e2] X.env := by rfl)
    (hpl : ((backTo pos (starEach [e2] X.env)).any fun x => x.1) = false := by rfl) :
    SI X Wx (.Tuple elts kk tpos) (.Call (.Name "zip" p) [e, e2] [] pos) (srcZ fs) := by
  refine PI.imp (RZ.pi_zipA hg hm ha hs hpl) ?_
  rintro σ H R ⟨env, L, al, T, c, q⟩
  unfold srcZ at q
  refine iseq (R := RVs X) c q fun vs H1 ws L1 al1 c1 s1 r1 q1 => ?_
  split at q1
  · rename_i w u
    split at q1
    · rename_i xs ys e1 e2
      cases r1 with
      | cons rv r1 =>
        cases r1 with
        | cons ru r1 =>
          cases r1
          split at q1
          · cases rv with
            | d rv =>
              cases rv with
              | lst m1 d1 =>
                cases ru with
                | d ru =>
                  cases ru with
                  | lst m2 d2 =>
                    cases e1
                    cases e2
                    refine ⟨_, _, _, _, rfl, .inl ⟨SqL.of (of_mask m1).2, SqL.of (of_mask m2).2, q1 _ H1 al1 (Stp.refl c1.rel) ?_⟩⟩
                    exact wlk_zip (sq := fun H a xs => SqL X.K H a xs) (J := fun a b => Itz X.K a b) rfl (fun H1 al1 T1 L1 s => SqL.of (of_mask (s.le _ _ m1)).2) (fun H1 al1 T1 L1 s => SqL.of (of_mask (s.le _ _ m2)).2) (all_dq d1) (all_dq d2)
          · cases rv with
            | d rv =>
              cases rv with
              | tup m1 d1 =>
                cases ru with
                | d ru =>
                  cases ru with
                  | tup m2 d2 =>
                    cases e1
                    cases e2
                    refine ⟨_, _, _, _, rfl, .inr ⟨SqT.of (of_mask m1).2, SqT.of (of_mask m2).2, q1 _ H1 al1 (Stp.refl c1.rel) ?_⟩⟩
                    exact wlk_zip (sq := fun H a xs => SqT X.K H a xs) (J := fun a b => RZ.ItzT X.K a b) rfl (fun H1 al1 T1 L1 s => SqT.of (of_mask (s.le _ _ m1)).2) (fun H1 al1 T1 L1 s => SqT.of (of_mask (s.le _ _ m2)).2) (all_dq d1) (all_dq d2)
          · exact q1.elim
    · exact q1.elim
  · exact q1.elim
end
end L2.HW
namespace L2.HW
open PySem PySem.Spec PyProof.Rows
end L2.HW
namespace L2.HW
open PySem PySem.Spec PyProof.Rows
section
variable {X : Cx} {Wx : WX} {k : Nat}
def mIndex : Va → List Va → LH → Res Va := fun w ws L => match w, ws with
  | .d (.list ds), [.d d] => if SeqAt.shaped (.list ds) = true ∧ SeqAt.shaped d = true then (match ds.findIdx? (fun z => PyData.eqv z d) with
    | some j => .ok (.d (.int (j : Nat))) L
    | none => .stuck) else .stuck
  | _, _ => .stuck
end
@[simp] theorem u_mIndex w ws L : mIndex w ws L = (match w, ws with
  | .d (.list ds), [.d d] => if SeqAt.shaped (.list ds) = true ∧ SeqAt.shaped d = true then (match ds.findIdx? (fun z => PyData.eqv z d) with
    | some j => .ok (.d (.int (j : Nat))) L
    | none => .stuck) else .stuck
  | _, _ => .stuck) := by first | exact (rfl) | (unfold mIndex; exact (rfl))
end L2.HW
namespace L2.HW
open PySem PySem.Spec PyProof.Rows
section
variable {K : PySem.W.Frag} {mg : Str → Option Value} {H H1 H2 : Hp} {al al1 al2 T T1 T2 : List Addr} {L L1 L2 : LH} {D : Addr}
theorem upd_upd (H : Hp) (D : Addr) (o z : HO) : upd (upd H D o) D z = upd H D z := by
  funext b
  by_cases e : b = D
  · subst e; rw [upd_same, upd_same]
  · rw [upd_ne e, upd_ne e, upd_ne e]
theorem upd_id {H : Hp} {D : Addr} {o : HO} (e : H D = some o) : upd H D o = H := by
  funext b
  by_cases z : b = D
  · subst z; rw [upd_same, e]
  · rw [upd_ne z]
abbrev zD : HO := .lst []
theorem mask_D {H : Hp} {o : HO} (h : D ∈ T) : mask (upd H D o) (al ++ T) = mask H (al ++ T) := mask_in (List.mem_append_right _ h)
theorem Rel.atD {o : HO} (h : D ∈ T) (r : Rel K mg H al T L) : Rel K mg (upd H D o) al T L := by
  refine ⟨r.len, r.nd, r.dis, fun a ha => ?_, fun n ob e => ?_⟩
  · by_cases z : a = D
    · subst z; rw [upd_same]; simp
    · rw [upd_ne z]; exact r.trk a ha
  · obtain ⟨a, e1, q⟩ := r.cell n ob e
    have na : a ≠ D := by
      rintro rfl
      exact r.dis a (List.mem_of_getElem? e1) h
    refine ⟨a, e1, ?_⟩
    rw [mask_D h]
    exact ObR.le (Le.refl _) (ALe.refl _) (fun o e => by rw [upd_ne na]; exact e) q
def GoD (K : PySem.W.Frag) (mg : Str → Option Value) (D : Addr) (H : Hp) (al T : List Addr) (L : LH) (H' : Hp) (al' T' : List Addr) (L' : LH) : Prop :=
  Stp K mg (upd H D zD) al T L (upd H' D zD) al' T' L'
theorem GoD.mem (h : D ∈ T) (g : GoD K mg D H al T L H1 al1 T1 L1) : D ∈ T1 := by
  obtain ⟨te, e, _⟩ := g.text
  rw [e]; exact List.mem_append_right _ h
theorem GoD.rel (h : D ∈ T) (hd : H1 D ≠ none) (g : GoD K mg D H al T L H1 al1 T1 L1) : Rel K mg H1 al1 T1 L1 := by
  cases e : H1 D with
  | none => exact absurd e hd
  | some o =>
    have r := (Stp.rel g).atD (o := o) (g.mem h)
    rw [upd_upd, upd_id e] at r
    exact r
theorem GoD.of (h : D ∈ T) (s : Stp K mg H al T L H1 al1 T1 L1) (hd : H D ≠ none) : GoD K mg D H al T L H1 al1 T1 L1 := by
  have m1 : D ∈ T1 := by
    obtain ⟨te, e, _⟩ := s.text
    rw [e]; exact List.mem_append_right _ h
  have nn : ∀ b, H b = none → (upd H D zD) b = none := fun b e => by
    have : b ≠ D := by rintro rfl; exact hd e
    rw [upd_ne this]; exact e
  obtain ⟨be, e1, f1⟩ := s.ext
  obtain ⟨te, e2, f2⟩ := s.text
  refine ⟨s.rel.atD m1, ⟨be, e1, fun b hb => nn b (f1 b hb)⟩, ⟨te, e2, fun b hb => nn b (f2 b hb)⟩, fun b o e na => ?_, fun b e => ?_, s.lck, s.alv⟩
  · by_cases z : b = D
    · subst z; rw [upd_same] at e ⊢; exact e
    · rw [upd_ne z] at e ⊢; exact s.frame b o e na
  · by_cases z : b = D
    · subst z; rw [upd_same]; simp
    · rw [upd_ne z] at e ⊢; exact s.stay b e
theorem GoD.upd {o : HO} (g : GoD K mg D H al T L H1 al1 T1 L1) : GoD K mg D H al T L (upd H1 D o) al1 T1 L1 := by
  unfold GoD
  rw [upd_upd]
  exact g
theorem GoD.trans (hl : al.length = L.length) (g : GoD K mg D H al T L H1 al1 T1 L1) (k : GoD K mg D H1 al1 T1 L1 H2 al2 T2 L2) : GoD K mg D H al T L H2 al2 T2 L2 := Stp.trans hl g k
theorem GoD.opened (r : Rel K mg H al T L) (h : D ∈ T) {lk : Option Nat} (g : GoD K mg D H al T (lockL lk L) H1 al1 T1 L1) : GoD K mg D H al T L H1 al1 T1 (openL lk L L1) := Stp.opened (r.atD h) g
theorem GoD.rps (h : D ∈ T) (g : GoD K mg D H al T L H1 al1 T1 L1) {v : List V} {w : List Va} (r : Rps K mg (mask H (al ++ T)) al v w) : Rps K mg (mask H1 (al1 ++ T1)) al1 v w := by
  have q := Stp.rps g (v := v) (w := w) (by rw [mask_D h]; exact r)
  rw [mask_D (g.mem h)] at q
  exact q
theorem GoD.frame (g : GoD K mg D H al T L H1 al1 T1 L1) {a : Addr} {o : HO} (na : a ≠ D) (e : H a = some o) (n : ¬ Alv al L a) : H1 a = some o := by
  have q := Stp.frame g a o (by rw [upd_ne na]; exact e) n
  rw [upd_ne na] at q
  exact q
end
end L2.HW
namespace L2.HW
open PySem PySem.Spec PyProof.Rows
def pickL {α : Type} (is : List Nat) (ws : List α) : List α := is.filterMap fun i => ws[i]?
section
variable {X : Cx} {Wx : WX} {k j : Nat} {ps ks : List Str} {is : List Nat} {kk : List (List Str × List Nat)} {x : Str} {p pos : Pos} {kws : List Keyword} {fs : En → LH → Res (List Va)}
def eCallK (F : Fn) (m : Nat) (is : List Nat) (fs : En → LH → Res (List Va)) : EF := fun env L => (fs env L).bind fun ws L1 => if ws.length = m then F (pickL is ws) L1 else .stuck
def fCallK (F : FnF) (m : Nat) (is : List Nat) (fs : En → LH → Res (List Va)) : En → LH → Res Ob := fun env L => (fs env L).bind fun ws L1 => if ws.length = m then F (pickL is ws) L1 else .stuck
end
@[simp] theorem u_eCallK (F : Fn) (m : Nat) (is : List Nat) (fs : En → LH → Res (List Va)) env L : eCallK F m is fs env L = ((fs env L).bind fun ws L1 => if ws.length = m then F (pickL is ws) L1 else .stuck) := by unfold eCallK; exact (rfl)
@[simp] theorem u_fCallK (F : FnF) (m : Nat) (is : List Nat) (fs : En → LH → Res (List Va)) env L : fCallK F m is fs env L = ((fs env L).bind fun ws L1 => if ws.length = m then F (pickL is ws) L1 else .stuck) := by unfold fCallK; exact (rfl)
end L2.HW
namespace L2.HW
open PySem PySem.Spec PyProof.Rows
section
variable {X : Cx} {Wx : WX} {k : Nat}
def eSetdT (f g h : EF) : EF := fun env L => (f env L).bind fun w L1 => if isD L1 w then (g env L1).bind fun u L2 => (h env L2).bind fun z L3 => match w, u with
  | .loc n, .d (.tuple xs) => match L3[n]?, intsOf xs with
    | some (some (.di [])), some ns => .ok z (L3.set n (some (.dt [(ns, z)])))
    | some (some (.dt ks)), some ns => match alook ks ns with
      | some x => .ok x L3
      | none => if ks.length < sizeLine then .ok z (L3.set n (some (.dt (aput ks ns z)))) else .stuck
    | _, _ => .stuck
  | _, _ => .stuck
  else .stuck
end
@[simp] theorem u_eSetdT (f g h : EF) env L : eSetdT f g h env L = ((f env L).bind fun w L1 => if isD L1 w then (g env L1).bind fun u L2 => (h env L2).bind fun z L3 => match w, u with
  | .loc n, .d (.tuple xs) => match L3[n]?, intsOf xs with
    | some (some (.di [])), some ns => .ok z (L3.set n (some (.dt [(ns, z)])))
    | some (some (.dt ks)), some ns => match alook ks ns with
      | some x => .ok x L3
      | none => if ks.length < sizeLine then .ok z (L3.set n (some (.dt (aput ks ns z)))) else .stuck
    | _, _ => .stuck
  | _, _ => .stuck
  else .stuck) := by unfold eSetdT; exact (rfl)
end L2.HW
namespace L2.HW
open PySem PySem.Spec PyProof.Rows
end L2.HW
namespace L2.HW
open PySem PySem.Spec PyProof.Rows
section
variable {X : Cx} {Wx : WX} {k : Nat}
def cSortedD : List Va → LH → Res Ob := fun ws L => match ws with
  | [.dct ks] => if ks.length < 64 then .ok (.lst ((sortI (ks.map (·.1))).map fun i => .d (.int i))) L else .stuck
  | _ => .stuck
def eLt4 (fa fb fc fd : EF) : EF := fun env L => (fa env L).bind fun a L1 => (fb env L1).bind fun b L2 => match a, b with
  | .d (.int i), .d (.int j) => if i < j then (fc env L2).bind fun c L3 => match c with
      | .d (.int k) => if j < k then (fd env L3).bind fun d L4 => match d with
          | .d (.int m) => .ok (.d (.bool (decide (k < m)))) L4
          | _ => .stuck
        else .ok (.d (.bool false)) L3
      | _ => .stuck
    else .ok (.d (.bool false)) L2
  | _, _ => .stuck
@[simp] theorem u_eLt4 (fa fb fc fd : EF) env L : eLt4 fa fb fc fd env L = ((fa env L).bind fun a L1 => (fb env L1).bind fun b L2 => match a, b with
  | .d (.int i), .d (.int j) => if i < j then (fc env L2).bind fun c L3 => match c with
      | .d (.int k) => if j < k then (fd env L3).bind fun d L4 => match d with
          | .d (.int m) => .ok (.d (.bool (decide (k < m)))) L4
          | _ => .stuck
        else .ok (.d (.bool false)) L3
      | _ => .stuck
    else .ok (.d (.bool false)) L2
  | _, _ => .stuck) := by unfold eLt4; exact (rfl)
@[simp] theorem u_cSortedD ws L : cSortedD ws L = (match ws with
  | [.dct ks] => if ks.length < 64 then .ok (.lst ((sortI (ks.map (·.1))).map fun i => .d (.int i))) L else .stuck
  | _ => .stuck) := by unfold cSortedD; exact (rfl)
end
end L2.HW
namespace L2.HW
open PySem PySem.Spec PyProof.Rows
section
variable {X : Cx} {Wx : WX}
def sAugL (i : Nat) (f : EF) : SFn := fun env L => match env[i]? with
  | some (some (.loc n)) => (f env L).then env fun w L1 => match L1[n]?, w.items L1 with
    | some (some (.lst ws)), some us => if ws.length + us.length ≤ sizeLine then .nx (env.set i (some (.loc n))) (L1.set n (some (.lst (ws ++ us)))) else .stuck
    | _, _ => .stuck
  | _ => .stuck
end
@[simp] theorem u_sAugL (i : Nat) (f : EF) env L : sAugL i f env L = (match env[i]? with
  | some (some (.loc n)) => (f env L).then env fun w L1 => match L1[n]?, w.items L1 with
    | some (some (.lst ws)), some us => if ws.length + us.length ≤ sizeLine then .nx (env.set i (some (.loc n))) (L1.set n (some (.lst (ws ++ us)))) else .stuck
    | _, _ => .stuck
  | _ => .stuck) := by unfold sAugL; rfl
end L2.HW
namespace L2.HW
open PySem PySem.Spec PyProof.V PyProof.Rows RZ
open PySem.Sem (wp)
section
variable {X : Cx} {Wx : WX} {k : Nat}
def srcZM (fs : En → LH → Res (List Va)) : Srcf := fun env L => (fs env L).bind fun ws L1 => match ws with
  | [.d (.tuple xs), w] => match srcOf w L1 with
    | some p => match w with
      | .loc _ => .ok (zipV (xs.map Va.d) p.1, p.2) L1
      | .d (.list _) => .ok (zipV (xs.map Va.d) p.1, p.2) L1
      | _ => .stuck
    | none => .stuck
  | _ => .stuck
@[simp] theorem u_srcZM (fs : En → LH → Res (List Va)) env L : srcZM fs env L = ((fs env L).bind fun ws L1 => match ws with
  | [.d (.tuple xs), w] => match srcOf w L1 with
    | some p => match w with
      | .loc _ => .ok (zipV (xs.map Va.d) p.1, p.2) L1
      | .d (.list _) => .ok (zipV (xs.map Va.d) p.1, p.2) L1
      | _ => .stuck
    | none => .stuck
  | _ => .stuck) := by unfold srcZM; exact (rfl)
end
end L2.HW
namespace L2.HW
open PySem PySem.Spec PyProof.Rows
end L2.HW
namespace L2.HW
open PySem PySem.Spec PyProof.Rows
section
variable {X : Cx} {Wx : WX}
def dcompL2 (g : Va → En → LH → Res En) (s1 : Srcf) (g1 : Va → En → LH → Res En) (fk fv : EF) (vs1 : List Nat) : List Va → List (Int × Va) → En → LH → Res (List (Int × Va))
  | [], acc, _, L => .ok acc L
  | w :: ws, acc, env, L => match g w env L with
    | .ok env1 L1 => match s1 env1 L1 with
      | .ok p L2 => match dcompL g1 tTrue fk fv p.1 acc (wipeE env1 vs1) (lockL p.2 L2) with
        | .ok acc1 L3 => dcompL2 g s1 g1 fk fv vs1 ws acc1 env (openL p.2 L2 L3)
        | _ => .stuck
      | _ => .stuck
    | _ => .stuck
def fin3 (lk : Option Nat) (L1 : LH) (r : Res (List (Int × Va))) : Res Ob := match r with
  | .ok us L3 => .ok (.di us) (openL lk L1 L3)
  | _ => .stuck
def fDComp2 (s : Srcf) (g : Va → En → LH → Res En) (s1 : Srcf) (g1 : Va → En → LH → Res En) (fk fv : EF) (vs vs1 : List Nat) : En → LH → Res Ob := fun env L => (s env L).bind fun p L1 =>
  fin3 p.2 L1 (dcompL2 g s1 g1 fk fv vs1 p.1 [] (wipeE env vs) (lockL p.2 L1))
@[simp] theorem u_fDComp2 (s : Srcf) (g : Va → En → LH → Res En) (s1 : Srcf) (g1 : Va → En → LH → Res En) (fk fv : EF) (vs vs1 : List Nat) (env : En) (L : LH) : fDComp2 s g s1 g1 fk fv vs vs1 env L = ((s env L).bind fun p L1 => fin3 p.2 L1 (dcompL2 g s1 g1 fk fv vs1 p.1 [] (wipeE env vs) (lockL p.2 L1))) := rfl
end
end L2.HW
set_option maxHeartbeats 4000000
namespace L2.HW
open PySem PySem.Spec PyProof.Rows
end L2.HW
set_option maxHeartbeats 200000
namespace L2.HW
open PySem PySem.Spec PyProof.Rows
def insKy {α : Type} (q : Int × α) : List (Int × α) → List (Int × α)
  | [] => [q]
  | a :: r => if q.1 ≤ a.1 then q :: a :: r else a :: insKy q r
def sortKy {α : Type} : List (Int × α) → List (Int × α)
  | [] => []
  | q :: r => insKy q (sortKy r)
end L2.HW
namespace L2.HW
open PySem PySem.Spec PyProof.Rows
section
variable {X : Cx} {Wx : WX}
def Va.rows (L : LH) : Va → Option (List Va)
  | .d (.tuple ds) => some (ds.map .d)
  | w => w.items L
def sAugR (i : Nat) (f : EF) : SFn := fun env L => match env[i]? with
  | some (some (.loc n)) => (f env L).then env fun w L1 => match L1[n]?, w.rows L1 with
    | some (some (.lst ws)), some us => if ws.length + us.length ≤ sizeLine then .nx (env.set i (some (.loc n))) (L1.set n (some (.lst (ws ++ us)))) else .stuck
    | _, _ => .stuck
  | _ => .stuck
end
@[simp] theorem u_sAugR (i : Nat) (f : EF) env L : sAugR i f env L = (match env[i]? with
  | some (some (.loc n)) => (f env L).then env fun w L1 => match L1[n]?, w.rows L1 with
    | some (some (.lst ws)), some us => if ws.length + us.length ≤ sizeLine then .nx (env.set i (some (.loc n))) (L1.set n (some (.lst (ws ++ us)))) else .stuck
    | _, _ => .stuck
  | _ => .stuck) := by unfold sAugR; rfl
@[simp] theorem rows_tuple (L : LH) (ds : List PyData) : (Va.d (.tuple ds)).rows L = some (ds.map .d) := (rfl)
@[simp] theorem rows_list (L : LH) (ds : List PyData) : (Va.d (.list ds)).rows L = some (ds.map .d) := (rfl)
def keyL (F : Fn) : List Va → LH → Res (List Int)
  | [], L => .ok [] L
  | w :: ws, L => match F [w] L with
    | .ok (.d (.int k)) L1 => (keyL F ws L1).bind fun ks L2 => .ok (k :: ks) L2
    | _ => .stuck
def fSortK (F : Fn) (fs : En → LH → Res (List Va)) : En → LH → Res Ob := fun env L => (fs env L).bind fun vs L1 => match vs with
  | [w] => match w.items L1 with
    | some ws => (keyL F ws L1).bind fun ks L2 => .ok (.lst ((sortKy (ks.zip ws)).map (·.2))) L2
    | none => .stuck
  | _ => .stuck
@[simp] theorem u_fSortK (F : Fn) (fs : En → LH → Res (List Va)) env L : fSortK F fs env L = ((fs env L).bind fun vs L1 => match vs with
  | [w] => match w.items L1 with
    | some ws => (keyL F ws L1).bind fun ks L2 => .ok (.lst ((sortKy (ks.zip ws)).map (·.2))) L2
    | none => .stuck
  | _ => .stuck) := by unfold fSortK; exact (rfl)
end L2.HW
namespace L2.HW
open PySem PySem.Spec PyProof.Rows
section
variable {X : Cx} {Wx : WX} {k : Nat}
def mPopAt : Va → List Va → LH → Res Va := fun w ws L => match w, ws with
  | .loc n, [.d (.int i)] => match L[n]? with
    | some (some (.lst us)) => if 0 ≤ i ∧ i < 2 ^ 63 then match us[i.toNat]? with
      | some u => .ok u (L.set n (some (.lst (us.eraseIdx i.toNat))))
      | none => .stuck
      else .stuck
    | _ => .stuck
  | _, _ => .stuck
def deepL (L : LH) : List Va → Option (List PyData)
  | [] => some []
  | w :: ws => match w.data L, deepL L ws with
    | some x, some xs => some (x :: xs)
    | _, _ => none
def opInL (neg : Bool) : Op2 := fun w u L => match u.items L, w.data L with
  | some ws, some x => match deepL L ws with
    | some ds => if SeqAt.shaped x && SeqAt.shaped (.list ds) then .ok (.d (.bool (if neg then !(ds.any fun z => PyData.eqv z x) else ds.any fun z => PyData.eqv z x))) L else .stuck
    | none => .stuck
  | _, _ => .stuck
variable {a b : Expr} {fa fb : EF} {pos : Pos}
end
@[simp] theorem u_mPopAt w ws L : mPopAt w ws L = (match w, ws with
  | .loc n, [.d (.int i)] => match L[n]? with
    | some (some (.lst us)) => if 0 ≤ i ∧ i < 2 ^ 63 then match us[i.toNat]? with
      | some u => .ok u (L.set n (some (.lst (us.eraseIdx i.toNat))))
      | none => .stuck
      else .stuck
    | _ => .stuck
  | _, _ => .stuck) := by unfold mPopAt; exact (rfl)
@[simp] theorem u_opInL (neg : Bool) w u L : opInL neg w u L = (match u.items L, w.data L with
  | some ws, some x => match deepL L ws with
    | some ds => if SeqAt.shaped x && SeqAt.shaped (.list ds) then .ok (.d (.bool (if neg then !(ds.any fun z => PyData.eqv z x) else ds.any fun z => PyData.eqv z x))) L else .stuck
    | none => .stuck
  | _, _ => .stuck) := by unfold opInL; exact (rfl)
end L2.HW
namespace L2.HW
open PySem PySem.Spec PyProof.Rows
section
variable {X : Cx} {Wx : WX}
def cIntS : List Va → LH → Res Va := fun ws L => match ws with
  | [.d (.str a)] => match PySem.intText? a with
    | some n => if a.length ≤ 640 then .ok (.d (.int n)) L else .stuck
    | none => .stuck
  | _ => .stuck
theorem ok_intS : OkC X (fun xs H Q => ∃ a n, xs = [.str a] ∧ PySem.intText? a = some n ∧ a.length ≤ 640 ∧ Q (.int n) H) cIntS := by
  intro Wx σ H al T L xs ws Q r q h
  unfold cIntS at h
  split at h
  · rename_i a
    split at h
    · rename_i n e
      split at h
      · rename_i hz
        obtain ⟨v, rfl, q1⟩ := rps_1 q
        exact ⟨a, n, by rw [dq_str (rp_d q1)], e, hz, gok r h (.d (.int n))⟩
      · exact h.elim
    · exact h.elim
  · exact h.elim
variable {e o : Expr} {fs : En → LH → Res (List Va)} {p pos apos : Pos}
theorem w_intS (hm : X.mg "int" = none) (ha : SA X Wx [e] fs) (hg : Gl X "int" := by rfl) (he : starEach [e] X.env = (false, eval e X.env) :: starEach [] X.env := by rfl) (hpl : (backTo pos (starEach [] X.env)).any (·.1) = false := by rfl) :
    SE X Wx (.Call (.Name "int" p) [e] [] pos) (eCallB cIntS fs) := se_callTy call_int_str ok_intS hg hm rfl ha (by decide) (by decide) he hpl
@[simp] theorem u_cIntS (ws : List Va) (L : LH) : cIntS ws L = (match ws with
  | [.d (.str a)] => match PySem.intText? a with
    | some n => if a.length ≤ 640 then .ok (.d (.int n)) L else .stuck
    | none => .stuck
  | _ => .stuck) := (rfl)
def strRep (k : Nat) (a : Str) : Str := ⟨(List.replicate k a.cps).foldl (· ++ ·) #[]⟩
theorem foldl_size (xs : List (Array Nat)) : ∀ (acc : Array Nat), (xs.foldl (· ++ ·) acc).size = acc.size + (xs.map Array.size).sum := by
  induction xs with
  | nil => intro acc; simp
  | cons a xs ih =>
    intro acc
    rw [List.foldl_cons, ih, Array.size_append, List.map_cons, List.sum_cons]
    omega
theorem strRep_len (k : Nat) (a : Str) : (strRep k a).length = a.length * k := by
  show ((List.replicate k a.cps).foldl (· ++ ·) #[]).size = a.cps.size * k
  rw [foldl_size]
  induction k with
  | zero => simp
  | succ k ih =>
    rw [List.replicate_succ, List.map_cons, List.sum_cons, Nat.mul_succ]
    simp only [List.size_toArray, List.length_nil, Nat.zero_add] at ih ⊢
    omega
def rMulS : R2 := fun x y H Q => ∃ (a : Str) (k : Int), x = .str a ∧ y = .int k ∧ 2 ≤ k ∧ k ≤ 1000 ∧ 0 < a.length ∧ a.length ≤ 1000 ∧ Q (.str (strRep k.toNat a)) H
theorem op_mulS : OpR X (binaryOp .Mult) rMulS := by
  intro pins s σ H x y v u Q I rx ry h
  obtain ⟨a, k, rfl, rfl, h1, h2, h3, h4, q⟩ := h
  obtain ⟨t, rfl⟩ := rx
  obtain ⟨t', rfl⟩ := ry
  have c1 : ¬ k < 1 := by omega
  have c2 : (k == 1 || a.length == 0) = false := by
    have e1 : (k == 1) = false := by simp; omega
    have e2 : (a.length == 0) = false := by simp; omega
    rw [e1, e2]; rfl
  have m : a.length * k.toNat ≤ 1000 * 1000 := Nat.mul_le_mul h4 (by omega)
  have tl : Builtin.Str.tooLong (a.length * k.toNat) = false := by
    simp only [Builtin.Str.tooLong, sizeLine_eq, decide_eq_false_iff_not]
    omega
  refine PySem.P.mul_str (by
    have e1 : ¬ k < -(2 ^ 63) := by omega
    have e2 : ¬ k ≥ 2 ^ 63 := by omega
    rw [decide_eq_false e1, decide_eq_false e2]; rfl) (fun _ _ z => ?_) (fun _ _ => tl) ?_
  · have h5 : (1000 : Int) * k ≤ 2 ^ 63 - 1 := by omega
    have : (1000 : Int) ≤ (2 ^ 63 - 1) / k := (Int.le_ediv_iff_mul_le (by omega)).mpr h5
    omega
  · rw [if_neg c1, c2]
    exact ⟨by
      have := strRep_len k.toNat a
      show (strRep k.toNat a).length ≤ _
      rw [this]
      rw [sizeLine_eq]
      omega, ⟨.str (strRep k.toNat a), H, I.tok _, ⟨_, rfl⟩, q⟩⟩
def opMulS : Op2 := fun w u L => match w, u with
  | .d (.str a), .d (.int k) => if 2 ≤ k ∧ k ≤ 1000 ∧ 0 < a.length ∧ a.length ≤ 1000 then .ok (.d (.str (strRep k.toNat a))) L else .stuck
  | _, _ => .stuck
theorem ok_mulS : Ok2 X rMulS opMulS := by
  intro Wx σ H al T L x y w u Q r q1 q2 h
  unfold opMulS at h
  split at h
  · split at h
    · rename_i a k hc
      exact ⟨a, k, dq_str (rp_d q1), dq_int (rp_d q2), hc.1, hc.2.1, hc.2.2.1, hc.2.2.2, gok r h (.d (.str _))⟩
    · exact h.elim
  · exact h.elim
@[simp] theorem u_opMulS (w u : Va) (L : LH) : opMulS w u L = (match w, u with
  | .d (.str a), .d (.int k) => if 2 ≤ k ∧ k ≤ 1000 ∧ 0 < a.length ∧ a.length ≤ 1000 then .ok (.d (.str (strRep k.toNat a))) L else .stuck
  | _, _ => .stuck) := (rfl)
variable {a b : Expr} {fa fb fo fe : EF}
theorem w_mulS (ha : SE X Wx a fa) (hb : SE X Wx b fb) : SE X Wx (.BinOp a .Mult b pos) (eOp opMulS fa fb) := se_op op_mulS ok_mulS ha hb
def fSplit (fo fe : EF) : En → LH → Res Ob := fun env L => (fo env L).bind fun w L1 => match w with
  | .d (.str a) => (fe env L1).bind fun u L2 => match u with
    | .d (.str b) => if (b.length == 0) = false ∧ a.length + 2 ≤ sizeLine then .ok (.lst (((Txt.split a b).map PyData.str).map Va.d)) L2 else .stuck
    | _ => .stuck
  | _ => .stuck
@[simp] theorem u_fSplit (env : En) (L : LH) : fSplit fo fe env L = ((fo env L).bind fun w L1 => match w with
  | .d (.str a) => (fe env L1).bind fun u L2 => match u with
    | .d (.str b) => if (b.length == 0) = false ∧ a.length + 2 ≤ sizeLine then .ok (.lst (((Txt.split a b).map PyData.str).map Va.d)) L2 else .stuck
    | _ => .stuck
  | _ => .stuck) := (rfl)
def strsOf : List PyData → Option (List Str)
  | [] => some []
  | .str s :: xs => (strsOf xs).map (s :: ·)
  | _ :: _ => none
theorem strsOf_eq : ∀ {xs : List PyData} {ss : List Str}, strsOf xs = some ss → xs = ss.map PyData.str
  | [], ss, h => by
    cases h; rfl
  | .str s :: xs, ss, h => by
    simp only [strsOf, Option.map_eq_some_iff] at h
    obtain ⟨l, h1, h2⟩ := h
    rw [← h2, strsOf_eq h1]
    rfl
  | .none :: _, _, h => by cases h
  | .bool _ :: _, _, h => by cases h
  | .int _ :: _, _, h => by cases h
  | .list _ :: _, _, h => by cases h
  | .tuple _ :: _, _, h => by cases h
  | .dict _ :: _, _, h => by cases h
theorem strsOf_map (ss : List Str) : strsOf (ss.map PyData.str) = some ss := by
  induction ss with
  | nil => rfl
  | cons s ss ih => simp [strsOf, ih]
theorem vs_strs {M : Hp} : ∀ {vs : List V} {ss : List Str}, DqAll M vs (ss.map PyData.str) → vs = ss.map V.str
  | [], [], _ => rfl
  | _, s :: ss, .cons a b => by rw [dq_str a, vs_strs b]; rfl
def joinOk (a : Str) (ys : List Str) : Bool := decide ((ys.map (·.length)).sum + ys.length * a.length ≤ 16777216)
def eJoin (fo fe : EF) : EF := fun env L => (fo env L).bind fun w L1 => match w with
  | .d (.str a) => (fe env L1).bind fun u L2 => match u.data L2 with
    | some (.list xs) => match strsOf xs with
      | some ys => if joinOk a ys then .ok (.d (.str (Txt.join a ys))) L2 else .stuck
      | none => .stuck
    | _ => .stuck
  | _ => .stuck
@[simp] theorem u_eJoin (env : En) (L : LH) : eJoin fo fe env L = ((fo env L).bind fun w L1 => match w with
  | .d (.str a) => (fe env L1).bind fun u L2 => match u.data L2 with
    | some (.list xs) => match strsOf xs with
      | some ys => if joinOk a ys then .ok (.d (.str (Txt.join a ys))) L2 else .stuck
      | none => .stuck
    | _ => .stuck
  | _ => .stuck) := (rfl)
theorem se_join (ho : SE X Wx o fo) (he : SE X Wx e fe) (hs : starEach [e] X.env = [(false, eval e X.env)] := by rfl) (hbase : attributeBase o "join" X.env (eval o X.env) = eval o X.env := by rfl) (hline : (apos.endLine == pos.line) = true := by rfl) :
    SE X Wx (.Call (.Attribute o "join" apos) [e] [] pos) (eJoin fo fe) := by
  refine PE.imp (pe_join ho he hs hbase hline) ?_
  rintro σ H Q ⟨env, L, al, T, c, q⟩
  refine rseq (R := RV X) c q fun v H1 w L1 al1 c1 s1 r1 q1 => ?_
  split at q1
  · rename_i a
    obtain rfl := dq_str (rp_d r1)
    refine ⟨⟨a, rfl⟩, rseq (R := RV X) c1 q1 fun v2 H2 w2 L2 al2 c2 s2 r2 q2 => ?_⟩
    split at q2
    · rename_i xs ed
      split at q2
      · rename_i ys ey
        split at q2
        · rename_i hc
          have hx := strsOf_eq ey
          subst hx
          cases data_ok c2.rel r2 ed with
          | lst e1 dd =>
            rw [vs_strs dd] at e1
            exact ⟨a, _, ys, rfl, rfl, .inl (SqL.of e1), of_decide_eq_true hc, gok c2.rel q2 (.d (.str _))⟩
        · exact q2.elim
      · exact q2.elim
    · exact q2.elim
  · exact q1.elim
def signsV (z : Str) : List Va := z.cps.toList.map fun c => Va.d (.str ⟨#[c]⟩)
def srcS (f : EF) : Srcf := fun env L => (f env L).bind fun w L1 => match w with
  | .d (.str z) => .ok (signsV z, none) L1
  | _ => .stuck
@[simp] theorem u_srcS {f : EF} (env : En) (L : LH) : srcS f env L = ((f env L).bind fun w L1 => match w with
  | .d (.str z) => .ok (signsV z, none) L1
  | _ => .stuck) := (rfl)
def srcEk (fs : En → LH → Res (List Va)) : Srcf := fun env L => (fs env L).bind fun ws L1 => match ws with
  | [.d (.list ds), .d (.int k)] => if -(2 ^ 63) ≤ k ∧ k < 2 ^ 63 then .ok (enumV k (ds.map Va.d), none) L1 else .stuck
  | _ => .stuck
@[simp] theorem u_srcEk (env : En) (L : LH) : srcEk fs env L = ((fs env L).bind fun ws L1 => match ws with
  | [.d (.list ds), .d (.int k)] => if -(2 ^ 63) ≤ k ∧ k < 2 ^ 63 then .ok (enumV k (ds.map Va.d), none) L1 else .stuck
  | _ => .stuck) := (rfl)
end
end L2.HW
namespace PySem
namespace TxX
open PySem.W PySem.Calls PyProof.Rows PySem.HandSPX
def iA (p1 p2 : Pos) : Arguments := { posonlyargs := [], args := [{ arg := "self", annotation := none, pos := p1 }, { arg := "spot", annotation := none, pos := p2 }], vararg := none, kwonlyargs := [], kw_defaults := [], kwarg := none, defaults := [] }
def iB (q1 q2 q3 q4 : Pos) : List Stmt := [.Assign [.Attribute (.Name "self" q1) "spot" q2] (.Name "spot" q3) q4]
def iS : Scope := { kind := .function, names := [(PySem.Str.ofString "self", .local), (PySem.Str.ofString "spot", .local)], isGenerator := false, isCoroutine := false, more := [] }
structure SpotTxt (K : Frag) (mg : Str → Option Value) (C fI : Addr) : Prop where
  gC : mg "NoText" = some (.ref C)
  cls : ∃ nm q N bs bm sn sub ab col dd k0 k1 k2 k3 k5, K.lookup C = some (excClassObj nm q C N bs bm true sn sub ab col dd k0 k1 k2 k3 k5 "ValueError.__new__") ∧ refsVE bm = true
  sa : findIn K (.ref C) "__setattr__" = some (some (.builtin "object.__setattr__"))
  ga : findIn K (.ref C) "__getattribute__" = some (some (.builtin "BaseException.__getattribute__"))
  gg : findIn K (.ref C) "__getattr__" = some none
  noN : findIn K (.ref C) "spot" = some none
  iC : findIn K (.ref C) "__init__" = some (some (.ref fI))
  tC : typeIn K (.ref fI) = some (.type "function")
  kC : keepIn K (.ref C) = true
  exC : subIn K (.ref C) (.type "BaseException") = some true
  tyC : typeIn K (.ref C) = some (.type "type")
  hdC : hasDictIn K C = true
  te : exmOne K (.ref C) (.ref C) = some true
  fn : ∃ (oc : Value) (od : Option Addr) (doc pm : Value) (an : Option Addr) (cdv ct kV : Value) (osl : Array (Option Value)) (p1 p2 q1 q2 q3 q4 : Pos),
    K.lookup fI = some ⟨oc, od, .func (fnOf "__init__" "NoText.__init__" (iA p1 p2) (iB q1 q2 q3 q4) iS .none kV doc pm an cdv ct), osl⟩ ∧ codeIn K cdv "NoText.__init__" = true
theorem one_size (v : Value) : [v].length ≤ sizeLine := by
  rw [sizeLine_eq]
  exact (by decide : 1 ≤ 16777216)
theorem ldC {M : Model} {s : Shared} {name : Str} {scope : Scope} {L a : Addr} {cd : Value} {m : Str → Option Value} {x : Str} {pos : Pos} {v : Value} {Q : Value → Shared → Prop} {A : Around} {E : Value → Shared → Prop} (hn : s.heap.Ns L m) (hv : m x = some v) (h : Q v s)
    (hk : scope.kind = .function := by rfl) (hl : (envOfC name scope L a cd).kindOf x = some .local := by rfl) (hd : (x == ("__debug__" : Str)) = false := by decide) :
    wpAny M A (eval (.Name x pos) (envOfC name scope L a cd)) Q E s := wpAny_Name (wpAny_loadName_local hk hl hn hv h) hd
structure InitEnd (h h' : Heap) (x C dx t1 : Addr) (v : Value) : Prop where
  keep : ∀ b o, b ≠ x → h.get? b = some o → h'.get? b = some o
  obj : h'.get? x = some { cls := .ref C, dict := some dx, data := .fields #[.ref t1, .none, .none, .none, .bool false, .none] }
  dbig : h.objs.size ≤ dx
  dne : dx ≠ x
  ns : h'.Ns1 dx (fun y => if y = "spot" then some v else none)
structure OwnMade (h h' : Heap) (e C d : Addr) (v : Value) : Prop where
  keep : ∀ b o, h.get? b = some o → h'.get? b = some o
  new : h.objs.size ≤ e
  obj : ∃ oe vs, h'.get? e = some oe ∧ oe.cls = .ref C ∧ oe.dict = some d ∧ oe.data = .fields vs ∧ vs[1]? = some .none
  dbig : h.objs.size ≤ d
  dne : d ≠ e
  ns : h'.Ns1 d (fun y => if y = "spot" then some v else none)
section
variable {prog : Program} {w : World} {A : Around} {E : Value → Shared → Prop} {R : Result → Shared → Prop} {s : Shared} {K : Frag} {mg : Str → Option Value} {C fI : Addr}
theorem spot_init (T : SpotTxt K mg C fI) {x t0 : Addr} {v : Value} (X : K.In s.heap) (hlim : s.heap.NoLimit) (hx : s.heap.get? x = some (excO C t0)) (hnx : K.lookup x = none) (hroom : A.depth < recursionLimit)
    (hq : ∀ h' tk dx, InitEnd s.heap h' x C dx t0 v → R (.ok (.ret .none)) { s with heap := h', toks := tk }) :
    codeAny (model prog w) A (.call (.ref fI) ⟨[.ref x, v], []⟩) R s := by
  obtain ⟨oc, od, doc, pm, an, cdv, ct, kV, osl, p1, p2, q1, q2, q3, q4, ho, hcd⟩ := T.fn
  obtain ⟨nm, q, N, bs, bm, sn, sub, ab, col, dd, k0, k1, k2, k3, k5, hC, hbm⟩ := T.cls
  have hcl : clsIn K C = some { name := nm, bases := bs, mro := .ref C :: bm, ns := N, qualname := q, hasDict := true, slotNames := sn, subclasses := sub, abstract := ab, collection := col, hasDel := false } := by unfold clsIn; rw [hC] <;> rfl
  refine Att.call_fn (binds := [("self", .ref x), ("spot", v)]) X hlim ho hcd hroom (BindsTo.of_eq (by first | rfl | with_unfolding_all rfl)) (by first | rfl | decide | with_unfolding_all rfl) (fun s₁ IC => ?_) rfl rfl rfl
  obtain ⟨h₁, tk₁, rfl⟩ := IC.toInCall.same
  have k : ∀ b o, s.heap.get? b = some o → h₁.get? b = some o := IC.toInCall.keep
  have hn := IC.toInCall.ns
  have hxL : s.heap.objs.size ≠ x := Nat.ne_of_gt (Heap.lt_size hx)
  have X₁ : K.In h₁ := X.keeps k
  have hx₁ := k _ _ hx
  -- self.by = by
  show wpAny _ _ (execs _ _) _ _ _
  refine wpAny_execs_cons (plainObj_wpAny_Assign_Attribute ?_)
  refine ldC (v := v) hn (by first | rfl | with_unfolding_all rfl | kernel_rfl) (ldC (v := .ref x) hn (by first | rfl | with_unfolding_all rfl | kernel_rfl) ?_)
  refine set_plain X₁ (ox := excO C t0) (od := none) ⟨hx₁, rfl, rfl, trivial⟩ T.sa ?_
  refine exc_osa X₁ hx₁ hcl (show refsVE (.ref C :: bm) = true from hbm) rfl T.noN (fun h₃ tk₃ dx k₃ dn dne hx₃ hn₃ => ?_)
  show wpAny _ _ (execs _ _) _ _ _
  have z : s.heap.objs.size < h₁.objs.size := hn.lt
  exact wpAny_execs_nil (hq h₃ tk₃ dx ⟨fun b o hb e => k₃ b o hb (k b o e), hx₃, Nat.le_of_lt (Nat.lt_of_lt_of_le z dn), dne, hn₃⟩)
theorem spot_made (T : SpotTxt K mg C fI) {v : Value} (X : K.In s.heap) (hlim : s.heap.NoLimit) (hroom : A.depth + 1 < recursionLimit)
    (hq : ∀ h' tk e d, OwnMade s.heap h' e C d v → R (.ok (.ret (.ref e))) { s with heap := h', toks := tk }) :
    codeAny (model prog w) A (.call (.ref C) ⟨[v], []⟩) R s := by
  obtain ⟨nm, q, N, bs, bm, sn, sub, ab, col, dd, k0, k1, k2, k3, k5, hC, hbm⟩ := T.cls
  obtain ⟨hp, g, dr, tk, os⟩ := s
  have k : ∀ b o, hp.get? b = some o → ((hp.push (kdv_tup [v])).push (excO C hp.objs.size)).get? b = some o := fun b o e => Heap.get?_push_of_some _ (Heap.get?_push_of_some _ e)
  have hget : ((hp.push (kdv_tup [v])).push (excO C hp.objs.size)).get? (hp.objs.size + 1) = some (excO C hp.objs.size) := by heap_get
  have hnx : K.lookup (hp.objs.size + 1) = none := by
    cases e : K.lookup (hp.objs.size + 1) with
    | none => rfl
    | some o =>
      have z : hp.get? (hp.objs.size + 1) = some o := X _ _ e
      exact absurd (Nat.lt_of_succ_lt (Heap.lt_size z)) (Nat.lt_irrefl _)
  refine call_own F.excBase_ValueError (fun X => refsVE_contains X bm hbm) (X _ _ hC) (looks_findIn X T.iC) (fun self => bind_fn X self T.tC) (one_size v) ?_
  refine spot_init (s := ⟨(hp.push (kdv_tup [v])).push (excO C hp.objs.size), g, dr, tk, os⟩) T (X.keeps k) (hlim.keeps k) hget hnx ?_ fun h' tk' dx ⟨k', hx, dn, dne, hns⟩ => ?_
  · show A.depth + 1 < recursionLimit
    exact hroom
  · have old : ∀ b o, hp.get? b = some o → h'.get? b = some o := fun b o e => k' b o (Nat.ne_of_lt (Nat.lt_succ_of_lt (Heap.lt_size e))) (k b o e)
    have z : hp.objs.size + 1 + 1 ≤ dx := by
      first
        | (simpa only [Heap.size_push] using dn)
        | exact dn
        | (have q := dn; rw [Heap.size_push, Heap.size_push] at q; exact q)
    exact ⟨rfl, hq h' tk' (hp.objs.size + 1) dx ⟨old, Nat.le_succ _, ⟨_, _, hx, rfl, rfl, rfl, rfl⟩, Nat.le_trans (Nat.le_trans (Nat.le_succ _) (Nat.le_succ _)) z, dne, hns⟩⟩
end
end TxX
end PySem
namespace L2
open PySem PySem.Spec PyProof.Rows
theorem relO_spot {v : V} {v' : Value} (r : RelV v v') (f : Str) : RelO (List.lookup f [(("spot" : Str), v)]) (if f = "spot" then some v' else none) := by
  by_cases hw : f = "spot"
  · subst hw
    rw [if_pos rfl]
    have q : List.lookup ("spot" : Str) [(("spot" : Str), v)] = some v := by simp [List.lookup]
    rw [q]
    exact r
  · rw [if_neg hw]
    have qw : (f == ("spot" : Str)) = false := by simpa using hw
    have q2 : List.lookup f [(("spot" : Str), v)] = none := by simp [List.lookup, qw]
    rw [q2]
    trivial
section
variable {X : Cx} {C fI : Addr}
def tMkSpot (C : Addr) (ta : TA) : St → Hp → XK → Prop := fun σ H Q => ta σ H fun vs H1 => ∃ v, vs = [v] ∧ ∀ d, H1 d = none → Q (.ref C) (some d) (upd H1 d (.xd [(("spot" : Str), v)]))
theorem pmk_spot {a : Expr} {ta : TA} {p pos : Pos} {k : Nat} (T : PySem.TxX.SpotTxt X.K X.mg C fI) (hr : Room k X.A) (ha : PA X [a] ta) (hg : Gl X "NoText" := by rfl)
    (he : starEach (a :: []) X.env = (false, eval a X.env) :: starEach [] X.env := by rfl) (hpl : (backTo pos (starEach [] X.env)).any (·.1) = false := by rfl) :
    PMk X (.Call (.Name "NoText" p) [a] [] pos) (tMkSpot C ta) := by
  intro pins s σ H Q I h
  refine wpAny_Call_Name_kw (ld_glob I hg T.gC ?_)
  refine PySem.W.callWith_K (h₀ := X.base) I.ok.mod.kin T.kC (thn (ha.run pos pins s σ H _ I h) fun us s1 hh => ?_) he hpl
  obtain ⟨vs, H1, I1, r1, v, ev, q1⟩ := hh
  subst ev
  refine ⟨I1.kIn, ?_⟩
  cases r1 with
  | cons rv rn =>
    rename_i v' us'
    cases rn
    show wpAny _ _ (call (.ref C) [v']) _ _ _
    have hlim := I1.nolimit
    obtain ⟨hp, g, dr, tk, os⟩ := s1
    refine wpAny_call (PySem.TxX.spot_made T I1.kIn hlim (by have := hr.dp; omega) fun h' tk' e d M => ?_)
    show MkP X pins σ Q (.ref e) ⟨h', g, dr, tk', os⟩
    obtain ⟨oe, fv, hoe, hc, hd, hdat, h1⟩ := M.obj
    have hns := M.ns
    obtain ⟨G', g1, g2⟩ := restrict h' fun b => decide (b ≠ e)
    have gk : ∀ b, b ≠ e → G'.get? b = h'.get? b := fun b hb => g1 b (decide_eq_true hb)
    have ge : G'.get? e = none := g2 e (by simp)
    have old : ∀ b o, hp.get? b = some o → G'.get? b = some o := fun b o q => (gk b (Nat.ne_of_lt (Nat.lt_of_lt_of_le (Heap.lt_size q) M.new))).trans (M.keep b o q)
    have ob : ObjOk X.prog X.w (upd H1 d (.xd [(("spot" : Str), v)])) G' d (.xd [(("spot" : Str), v)]) :=
      ⟨_, hns.at (fun o q => (gk d M.dne).trans q), fun f => relO_spot rv f⟩
    have J : Inv X pins σ (upd H1 d (.xd [(("spot" : Str), v)])) ⟨G', g, dr, tk', os⟩ := I1.laid (t' := tk') old M.dbig ob
    refine ⟨e, oe, fv, ⟨G', g, dr, tk', os⟩, _, .ref C, some d, rfl, J, fun b o q => ?_, ge, hoe, ⟨hc, hd⟩, hdat, h1, ?_, rfl, I1.bare, raises_own T.exC T.tyC, q1 d (I1.hok.fresh M.dbig)⟩
    · by_cases hb : b = e
      · have q' : G'.get? b = some o := q
        rw [hb, ge] at q'; cases q'
      · exact (gk b hb).symm.trans q
    · rw [upd_ne (Ne.symm M.dne)]
      exact I1.hok.fresh M.new
end
end L2
namespace L2.HW
open PySem PySem.Spec PyProof.Rows
def exoB (K : PySem.W.Frag) (C : Addr) : Bool := match K.lookup C with
  | some ⟨.type "type", _, .cls cd, sl⟩ => (match cd.mro, sl.toList with
    | .ref C' :: bm, [_, _, _, _, some (.builtin n), _] => C' == C && n == "ValueError.__new__" && !cd.hasDel && cd.hasDict && PySem.HandSPX.refsVE bm
    | _, _ => false)
  | _ => false
theorem exo_of {K : PySem.W.Frag} {C : Addr} (q : exoB K C = true) : ∃ nm q N bs bm sn sub ab col dd k0 k1 k2 k3 k5, K.lookup C = some (excClassObj nm q C N bs bm true sn sub ab col dd k0 k1 k2 k3 k5 "ValueError.__new__") ∧ PySem.HandSPX.refsVE bm = true := by
  unfold exoB at q
  split at q
  · rename_i dd cd sl ho
    split at q
    · rename_i C' bm k0 k1 k2 k3 n k5 hm hs
      simp only [Bool.and_eq_true, beq_iff_eq, Bool.not_eq_true'] at q
      obtain ⟨⟨⟨⟨rfl, rfl⟩, hdel⟩, hdc⟩, ht⟩ := q
      obtain ⟨nm, bs, mro, ns, qn, hd, sn, sub, ab, col, del⟩ := cd
      dsimp only at hm hdel hdc
      subst hm hdel hdc
      have hsl : sl = #[k0, k1, k2, k3, some (.builtin "ValueError.__new__"), k5] := by
        obtain ⟨l⟩ := sl
        simp only at hs
        rw [hs]
      subst hsl
      exact ⟨nm, qn, ns, bs, bm, sn, sub, ab, col, dd, k0, k1, k2, k3, k5, ho, ht⟩
    · cases q
  · cases q
abbrev nTx : Str := "NoText"
def spotB (K : PySem.W.Frag) : Bool :=
  let C := He.ga K nTx
  let f := He.ma K C "__init__"
  He.Fa.ok K (.glo nTx) && (exoB K C && (decide (PySem.W.findIn K (.ref C) "__setattr__" = some (some (.builtin "object.__setattr__"))) && (decide (PySem.W.findIn K (.ref C) "__getattribute__" = some (some (.builtin "BaseException.__getattribute__"))) &&
  (decide (PySem.W.findIn K (.ref C) "__getattr__" = some none) && (decide (PySem.W.findIn K (.ref C) "spot" = some none) && (decide (PySem.W.findIn K (.ref C) "__init__" = some (some (.ref f))) && (decide (PySem.W.typeIn K (.ref f) = some (.type "function")) &&
  (PySem.W.keepIn K (.ref C) && (decide (PySem.W.subIn K (.ref C) (.type "BaseException") = some true) && (decide (PySem.W.typeIn K (.ref C) = some (.type "type")) && (PySem.W.hasDictIn K C && decide (PySem.W.exmOne K (.ref C) (.ref C) = some true))))))))))))
def SpotAt (st : Stmt) : Prop := ∃ p1 p2 q1 q2 q3 q4, defArgs st = PySem.TxX.iA p1 p2 ∧ defBody st = PySem.TxX.iB q1 q2 q3 q4 ∧ defScope st = PySem.TxX.iS
def TxtF (K : PySem.W.Frag) (mg : Str → Option Value) : Prop := ∃ C fI, PySem.TxX.SpotTxt K mg C fI
theorem txt_of {K : PySem.W.Frag} {mg : Str → Option Value} {h : Heap} {st : Stmt} {fd : FuncData} (X : K.In h) (G : h.Ns mainGlobals mg) (b : spotB K = true)
    (F : FunD K "__init__" "NoText.__init__" (defArgs st) (defBody st) (defScope st) [] [] (He.ma K (He.ga K nTx) "__init__") fd) (S : SpotAt st) : TxtF K mg := by
  obtain ⟨p1, p2, q1, q2, q3, q4, e1, e2, e3⟩ := S
  obtain ⟨oc, od, dV, kV, doc, pm, an, cdv, ct, osl, hfd, lk, hcd, dfl, _⟩ := F.ex
  unfold spotB at b
  simp only [Bool.and_eq_true, decide_eq_true_eq] at b
  obtain ⟨b1, b2, b3, b4, b5, b6, b7, b8, b9, b10, b11, b12, b13⟩ := b
  have dv : dV = .none := by
    rcases dfl with ⟨_, h⟩ | ⟨h, _⟩
    · exact h
    · exact absurd rfl h
  subst dv
  refine ⟨_, _, He.glo_ok X G b1, exo_of b2, b3, b4, b5, b6, b7, b8, b9, b10, b11, b12, b13, ⟨oc, od, doc, pm, an, cdv, ct, kV, osl, p1, p2, q1, q2, q3, q4, ?_, hcd⟩⟩
  rw [hfd, e1, e2, e3] at lk
  exact lk
section
variable {X : Cx} {Wx : WX} {k : Nat}
def sRaiseV (x : Str) (fs : En → LH → Res (List Va)) : SFn := fun env L => (fs env L).then env fun ws L1 => match ws with
  | [.d y] => .exc x (some y) env L1
  | _ => .stuck
theorem ss_raiseV {e : Expr} {fs : En → LH → Res (List Va)} {p pos pos2 : Pos} (c : Ctx X Wx k) (F : TxtF X.K X.mg) (ha : SA X Wx [e] fs) (h1 : 1 ≤ k := by decide) (hg : Gl X nTx := by rfl)
    (he : starEach [e] X.env = (false, eval e X.env) :: starEach [] X.env := by rfl) (hpl : (backTo pos (starEach [] X.env)).any (·.1) = false := by rfl) :
    SS X Wx (.Raise (some (.Call (.Name nTx p) [e] [] pos)) none pos2) (sRaiseV nTx fs) := by
  obtain ⟨C, fI, T⟩ := F
  refine PS.imp (ps_raise c.cm c.tk (pmk_spot T (c.rm.mono h1) ha hg he hpl)) ?_
  rintro D σ H ⟨env, L, al, U, cf, h⟩
  refine sseq (R := RVs X) cf h fun vs H1 ws L1 al1 c1 s1 r1 h1 => ?_
  split at h1
  · rename_i y
    obtain ⟨v, rfl, rv⟩ := rps_1 r1
    refine ⟨v, rfl, fun d hd => ?_⟩
    have st := c1.rel.alloc (o := .xd [(("spot" : Str), v)]) hd
    obtain ⟨n1, n2⟩ := c1.rel.fresh hd
    exact h1 (.ref C) (some d) σ _ al1 st (c1.stp st) ⟨C, T.gC, rfl, d, v, rfl, mask_of (by simp [n1, n2]) upd_same, rp_d (st.rp rv)⟩
  · exact h1.elim
@[simp] theorem u_sRaiseV (x : Str) (fs : En → LH → Res (List Va)) (env : En) (L : LH) : sRaiseV x fs env L = (fs env L).then env (fun ws L1 => match ws with
  | [.d y] => .exc x (some y) env L1
  | _ => .stuck) := (rfl)
def eSpot (f : EF) : EF := fun env L => (f env L).bind fun w L1 => match w with
  | .exc c (some y) => if c = nTx then .ok (.d y) L1 else .stuck
  | _ => .stuck
@[simp] theorem u_eSpot (f : EF) (env : En) (L : LH) : eSpot f env L = ((f env L).bind fun w L1 => match w with
  | .exc c (some y) => if c = nTx then .ok (.d y) L1 else .stuck
  | _ => .stuck) := (rfl)
def tSpotX (C : Addr) (te : TE) : TE := fun σ H Q => te σ H fun x H1 => ∃ (a dd : Addr) (v : V), x = .ref a ∧ H1 a = some (exk a C (some dd)) ∧ H1 dd = some (.xd [(("spot" : Str), v)]) ∧ Q v H1
theorem pe_spotX {C fI : Addr} {e : Expr} {te : TE} {pos : Pos} (T : PySem.TxX.SpotTxt X.K X.mg C fI) (he : PE X e te) (hb : attributeBase e "spot" X.env (eval e X.env) = eval e X.env := by rfl) : PE X (.Attribute e "spot" pos) (tSpotX C te) := by
  refine ⟨fun pins s σ H Q I h => ?_⟩
  refine attr_of hb (thn (he.run pins s σ H _ I h) fun u s1 hh => ?_)
  obtain ⟨x, H1, I1, rx, a, dd, v, ex, ha, ea, q⟩ := hh
  subst ex
  obtain rfl : u = Value.ref a := rx
  obtain ⟨⟨oe, vs, g1, g2, g3, g4⟩, _⟩ := I1.hok a _ ha
  have hx : ObjOk X.prog X.w H1 s1.heap dd (.xd [(("spot" : Str), v)]) := I1.hok dd _ ea
  obtain ⟨mA, hns, hr⟩ := hx
  obtain ⟨od, ho, hl⟩ := lookIn_ns hns
  have l : List.lookup ("spot" : Str) [(("spot" : Str), v)] = some v := by simp [List.lookup]
  obtain ⟨u, hu, ru⟩ := RelO.some_of (v := v) (o := mA "spot") (by rw [← l]; exact hr "spot")
  have J : PySem.W.InstAt s1.heap a oe C (some od) := ⟨g1, g2, by unfold PySem.W.notCls; rw [g4], by rw [g3]; exact ho⟩
  exact HandSPX.exc_get I1.kIn J T.ga T.gg T.exC (PySem.W.findObj_own T.hdC T.noN rfl (by rw [hl, hu])) (handed_of ru) ⟨v, H1, I1.tok _, ru, q⟩
theorem se_spot {e : Expr} {f : EF} {pos : Pos} (F : TxtF X.K X.mg) (he : SE X Wx e f) (hb : attributeBase e "spot" X.env (eval e X.env) = eval e X.env := by rfl) : SE X Wx (.Attribute e "spot" pos) (eSpot f) := by
  obtain ⟨C, fI, T⟩ := F
  refine PE.imp (pe_spotX T he hb) ?_
  rintro σ H Q ⟨env, L, al, U, c, q⟩
  refine rseq (R := RV X) c q fun v H1 w L1 al1 c1 s1 r1 q1 => ?_
  split at q1
  · rename_i cn y
    split at q1
    · rename_i hc
      subst hc
      cases r1 with
      | @exc a C' _ _ d h1 h2 =>
        obtain ⟨C2, e1, e2, dd, z, e3, e4, e5⟩ := h2
        cases e2
        subst e3
        have : C = C' := by
          have := T.gC
          rw [e1] at this
          cases this
          rfl
        subst this
        exact ⟨a, dd, z, rfl, (of_mask h1).2, (of_mask e4).2, gok c1.rel q1 (.d e5)⟩
    · exact q1.elim
  · exact q1.elim
end
end L2.HW
namespace L2.HW
open PySem PySem.Spec PyProof.Rows
def IteS (k0 : Int) (z : Str) : It :=
  ⟨fun i _ => i < z.cps.size, fun i H v H' => ∃ T c, v = .ref T ∧ H T = none ∧ H' = upd H T (.tup [.int (k0 + (i : Nat)), .str ⟨#[c]⟩]) ∧ z.cps[i]? = some c, fun i _ => z.cps.size = i⟩
theorem turn_enumS {P : Program} {w : World} {K : PySem.W.Frag} {elts : List Expr} {kk : Nat} {tpos : Pos} (k0 : Int) (z : Str) (t : Tok) (e it : Addr) :
    Turn P w K (.Tuple elts kk tpos) (IteS k0 z) [e, it] e (fun i h => (∃ old, IsEnum h e it (k0 + ((i : Nat) : Int)) old) ∧ h.IsStrIter it (strIterType z) z t i ∧ e ≠ it) where
  mem := by simp
  obj := fun i h st b hb => by
    obtain ⟨⟨old, he⟩, hi, _⟩ := st
    have e' : b = e ∨ b = it := by simpa using hb
    rcases e' with y | y
    · rw [y]; exact ⟨_, he, fun v q => nomatch q⟩
    · rw [y]
      obtain ⟨o, h1, h2, h3⟩ := hi
      exact ⟨o, h1, fun v q => by rw [h3] at q; cases q⟩
  keep := fun i h h' st k => let ⟨⟨old, he⟩, hi, hne⟩ := st; ⟨⟨old, k e (by simp) _ he⟩, let ⟨o, h1, h2⟩ := hi; ⟨o, k it (by simp) o h1, h2⟩, hne⟩
  item := by
    intro X hP hw hK hc i pins s σ H E I hf st hg
    subst hP hw
    obtain ⟨⟨old, he⟩, hit, hne⟩ := st
    have hg : i < z.cps.size := hg
    have hel : e < s.heap.objs.size := Heap.lt_size he
    have hil : it < s.heap.objs.size := by obtain ⟨o, q, _⟩ := hit; exact Heap.lt_size q
    have D := Draws.text (prog := X.prog) (w := X.w) (A := X.A.in1) (show X.A.in1.handled = none from I.ok.hd hc) it z t
    have hef : e ∉ [it] := by simp [hne]
    refine wpAny_pyNext_enum_itemC D he hit hg hne hef fun y h' tk hy ho hit' hT hsz hk => ?_
    obtain ⟨c, u, hcx, rfl⟩ := hy
    refine ⟨_, rfl, wpAny_letOwnedTupleGo_enum (s := { s with heap := h', toks := tk + 1 }) ho fun h'' he' sb => ?_⟩
    have hT2 : h''.get? s.heap.objs.size = some { cls := .type "tuple", data := .seq #[.int (k0 + (i : Nat)) tk, .str ⟨#[c]⟩ u] } := (sb.2 _ (Nat.ne_of_gt hel)).trans hT
    have new : ObjOk X.prog X.w (upd H s.heap.objs.size (.tup [.int (k0 + (i : Nat)), .str ⟨#[c]⟩])) h'' s.heap.objs.size (.tup [.int (k0 + (i : Nat)), .str ⟨#[c]⟩]) :=
      ⟨by show 2 ≤ sizeLine; decide, [.int (k0 + (i : Nat)) tk, .str ⟨#[c]⟩ u], .cons ⟨_, rfl⟩ (.cons ⟨u, rfl⟩ .nil), ⟨_, hT2, rfl, _, rfl⟩⟩
    have I1 : Inv X pins σ (upd H s.heap.objs.size (.tup [.int (k0 + (i : Nat)), .str ⟨#[c]⟩])) { s with heap := h'', toks := tk + 1 } :=
      I.turnedNew (ch := [e, it]) (fun b ob hb q => (sb.2 b (fun y => hb (by simp [y]))).trans (hk b ob (fun y => hb (by simp [y])) (fun y => hb (by simp [y])) q)) hf (Nat.le_refl _) new
    refine ⟨.ref s.heap.objs.size, _, I1, rfl, ⟨_, c, rfl, I.hok.fresh (Nat.le_refl _), rfl, hcx⟩, ⟨⟨.str ⟨#[c]⟩ u, ?_⟩, ?_, hne⟩, fun b hb => ?_⟩
    · have e1 : k0 + ((i + 1 : Nat) : Int) = k0 + (i : Int) + 1 := by omega
      rw [e1]; exact he'
    · obtain ⟨o, h1, h2⟩ := hit'
      exact ⟨o, (sb.2 it (Ne.symm hne)).trans h1, h2⟩
    · have hb' : b < s.heap.objs.size := by
        have e' : b = e ∨ b = it := by simpa using hb
        rcases e' with y | y
        · rw [y]; exact hel
        · rw [y]; exact hil
      rw [upd_ne (Nat.ne_of_lt hb')]
      exact (hf b hb).1
  done := by
    intro X hP hw hK hc i pins s σ H E I hf st hg
    subst hP hw
    obtain ⟨⟨old, he⟩, hit, hne⟩ := st
    have hg : z.cps.size = i := hg
    obtain ⟨f0, f1, f2, f3, f4, f5⟩ := hf it (by simp)
    have D := Draws.text (prog := X.prog) (w := X.w) (A := X.A.in1) (show X.A.in1.handled = none from I.ok.hd hc) it z t
    exact wpAny_pyNext_enum_endD D he (by rw [hg]; exact hit) fun h' eb => ⟨rfl, I.turned (t' := s.toks) (fun b o hb q => eb b o hb q) f0 f1 f3 f4 f5⟩
  self := fun A i s Q E st h => let ⟨⟨_, he⟩, _⟩ := st; wpAny_pyIter_enum he h
section
variable {X : Cx} {Wx : WX} {e : Expr} {fs : En → LH → Res (List Va)} {p pos : Pos}
theorem pi_enumS {ta : TA} {tpos : Pos} {elts : List Expr} {kk : Nat} (hg : Gl X "enumerate") (hm : X.mg "enumerate" = none) (ha : PA X [e] ta) (hs : starEach [e] X.env = [(false, eval e X.env)] := by rfl) :
    PI X (.Tuple elts kk tpos) (.Call (.Name "enumerate" p) [e] [] pos) (fun σ H R => ta σ H fun vs H1 => ∃ z, vs = [.str z] ∧ R (IteS 0 z) H1) := by
  refine ⟨fun pins s σ H R I h => ?_⟩
  refine Call_ (ld_blt I hg hm boot_enumerate (PyProof.Rows.callWith_type1 (thn (ha.run pos pins s σ H _ I h) fun us s1 ⟨vs, H1, I1, r1, q1⟩ => ?_) hs rfl))
  obtain ⟨z, ex, q⟩ := q1
  subst ex
  cases r1 with
  | cons r rr =>
    cases rr
    obtain ⟨t, rfl⟩ := r
    refine enum_begins1 (begins_text z t) trivial fun h' he hit hsz hk => wpAny_pyIter_enum he ?_
    have I2 : Inv X pins σ H1 { s1 with heap := h' } := I1.kept (t' := s1.toks) hk
    refine ⟨s1.heap.objs.size + 1, [s1.heap.objs.size + 1, s1.heap.objs.size], _, _, H1, rfl, I2, turn_enumS 0 z t (s1.heap.objs.size + 1) s1.heap.objs.size, ⟨⟨.none, by simpa using he⟩, ⟨_, hit, rfl, rfl⟩, Nat.succ_ne_self _⟩, fun b hb => ?_, q⟩
    have e' : b = s1.heap.objs.size + 1 ∨ b = s1.heap.objs.size := by simpa using hb
    have hle : s1.heap.objs.size ≤ b := by
      rcases e' with y | y
      · rw [y]; exact Nat.le_add_right _ _
      · rw [y]; exact Nat.le_refl _
    exact I1.fpOk hle (I1.hok.fresh hle)
def srcES (fs : En → LH → Res (List Va)) : Srcf := fun env L => (fs env L).bind fun ws L1 => match ws with
  | [.d (.str z)] => .ok (enumV 0 (signsV z), none) L1
  | _ => .stuck
@[simp] theorem u_srcES (env : En) (L : LH) : srcES fs env L = ((fs env L).bind fun ws L1 => match ws with
  | [.d (.str z)] => .ok (enumV 0 (signsV z), none) L1
  | _ => .stuck) := (rfl)
theorem wlk_enumS {K : PySem.W.Frag} {mg : Str → Option Value} {H : Hp} {al T : List Addr} {L : LH} (z : Str) : Wlk K mg H al T L (IteS 0 z) (enumV 0 (signsV z)) := by
  intro H1 al1 T1 L1 s
  have hl : (enumV 0 (signsV z)).length = z.cps.size := by simp [enumV, signsV]
  refine ⟨by show z.cps.size = _; rw [hl], fun i w e => ?_⟩
  unfold enumV signsV at e
  rw [List.getElem?_map] at e
  cases ei : z.cps.toList[i]? with
  | none =>
    have : (z.cps.toList.map fun c => Va.d (.str ⟨#[c]⟩)).zipIdx[i]? = none := by rw [List.getElem?_zipIdx, List.getElem?_map, ei]; rfl
    rw [this] at e; cases e
  | some c =>
    have : (z.cps.toList.map fun c => Va.d (.str ⟨#[c]⟩)).zipIdx[i]? = some (Va.d (.str ⟨#[c]⟩), i) := by rw [List.getElem?_zipIdx, List.getElem?_map, ei]; simp
    rw [this] at e
    cases e
    have e2 : z.cps[i]? = some c := by rw [← Array.getElem?_toList]; exact ei
    refine ⟨by show i < z.cps.size; exact (Array.getElem?_eq_some_iff.mp e2).1, fun x H2 y => ?_⟩
    obtain ⟨p, c', rfl, hp, rfl, e3⟩ := y
    rw [e2] at e3
    cases e3
    have st := s.rel.alloc (o := .tup [.int (0 + (i : Nat)), .str ⟨#[c]⟩]) hp
    obtain ⟨n1, n2⟩ := s.rel.fresh hp
    refine ⟨st, rp_mkTup (mask_of (by simp [n1, n2]) upd_same) ?_⟩
    exact .cons (.d (.int _)) (.cons (.d (.str _)) .nil)
theorem si_enumS {tpos : Pos} {elts : List Expr} {kk : Nat} (hg : Gl X "enumerate") (hm : X.mg "enumerate" = none) (ha : SA X Wx [e] fs) (hs : starEach [e] X.env = [(false, eval e X.env)] := by rfl) :
    SI X Wx (.Tuple elts kk tpos) (.Call (.Name "enumerate" p) [e] [] pos) (srcES fs) := by
  refine PI.imp (pi_enumS hg hm ha hs) ?_
  rintro σ H R ⟨env, L, al, T, c, q⟩
  unfold srcES at q
  refine iseq (R := RVs X) c q fun vs H1 ws L1 al1 c1 s1 r1 q1 => ?_
  split at q1
  · rename_i z
    obtain ⟨v, rfl, rv⟩ := rps_1 r1
    exact ⟨z, by rw [dq_str (rp_d rv)], q1 _ H1 al1 (Stp.refl c1.rel) (wlk_enumS z)⟩
  · exact q1.elim
end
def sTryR (i : Nat) (f : SFn) : SFn := fun env L => match f env L with
  | .exc c g env1 L1 => if c ∈ ten ∧ i < env1.length then .rt (.exc c g) L1 else .stuck
  | o => o
@[simp] theorem u_sTryR (i : Nat) (f : SFn) (env : En) (L : LH) : sTryR i f env L = (match f env L with
  | .exc c g env1 L1 => if c ∈ ten ∧ i < env1.length then .rt (.exc c g) L1 else .stuck
  | o => o) := (rfl)
def clsStm (st : Stmt) (j : Nat) : Stmt := match st with
  | .ClassDef _ _ _ body _ _ _ _ _ _ _ => body.getD j (.Pass ⟨0, 0, 0, 0⟩)
  | _ => .Pass ⟨0, 0, 0, 0⟩
def hookB (B : PySem.W.Frag → Bool) (n : Nat) (fa : List He.Fa) (fn : List He.DefD) : PySem.W.Hook where
  α := He.AlD × Bool
  obs s := (He.obsDG n fa fn s.heap.get?, B (He.frG s.heap.get? (He.asD s.heap.get? n)))
  val _ := (He.valD fn, true)
  says _ h := ∃ K : PySem.W.Frag, K.In h ∧ He.SaysD fa fn K ∧ B K = true
  of _ s e := ⟨He.frG s.heap.get? (He.asD s.heap.get? n), He.frG_in, congrArg Prod.fst e, congrArg Prod.snd e⟩
  keeps _ _ _ h k := let ⟨K, k1, k2, k3⟩ := h; ⟨K, fun b o e => k b o (k1 b o e), k2, k3⟩
def obB (B : PySem.W.Frag → Bool) (n : Nat) (fa : List He.Fa) (fn : List He.DefD) (s : PySem.W.SharedT) : He.AlD × Bool :=
  (He.obsDG n fa fn (HandSHeadRun.getT s), B (He.frG (HandSHeadRun.getT s) (He.asD (HandSHeadRun.getT s) n)))
theorem obB_eq {B : PySem.W.Frag → Bool} {n : Nat} {fa : List He.Fa} {fn : List He.DefD} (s : PySem.W.SharedT) : obB B n fa fn s = (hookB B n fa fn).obs s.abs := by
  have : HandSHeadRun.getT s = s.abs.heap.get? := funext (HandSHeadRun.getT_eq s)
  unfold obB
  rw [this]
  rfl
end L2.HW
set_option maxHeartbeats 0
namespace L2.HW.R_k57
open PySem PySem.Spec PyProof.Rows L2.HW
abbrev top (i : Nat) : Stmt := PySem.Challenge.pw_hastyways_k57_trees_written.main.body.getD i (.Pass ⟨0, 0, 0, 0⟩)
abbrev st_Spelling_init : Stmt := clsStm (top 23) 0
abbrev st_Spelling_take_figure : Stmt := clsStm (top 23) 2
abbrev st_Spelling_take_open : Stmt := clsStm (top 23) 4
abbrev st_Spelling_closed : Stmt := clsStm (top 23) 1
abbrev st_Spelling_take_part : Stmt := clsStm (top 23) 5
abbrev st_Spelling_take_letter : Stmt := clsStm (top 23) 3
abbrev st_Spelling_take : Stmt := clsStm (top 23) 6
def d__law_mixed : He.DefD := ⟨("_law_mixed", none), "_law_mixed", "_law_mixed", defArgs (top 26), defBody (top 26), defScope (top 26), [], []⟩
def d__law_pile : He.DefD := ⟨("_law_pile", none), "_law_pile", "_law_pile", defArgs (top 27), defBody (top 27), defScope (top 27), [], []⟩
def d__law_take : He.DefD := ⟨("_law_take", none), "_law_take", "_law_take", defArgs (top 28), defBody (top 28), defScope (top 28), [], []⟩
def d__law_drawn : He.DefD := ⟨("_law_drawn", none), "_law_drawn", "_law_drawn", defArgs (top 31), defBody (top 31), defScope (top 31), [], []⟩
def d__law_text : He.DefD := ⟨("_law_text", none), "_law_text", "_law_text", defArgs (top 32), defBody (top 32), defScope (top 32), [], []⟩
def d_is_whole : He.DefD := ⟨("is_whole", none), "is_whole", "is_whole", defArgs (top 13), defBody (top 13), defScope (top 13), [], []⟩
def d_is_form : He.DefD := ⟨("is_form", none), "is_form", "is_form", defArgs (top 15), defBody (top 15), defScope (top 15), [], []⟩
def d_look_at_form : He.DefD := ⟨("look_at_form", none), "look_at_form", "look_at_form", defArgs (top 16), defBody (top 16), defScope (top 16), [], []⟩
def d_form_text : He.DefD := ⟨("form_text", none), "form_text", "form_text", defArgs (top 21), defBody (top 21), defScope (top 21), [], []⟩
def d_tree_text : He.DefD := ⟨("tree_text", none), "tree_text", "tree_text", defArgs (top 22), defBody (top 22), defScope (top 22), [], []⟩
def d_Spelling_init : He.DefD := ⟨("Spelling", some "__init__"), "__init__", "Spelling.__init__", defArgs st_Spelling_init, defBody st_Spelling_init, defScope st_Spelling_init, [], []⟩
def d_Spelling_take_figure : He.DefD := ⟨("Spelling", some "take_figure"), "take_figure", "Spelling.take_figure", defArgs st_Spelling_take_figure, defBody st_Spelling_take_figure, defScope st_Spelling_take_figure, [], []⟩
def d_Spelling_take_open : He.DefD := ⟨("Spelling", some "take_open"), "take_open", "Spelling.take_open", defArgs st_Spelling_take_open, defBody st_Spelling_take_open, defScope st_Spelling_take_open, [], []⟩
def d_Spelling_closed : He.DefD := ⟨("Spelling", some "closed"), "closed", "Spelling.closed", defArgs st_Spelling_closed, defBody st_Spelling_closed, defScope st_Spelling_closed, [], []⟩
def d_Spelling_take_part : He.DefD := ⟨("Spelling", some "take_part"), "take_part", "Spelling.take_part", defArgs st_Spelling_take_part, defBody st_Spelling_take_part, defScope st_Spelling_take_part, [], []⟩
def d_Spelling_take_letter : He.DefD := ⟨("Spelling", some "take_letter"), "take_letter", "Spelling.take_letter", defArgs st_Spelling_take_letter, defBody st_Spelling_take_letter, defScope st_Spelling_take_letter, [], []⟩
def d_Spelling_take : He.DefD := ⟨("Spelling", some "take"), "take", "Spelling.take", defArgs st_Spelling_take, defBody st_Spelling_take, defScope st_Spelling_take, [], []⟩
def d_read_tree : He.DefD := ⟨("read_tree", none), "read_tree", "read_tree", defArgs (top 24), defBody (top 24), defScope (top 24), [], []⟩
def d__law_pick : He.DefD := ⟨("_law_pick", none), "_law_pick", "_law_pick", defArgs (top 29), defBody (top 29), defScope (top 29), [], []⟩
def d__law_bent : He.DefD := ⟨("_law_bent", none), "_law_bent", "_law_bent", defArgs (top 37), defBody (top 37), defScope (top 37), [], []⟩
def d__law_ended : He.DefD := ⟨("_law_ended", none), "_law_ended", "_law_ended", defArgs (top 33), defBody (top 33), defScope (top 33), [], []⟩
def d__law_sign : He.DefD := ⟨("_law_sign", none), "_law_sign", "_law_sign", defArgs (top 34), defBody (top 34), defScope (top 34), [], []⟩
def d__law_due : He.DefD := ⟨("_law_due", none), "_law_due", "_law_due", defArgs (top 35), defBody (top 35), defScope (top 35), [], []⟩
def d__law_word_of : He.DefD := ⟨("_law_word_of", none), "_law_word_of", "_law_word_of", defArgs (top 30), defBody (top 30), defScope (top 30), [], []⟩
def d__law_both : He.DefD := ⟨("_law_both", none), "_law_both", "_law_both", defArgs (top 36), defBody (top 36), defScope (top 36), [], []⟩
def d_law : He.DefD := ⟨("law", none), "law", "law", defArgs (top 38), defBody (top 38), defScope (top 38), [], []⟩
abbrev st_NoText_init : Stmt := clsStm (top 10) 0
def d_NoText_init : He.DefD := ⟨("NoText", some "__init__"), "__init__", "NoText.__init__", defArgs st_NoText_init, defBody st_NoText_init, defScope st_NoText_init, [], []⟩
def fnl0 : List He.DefD := [d__law_mixed, d__law_pile, d__law_take, d__law_drawn, d__law_text, d_is_whole, d_is_form, d_look_at_form, d_form_text, d_tree_text, d_Spelling_init, d_Spelling_take_figure, d_Spelling_take_open, d_Spelling_closed, d_Spelling_take_part, d_Spelling_take_letter, d_Spelling_take, d_read_tree, d__law_pick, d__law_bent, d__law_ended, d__law_sign, d__law_due, d__law_word_of, d__law_both, d_law, d_NoText_init]
def fnl : List He.DefD := fnl0
def fal0 : List He.Fa := [.glo "_law_mixed", .glo "_law_pile", .glo "_law_take", .glo "_law_drawn", .glo "_law_text", .glo "is_whole", .glo "is_form", .glo "look_at_form", .glo "form_text", .glo "tree_text", .glo "Spelling", .glo "Spelling", .glo "Spelling", .glo "Spelling", .glo "Spelling", .glo "Spelling", .glo "Spelling", .glo "read_tree", .glo "_law_pick", .glo "_law_bent", .glo "_law_ended", .glo "_law_sign", .glo "_law_due", .glo "_law_word_of", .glo "_law_both", .glo "law", .free "ValueError", .free "all", .free "bool", .free "enumerate"]
def fal1 : List He.Fa := [.free "int", .free "isinstance", .free "len", .free "max", .free "min", .free "range", .free "repr", .free "str", .free "tuple", .free "zip", .str "FIGURES" "0123456789", .int "MOST_FIGURES" (30), .int "MOST_OPEN" (40), .glo "NotTree", .exc "NotTree", .glo "Spelling", .cls "Spelling", .noat "Spelling" "around", .noat "Spelling" "read", .noat "Spelling" "word", .mkr "Spelling", .meth "Spelling" "take_figure", .meth "Spelling" "take_open", .meth "Spelling" "closed", .meth "Spelling" "take_part", .meth "Spelling" "take_letter", .meth "Spelling" "take"]
def fal : List He.Fa := fal0 ++ fal1
def loo0 : List PySem.Str := ["HasteError", "NoWeb", "NoMoment", "NoNumber", "NoRoad", "NoCut", "NoShape", "NotTree", "NotRoad", "NoText", "Unlike", "is_whole", "is_form", "look_at_form", "FIGURES", "MOST_FIGURES", "MOST_OPEN", "form_text", "tree_text", "Spelling", "read_tree", "_law_mixed", "_law_pile", "_law_take", "_law_pick", "_law_word_of", "_law_drawn", "_law_text", "_law_ended", "_law_sign"]
def loo1 : List PySem.Str := ["_law_due", "_law_both", "_law_bent"]
def loo : List PySem.Str := loo0 ++ loo1
abbrev R : PySem.W.OpenRow := PySem.W.OpenLaw.row PySem.Challenge.rw_hastyways_k57_trees_written
abbrev BB (K : PySem.W.Frag) : Bool := excAllB K && spotB K
abbrev hk : PySem.W.Hook := hookB BB 5 fal fnl
def ob (s : PySem.W.SharedT) : He.AlD × Bool := obB BB 5 fal fnl s
theorem ob_eq (s : PySem.W.SharedT) : ob s = hk.obs s.abs := obB_eq s
theorem run (w : World) : HandSHeadRun.RunEq R (PySem.W.view R.prog [38]) hk ob 8000 loo w := by
  intro os
  kernel_rfl
end L2.HW.R_k57
set_option maxHeartbeats 200000
namespace L2.HW
open PySem PySem.Spec PyProof.Rows
def FldF (K : PySem.W.Frag) (mg : Str → Option Value) (c x : Str) : Prop := ∃ C, mg c = some (.ref C) ∧ Cls K C ∧ NoAttr K C x
theorem fld_of {K : PySem.W.Frag} {mg : Str → Option Value} {h : Heap} {c x : Str} (X : K.In h) (G : h.Ns mainGlobals mg) (a : (He.Fa.glo c).ok K = true) (b : (He.Fa.cls c).ok K = true) (d : (He.Fa.noat c x).ok K = true) : FldF K mg c x :=
  ⟨_, He.glo_ok X G a, He.cls_ok b, He.noat_ok d⟩
def putA (f : Str) (v : Va) : List (Str × Va) → List (Str × Va)
  | [] => [(f, v)]
  | (g, x) :: r => if g = f then (g, v) :: r else (g, x) :: putA f v r
section
variable {K : PySem.W.Frag} {mg : Str → Option Value} {M : Hp} {al : List Addr}
theorem frp_some {x : Str} {u : Va} : ∀ {ks : List (Str × V)} {fs : List (Str × Va)}, FRp K mg M al ks fs → fs.lookup x = some u → ∃ v, ks.lookup x = some v ∧ Rp K mg M al v u
  | _, _, .nil, e => by cases e
  | (g, v) :: ks, (g', w) :: fs, .cons ⟨h1, h2⟩ r, e => by
    have h1 : g = g' := h1
    subst h1
    rw [List.lookup_cons] at e ⊢
    by_cases q : (x == g) = true
    · rw [q] at e ⊢
      cases e
      exact ⟨v, rfl, h2⟩
    · rw [Bool.eq_false_iff.mpr q] at e ⊢
      exact frp_some r e
theorem frp_none {x : Str} : ∀ {ks : List (Str × V)} {fs : List (Str × Va)}, FRp K mg M al ks fs → fs.lookup x = none → ks.lookup x = none
  | _, _, .nil, _ => rfl
  | (g, v) :: ks, (g', w) :: fs, .cons ⟨h1, h2⟩ r, e => by
    have h1 : g = g' := h1
    subst h1
    rw [List.lookup_cons] at e ⊢
    by_cases q : (x == g) = true
    · rw [q] at e
      cases e
    · rw [Bool.eq_false_iff.mpr q] at e ⊢
      exact frp_none r e
theorem frp_put {x : Str} {v : V} {u : Va} (q : Rp K mg M al v u) : ∀ {ks : List (Str × V)} {fs : List (Str × Va)}, FRp K mg M al ks fs → FRp K mg M al (putF x v ks) (putA x u fs)
  | _, _, .nil => .cons ⟨rfl, q⟩ .nil
  | (g, v') :: ks, (g', w) :: fs, .cons ⟨h1, h2⟩ r => by
    have h1 : g = g' := h1
    subst h1
    unfold putF putA
    by_cases e : g = x
    · rw [if_pos e, if_pos e]
      exact .cons ⟨rfl, q⟩ r
    · rw [if_neg e, if_neg e]
      exact .cons ⟨rfl, h2⟩ (frp_put q r)
theorem loc_ins {H : Hp} {T : List Addr} {L : LH} {v : V} {n : Nat} {c : Str} {fs : List (Str × Va)} (r : Rel K mg H al T L) (q : Rp K mg (mask H (al ++ T)) al v (.loc n)) (e : L[n]? = some (some (.ins c fs))) :
    ∃ a C dx ks, v = .ref a ∧ al[n]? = some a ∧ mg c = some (.ref C) ∧ H a = some (.ins C dx ks) ∧ FRp K mg (mask H (al ++ T)) al ks fs := by
  cases q with
  | @loc _ a ea =>
    obtain ⟨b, eb, C, dx, ks, h1, h2, h3⟩ := r.cell n _ e
    rw [ea] at eb
    cases eb
    exact ⟨a, C, dx, ks, rfl, ea, h1, h2, h3⟩
end
section
variable {X : Cx} {Wx : WX} {k : Nat} {c x : Str} {e o value : Expr} {fe fo fv : EF} {pos pos' : Pos}
def eFld (c x : Str) (f : EF) : EF := fun env L => (f env L).bind fun w L1 => match w with
  | .loc n => match L1[n]? with
    | some (some (.ins c' fs)) => match fs.lookup x with
      | some u => if c' = c then .ok u L1 else .stuck
      | none => .stuck
    | _ => .stuck
  | _ => .stuck
@[simp] theorem u_eFld (c x : Str) (f : EF) (env : En) (L : LH) : eFld c x f env L = ((f env L).bind fun w L1 => match w with
  | .loc n => match L1[n]? with
    | some (some (.ins c' fs)) => match fs.lookup x with
      | some u => if c' = c then .ok u L1 else .stuck
      | none => .stuck
    | _ => .stuck
  | _ => .stuck) := (rfl)
theorem se_fld (F : FldF X.K X.mg c x) (he : SE X Wx e fe) (hb : attributeBase e x X.env (eval e X.env) = eval e X.env := by rfl) : SE X Wx (.Attribute e x pos) (eFld c x fe) := by
  obtain ⟨C, hC, cl, na⟩ := F
  refine PE.imp (pe_fld he hb) ?_
  rintro σ H Q ⟨env, L, al, U, cf, q⟩
  refine rseq (R := RV X) cf q fun v H1 w L1 al1 c1 s1 r1 q1 => ?_
  split at q1
  · rename_i n
    split at q1
    · rename_i c' fs e1
      split at q1
      · rename_i u e2
        split at q1
        · rename_i hc
          subst hc
          obtain ⟨a, C', dx, ks, rfl, ea, hc', hH, fr⟩ := loc_ins c1.rel r1 e1
          rw [hC] at hc'
          cases hc'
          obtain ⟨y, ey, ry⟩ := frp_some fr e2
          exact ⟨a, C, dx, ks, y, rfl, hH, cl, na, ey, gok c1.rel q1 ry⟩
        · exact q1.elim
      · exact q1.elim
    · exact q1.elim
  · exact q1.elim
def sFldS (c x : Str) (fo fv : EF) : SFn := fun env L => (fv env L).then env fun u L1 => (fo env L1).then env fun w L2 => match w with
  | .loc n => match L2[n]? with
    | some (some (.ins c' fs)) => if c' = c ∧ fs.length < 1000 then .nx env (L2.set n (some (.ins c' (putA x u fs)))) else .stuck
    | _ => .stuck
  | _ => .stuck
@[simp] theorem u_sFldS (c x : Str) (fo fv : EF) (env : En) (L : LH) : sFldS c x fo fv env L = ((fv env L).then env fun u L1 => (fo env L1).then env fun w L2 => match w with
  | .loc n => match L2[n]? with
    | some (some (.ins c' fs)) => if c' = c ∧ fs.length < 1000 then .nx env (L2.set n (some (.ins c' (putA x u fs)))) else .stuck
    | _ => .stuck
  | _ => .stuck) := (rfl)
theorem frp_len {K : PySem.W.Frag} {mg : Str → Option Value} {M : Hp} {al : List Addr} {ks : List (Str × V)} {fs : List (Str × Va)} (h : FRp K mg M al ks fs) : ks.length = fs.length := Paired.length h
theorem ss_fld (F : FldF X.K X.mg c x) (ho : SE X Wx o fo) (hv : SE X Wx value fv) (hs : swapsWith value (some (.Attribute o x pos')) pos.line X.env = pure false := by rfl) : SS X Wx (.Assign [.Attribute o x pos'] value pos) (sFldS c x fo fv) := by
  obtain ⟨C, hC, cl, na⟩ := F
  refine PS.imp (ps_fld ho hv hs) ?_
  rintro D σ H ⟨env, L, al, U, cf, q⟩
  refine sseq (R := RV X) cf q fun y H1 u L1 al1 c1 s1 r1 q1 => ?_
  refine sseq (R := RV X) c1 q1 fun v H2 w L2 al2 c2 s2 r2 q2 => ?_
  split at q2
  · rename_i n
    split at q2
    · rename_i c' fs e1
      split at q2
      · rename_i hc
        obtain ⟨hc, hz⟩ := hc
        subst hc
        obtain ⟨a, C', dx, ks, rfl, ea, hc', hH, fr⟩ := loc_ins c2.rel r2 e1
        rw [hC] at hc'
        cases hc'
        have m : mask (upd H2 a (.ins C dx (putF x y ks))) (al2 ++ U) = mask H2 (al2 ++ U) := mask_in (List.mem_append_left _ (List.mem_of_getElem? ea))
        have st : Stp X.K X.mg H2 al2 U L2 (upd H2 a (.ins C dx (putF x y ks))) al2 U (L2.set n (some (.ins c' (putA x u fs)))) := Rel.write c2.rel ea e1 ⟨C, dx, _, hC, upd_same, frp_put (s2.rp r1) fr⟩
        exact ⟨a, C, dx, ks, rfl, hH, cl, na, by rw [frp_len fr]; exact hz, q2 σ _ al2 st (c2.stp st)⟩
      · exact q2.elim
    · exact q2.elim
  · exact q2.elim
def sFldA (c x : Str) (fo fv : EF) : SFn := fun env L => (fo env L).then env fun w L1 => match w with
  | .loc n => match L1[n]? with
    | some (some (.ins c' fs)) => if c' = c then match fs.lookup x with
      | some (.d (.str s)) => (fv env L1).then env fun u L2 => match u with
        | .d (.str t) => match L2[n]? with
          | some (some (.ins c2 fs2)) => if c2 = c ∧ fs2.length < 1000 ∧ s.length + t.length ≤ sizeLine then .nx env (L2.set n (some (.ins c2 (putA x (.d (.str (s ++ t))) fs2)))) else .stuck
          | _ => .stuck
        | _ => .stuck
      | _ => .stuck else .stuck
    | _ => .stuck
  | _ => .stuck
@[simp] theorem u_sFldA (c x : Str) (fo fv : EF) (env : En) (L : LH) : sFldA c x fo fv env L = ((fo env L).then env fun w L1 => match w with
  | .loc n => match L1[n]? with
    | some (some (.ins c' fs)) => if c' = c then match fs.lookup x with
      | some (.d (.str s)) => (fv env L1).then env fun u L2 => match u with
        | .d (.str t) => match L2[n]? with
          | some (some (.ins c2 fs2)) => if c2 = c ∧ fs2.length < 1000 ∧ s.length + t.length ≤ sizeLine then .nx env (L2.set n (some (.ins c2 (putA x (.d (.str (s ++ t))) fs2)))) else .stuck
          | _ => .stuck
        | _ => .stuck
      | _ => .stuck else .stuck
    | _ => .stuck
  | _ => .stuck) := (rfl)
theorem ss_flda (F : FldF X.K X.mg c x) (ho : SE X Wx o fo) (hv : SE X Wx value fv) : SS X Wx (.AugAssign (.Attribute o x pos') .Add value pos) (sFldA c x fo fv) := by
  obtain ⟨C, hC, cl, na⟩ := F
  refine PS.imp (ps_fldaug (rd := fun x y H Q => ∃ i j, x = .str i ∧ y = .str j ∧ i.length + j.length ≤ sizeLine ∧ Q (.str (i ++ j)) H) ho hv (fun pins s σ H x y u v Q I rx ry h => iop_add_str pins s σ H x y u v Q I rx ry h)) ?_
  rintro D σ H ⟨env, L, al, U, cf, q⟩
  refine sseq (R := RV X) cf q fun v H1 w L1 al1 c1 s1 r1 q1 => ?_
  split at q1
  · rename_i n
    split at q1
    · rename_i c' fs e1
      split at q1
      · rename_i hc
        subst hc
        split at q1
        · rename_i s e2
          obtain ⟨a, C', dx, ks, rfl, ea, hc', hH, fr⟩ := loc_ins c1.rel r1 e1
          rw [hC] at hc'
          cases hc'
          obtain ⟨y, ey, ry⟩ := frp_some fr e2
          have ry : y = .str s := by
            cases ry with
            | d q => cases q; rfl
          subst ry
          refine ⟨a, C, dx, ks, _, rfl, hH, cl, na, ey, ?_⟩
          refine sseq (R := RV X) c1 q1 fun y H2 u L2 al2 c2 s2 r2 q2 => ?_
          split at q2
          · rename_i t
            split at q2
            · rename_i c2' fs2 e3
              split at q2
              · rename_i hh
                obtain ⟨rfl, hz, hzz⟩ := hh
                obtain ⟨b, C2, dx2, ks2, hb, ea2, hc2, hH2, fr2⟩ := loc_ins c2.rel (s2.rp r1) e3
                cases hb
                rw [hC] at hc2
                cases hc2
                have r2 : y = .str t := by
                  cases r2 with
                  | d q => cases q; rfl
                subst r2
                have st : Stp X.K X.mg H2 al2 U L2 (upd H2 a (.ins C dx2 (putF x (.str (s ++ t)) ks2))) al2 U (L2.set n (some (.ins c2' (putA x (.d (.str (s ++ t))) fs2)))) := Rel.write c2.rel ea2 e3 ⟨C, dx2, _, hC, upd_same, frp_put (.d (.str _)) fr2⟩
                exact ⟨s, t, rfl, rfl, hzz, dx2, ks2, hH2, by rw [frp_len fr2]; exact hz, q2 σ _ al2 st (c2.stp st)⟩
              · exact q2.elim
            · exact q2.elim
          · exact q2.elim
        · exact q1.elim
      · exact q1.elim
    · exact q1.elim
  · exact q1.elim
end
noncomputable def mkFnC (np nl : Nat) (body : SFn) : Fn := fun ws L => if ws.length = np then match body (ws.map some ++ List.replicate (nl - ws.length) none) L with
    | .nx _ L' => .ok (.d .none) L'
    | .rt w L' => .ok w L'
    | .exc c f _ L' => .exc c f L'
    | _ => .stuck
  else .stuck
theorem np_mkC {np nl : Nat} {body : SFn} : NP np (mkFnC np nl body) := fun ws L h => by unfold mkFnC; rw [if_neg h]
section
variable {P : Program} {w : World} {K : PySem.W.Frag} {mg : Str → Option Value} {base : Heap} {x qual : Str} {params : Arguments} {body : List Stmt} {scope : Scope} {dvs : List V} {kws : List (Str × V)} {f : Addr} {fd : FuncData}
theorem body_endC {H : Hp} {al T : List Addr} {L : LH} {X : Cx} {Q : VK} {E : XK} {np nl : Nat} {bf : SFn} {ws : List Va} (hl : ws.length = np)
    (h : NPost X.K X.mg H al T L (mkFnC np nl bf ws L) Q E) : SPost X (WxE E) H al T L (bf (ws.map some ++ List.replicate (nl - ws.length) none) L) { nx := fun _ H' => Q .non H', rt := Q } := by
  unfold mkFnC at h
  rw [if_pos hl] at h
  revert h
  generalize bf (ws.map some ++ List.replicate (nl - ws.length) none) L = r
  intro h
  cases r with
  | nx env' L' => exact fun σ' H' al' s c => h .non H' al' s (.d .non)
  | rt u L' => exact fun v H' al' s q => h v H' al' s q
  | rf o L' => exact h.elim
  | bk _ _ => exact h.elim
  | ct _ _ => exact h.elim
  | exc c f env' L' => exact fun cls d σ' H' al' s _ q => h cls d H' al' s q
  | stuck => exact h.elim
theorem fn_bodyC (F : FunD K x qual params body scope dvs kws f fd) {N ps : List Str} {k np nl : Nat} {bf : SFn} (S : FnScope N ps scope) (hnp : ps.length = np) (hnl : N.length = nl) (hle : np ≤ nl)
    (hb : ∀ (cdv : Value) (A : Around) (outer : List Env) (s : Shared) (H : Hp) (E : XK), A.guards = some [] → Room k (A.deeper (envOfC qual scope s.heap.objs.size f cdv)) → SB (cxOf (L2.CX P w) P w K mg base N qual scope f cdv A outer s H E) (WxE E) body bf) :
    FnG P w K mg base (L2.CX P w) (k + 1) f fd ps (spOf K mg np (mkFnC np nl bf)) := by
  refine fnG_of F S (fun vs H Q E h => by rw [h.1, hnp]) (fun cdv A outer s H vs Q E hg hr h => ⟨_, hb cdv A outer s H E hg hr, ?_⟩)
  obtain ⟨hl, ws, al, T, L, r, rs, h⟩ := h
  have e := Paired.length rs
  subst hnl
  refine ⟨_, L, al, T, conf_start r rs (by omega), ?_⟩
  exact body_endC (X := cxOf (L2.CX P w) P w K mg base N qual scope f cdv A outer s H E) (by omega) h
end
def HasM (P : Program) (w : World) (K : PySem.W.Frag) (mg : Str → Option Value) (base : Heap) (c m : Str) (ps : List Str) (k : Nat) (F : Fn) : Prop :=
  ∃ C f fd, mg c = some (.ref C) ∧ Cls K C ∧ Meth K C m f ∧ Binds K fd ps [] ∧ NP ps.length F ∧ FnG P w K mg base (L2.CX P w) k f fd ps (spOf K mg ps.length F)
def HasI (P : Program) (w : World) (K : PySem.W.Frag) (mg : Str → Option Value) (base : Heap) (c : Str) (ps : List Str) (k : Nat) (F : Fn) : Prop :=
  ∃ C f fd, mg c = some (.ref C) ∧ Mk K C f ∧ Binds K fd ps [] ∧ NP ps.length F ∧ FnG P w K mg base (L2.CX P w) k f fd ps (spOf K mg ps.length F)
def BindM (m q : Str) (st : Stmt) (ps : List Str) : Prop := ∀ (kV doc pm : Value) (an : Option Addr) (cdv ct : Value) (us : List Value), us.length = ps.length →
  bindArgs (PySem.W.fnOf m q (defArgs st) (defBody st) (defScope st) .none kV doc pm an cdv ct) ⟨us, []⟩ = pure (ps.zip us)
section
variable {X : Cx} {k : Nat} {C f : Addr} {fd : FuncData} {ps : List Str} {sp : Sp} {E : St → XK} {x m : Str} {p pos apos : Pos} {e o : Expr} {es : List Expr} {ta : TE} {t : TA}
def tMethG (C : Addr) (m : Str) (sp : Sp) (E : St → XK) (ta : TE) (t : TA) : TE := fun σ H Q => ta σ H fun x H1 => ∃ a dx fs, x = .ref a ∧ H1 a = some (.ins C dx fs) ∧ fs.lookup m = none ∧
  t σ H1 fun vs H2 => sp (x :: vs) H2 Q (E σ)
theorem pe_methG {pl : Sem Bool} (he : PE X o ta) (c : Cls X.K C) (hm : Meth X.K C m f) (F : FnG X.prog X.w X.K X.mg X.base (L2.CX X.prog X.w) k f fd ps sp) (hg0 : X.A.guards = some []) (hr : Room k X.A) (hb : Binds X.K fd ps []) (hx : ∀ σ, PassesAt (L2.CX X.prog X.w) X σ (E σ)) (ha : PA X (e :: es) t)
    (hst : starEach (e :: es) X.env = (false, eval e X.env) :: starEach es X.env) (hpl : (backTo pos (starEach es X.env)).any (·.1) = false)
    (ht : eval (.Call (.Attribute o m apos) (e :: es) [] pos) X.env = (do
      let ov ← eval o X.env
      standAt apos.atName
      let (f, first) ← holding [ov] (getMethod ov m pl)
      callWith pos f first (backTo pos (starEach (e :: es) X.env)) (backToKw pos (keywordEach [] X.env)))) :
    PE X (.Call (.Attribute o m apos) (e :: es) [] pos) (tMethG C m sp E ta t) := by
  refine ⟨fun pins s σ H Q I h => ?_⟩
  refine PySem.W.methodCall_KW (pl := pl) (thn (he.run pins s σ H _ I h) fun u s1 ⟨x, H1, I1, rx, a, dx, fs, ex, ea, l, q⟩ => ?_) ht
  subst ex
  obtain rfl : u = Value.ref a := rx
  refine getmeth_ok I1 ea c hm l ?_
  refine PySem.W.callWith_K (first := [.ref a]) (h₀ := X.base) I.ok.mod.kin hm.kp (thn (ha.run pos pins s1 σ H1 _ I1 q) fun us s2 ⟨vs, H2, I2, r, q2⟩ => ⟨I2.kIn, ?_⟩) hst hpl
  exact run_fnG (us := .ref a :: us) (vs := .ref a :: vs) F hg0 hr hb (hx σ) I2 (.cons rfl r) q2
theorem pe_methG0 {pl : Sem Bool} (he : PE X o ta) (c : Cls X.K C) (hm : Meth X.K C m f) (F : FnG X.prog X.w X.K X.mg X.base (L2.CX X.prog X.w) k f fd ps sp) (hg0 : X.A.guards = some []) (hr : Room k X.A) (hb : Binds X.K fd ps []) (hx : ∀ σ, PassesAt (L2.CX X.prog X.w) X σ (E σ))
    (ht : eval (.Call (.Attribute o m apos) [] [] pos) X.env = (do
      let ov ← eval o X.env
      standAt apos.atName
      let (f, first) ← holding [ov] (getMethod ov m pl)
      callWith pos f first (backTo pos (starEach [] X.env)) (backToKw pos (keywordEach [] X.env)))) :
    PE X (.Call (.Attribute o m apos) [] [] pos) (tMethG C m sp E ta tNil) := by
  refine ⟨fun pins s σ H Q I h => ?_⟩
  refine PySem.W.methodCall_KW (pl := pl) (thn (he.run pins s σ H _ I h) fun u s1 ⟨x, H1, I1, rx, a, dx, fs, ex, ea, l, q⟩ => ?_) ht
  subst ex
  obtain rfl : u = Value.ref a := rx
  refine getmeth_ok I1 ea c hm l ?_
  exact PySem.W.callWith_K0 (first := [.ref a]) I1.kIn hm.kp (run_fnG (us := [.ref a]) (vs := [.ref a]) F hg0 hr hb (hx σ) I1 (.cons rfl .nil) q)
theorem make_guards {A : Around} {C : Addr} {us : List Value} {kw : List (Str × Value)} : (A.under (.builtin "type.__call__" ⟨.ref C :: us, kw⟩)).guards = A.guards := by
  first | rfl | simp [Around.under, Code.weight, Code.isCreation, Code.isGuard, Code.isCaller, Code.frames, Code.isFrame, guardIds]
def tMakeG (C : Addr) (sp : Sp) (E : St → XK) (t : TA) : TE := fun σ H Q => t σ H fun vs H1 => ∀ x dx, H1 x = Option.none → H1 dx = Option.none → dx ≠ x →
  sp (V.ref x :: vs) (upd (upd H1 dx (.own x)) x (.ins C dx [])) (fun v H2 => v = .non ∧ Q (.ref x) H2) (E σ)
theorem run_makeG {pins : List (Addr × Obj)} {σ : L2.St} {H : Hp} {s : Shared} {Q : VK} {us : List Value} {vs : List V} {E : XK} (M : Mk X.K C f) (F : FnG X.prog X.w X.K X.mg X.base (L2.CX X.prog X.w) k f fd ps sp) (hg : X.A.guards = some []) (hr : Room (k + 1) X.A) (hb : Binds X.K fd ps [])
    (hx : PassesAt (L2.CX X.prog X.w) X σ E) (I : Inv X pins σ H s) (r : Vals vs us)
    (h : ∀ x dx, H x = Option.none → H dx = Option.none → dx ≠ x → sp (V.ref x :: vs) (upd (upd H dx (.own x)) x (.ins C dx [])) (fun v H2 => v = .non ∧ Q (.ref x) H2) E) :
    wpAny (model X.prog X.w) X.A (call (.ref C) us) (EP X pins σ Q) X.xe s := by
  have hq := h (s.heap.objs.size + 1) s.heap.objs.size (I.hok.fresh (Nat.le_succ _)) (I.hok.fresh (Nat.le_refl _)) (Nat.ne_of_lt (Nat.lt_succ_self _))
  have I2 := Inv.made (C := C) I
  have r2 : Vals (V.ref (s.heap.objs.size + 1) :: vs) (Value.ref (s.heap.objs.size + 1) :: us) := .cons rfl r
  have bt : ∀ t : Shared, X.K.In t.heap → BindsTo t fd ⟨Value.ref (s.heap.objs.size + 1) :: us, []⟩ (ps.zip (Value.ref (s.heap.objs.size + 1) :: us)) := fun t ht => by
    have z := hb t (Value.ref (s.heap.objs.size + 1) :: us) ht (by rw [List.append_nil, ← r2.length]; exact F.ln _ _ _ _ hq)
    rwa [List.append_nil] at z
  refine wpAny_call (make_map (f := f) I.kIn M.makes M.init (beq_iff_eq.mp M.fn) (codeAny_mono (F.go _ X.stack _ _ ⟨Value.ref (s.heap.objs.size + 1) :: us, []⟩ (Value.ref (s.heap.objs.size + 1) :: us) _ _ E (by rw [make_guards]; exact hg) (hr.make C us [])
    (I2.env0.make C us []) (bt _ I2.kIn) r2 hq) fun r s' hq' => ?_))
  cases r with
  | error e => exact hx pins _ _ e s' I2 hq'
  | ok fl =>
    cases fl with
    | ret u =>
      obtain ⟨v, H', I3, rv, ev, q3⟩ := I2.after hq'
      subst ev
      exact ⟨rv, ⟨V.ref (s.heap.objs.size + 1), H', I3, rfl, q3⟩⟩
    | next => exact False.elim hq'
    | brk => exact False.elim hq'
    | cont => exact False.elim hq'
theorem pe_makeG0 (M : Mk X.K C f) (F : FnG X.prog X.w X.K X.mg X.base (L2.CX X.prog X.w) k f fd ps sp) (hg0 : X.A.guards = some []) (hr : Room (k + 1) X.A) (hg : Gl X x) (hm : X.mg x = some (.ref C)) (hb : Binds X.K fd ps []) (hx : ∀ σ, PassesAt (L2.CX X.prog X.w) X σ (E σ))
    (hdb : (x == ("__debug__" : Str)) = false) : PE X (.Call (.Name x p) [] [] pos) (tMakeG C sp E tNil) := by
  refine ⟨fun pins s σ H Q I h => ?_⟩
  refine wpAny_Call_Name_kw (ld_glob I hg hm ?_ hdb)
  exact PySem.W.callWith_K0 I.kIn M.kp (run_makeG (us := []) M F hg0 hr hb (hx σ) I .nil h)
end
section
variable {X : Cx} {Wx : WX} {k j : Nat} {ps : List Str} {F : Fn} {c m : Str} {p pos apos : Pos} {e o : Expr} {es : List Expr} {fo : EF} {fs : En → LH → Res (List Va)}
def eCallM (c m : Str) (F : Fn) (fo : EF) (fs : En → LH → Res (List Va)) : EF := fun env L => (fo env L).bind fun w L1 => match w with
  | .loc n => match L1[n]? with
    | some (some (.ins c' gs)) => if c' = c ∧ gs.lookup m = none then (fs env L1).bind fun ws L2 => F (.loc n :: ws) L2 else .stuck
    | _ => .stuck
  | _ => .stuck
@[simp] theorem u_eCallM (c m : Str) (F : Fn) (fo : EF) (fs : En → LH → Res (List Va)) (env : En) (L : LH) : eCallM c m F fo fs env L = ((fo env L).bind fun w L1 => match w with
  | .loc n => match L1[n]? with
    | some (some (.ins c' gs)) => if c' = c ∧ gs.lookup m = none then (fs env L1).bind fun ws L2 => F (.loc n :: ws) L2 else .stuck
    | _ => .stuck
  | _ => .stuck) := (rfl)
theorem sp_of {K : PySem.W.Frag} {np : Nat} {σ : St} {H : Hp} {al T : List Addr} {L : LH} {Q : VK} {vs : List V} {ws : List Va} (n : NP np F) (r : Rel X.K X.mg H al T L) (rs : RVs X (mask H (al ++ T)) al vs ws) (q : GPost X Wx σ H al T L (RV X) (F ws L) Q) : spOf X.K X.mg np F vs H Q (WE Wx σ) := by
  have hl : ws.length = np := by
    by_cases z : ws.length = np
    · exact z
    · rw [n ws L z] at q; exact q.elim
  refine ⟨by rw [Paired.length rs, hl], ws, al, T, L, r, rs, ?_⟩
  revert q
  generalize F ws L = rr
  intro q
  cases rr with
  | ok w L2 => exact fun v H' al' s q' => q v H' al' s q'
  | exc c f L2 => exact fun cls d H' al' s q' => q cls d H' al' s q'
  | stuck => exact q
theorem meth_core {C : Addr} {σ : St} {H : Hp} {Q : VK} (n : NP ps.length F) (hC : X.mg c = some (.ref C)) (h : Rdg X Wx (RV X) (eCallM c m F fo fs) σ H Q) : tMethG C m (spOf X.K X.mg ps.length F) (WE Wx) (Rdg X Wx (RV X) fo) (Rdg X Wx (RVs X) fs) σ H Q := by
  obtain ⟨env, L, al, T, cf, q⟩ := h
  refine rseq (R := RV X) cf q fun v H1 w L1 al1 c1 s1 r1 q1 => ?_
  split at q1
  · rename_i n'
    split at q1
    · rename_i c' gs e1
      split at q1
      · rename_i hh
        obtain ⟨rfl, hn⟩ := hh
        obtain ⟨a, C', dx, ks, rfl, ea, hc', hH, fr⟩ := loc_ins c1.rel r1 e1
        rw [hC] at hc'
        cases hc'
        refine ⟨a, dx, ks, rfl, hH, frp_none fr hn, ?_⟩
        refine rseq (R := RVs X) c1 q1 fun vs H2 ws L2 al2 c2 s2 r2 q2 => ?_
        exact sp_of (K := X.K) n c2.rel (.cons (s2.rp r1) r2) q2
      · exact q1.elim
    · exact q1.elim
  · exact q1.elim
theorem w_meth (cx : Ctx X Wx k) (h : HasM X.prog X.w X.K X.mg X.base c m ps j F) (ho : SE X Wx o fo) (ha : SA X Wx (e :: es) fs) (hj : j ≤ k := by decide) {pl : Sem Bool}
    (hst : starEach (e :: es) X.env = (false, eval e X.env) :: starEach es X.env := by rfl) (hpl : (backTo pos (starEach es X.env)).any (·.1) = false := by rfl)
    (ht : eval (.Call (.Attribute o m apos) (e :: es) [] pos) X.env = (do
      let ov ← eval o X.env
      standAt apos.atName
      let (f, first) ← holding [ov] (getMethod ov m pl)
      callWith pos f first (backTo pos (starEach (e :: es) X.env)) (backToKw pos (keywordEach [] X.env))) := by rfl) : SE X Wx (.Call (.Attribute o m apos) (e :: es) [] pos) (eCallM c m F fo fs) := by
  obtain ⟨C, f, fd, h1, h2, h3, h4, h5, h6⟩ := h
  exact PE.imp (pe_methG (E := WE Wx) ho h2 h3 h6 cx.gd (cx.rm.mono hj) h4 (fun σ => passAt cx.tk σ) ha hst hpl ht) fun _ _ _ h => meth_core h5 h1 h
theorem w_meth0 (cx : Ctx X Wx k) (h : HasM X.prog X.w X.K X.mg X.base c m ps j F) (ho : SE X Wx o fo) (hj : j ≤ k := by decide) {pl : Sem Bool}
    (ht : eval (.Call (.Attribute o m apos) [] [] pos) X.env = (do
      let ov ← eval o X.env
      standAt apos.atName
      let (f, first) ← holding [ov] (getMethod ov m pl)
      callWith pos f first (backTo pos (starEach [] X.env)) (backToKw pos (keywordEach [] X.env))) := by rfl) : SE X Wx (.Call (.Attribute o m apos) [] [] pos) (eCallM c m F fo aNil) := by
  obtain ⟨C, f, fd, h1, h2, h3, h4, h5, h6⟩ := h
  refine PE.imp (pe_methG0 (E := WE Wx) ho h2 h3 h6 cx.gd (cx.rm.mono hj) h4 (fun σ => passAt cx.tk σ) ht) fun σ H Q h => ?_
  obtain ⟨env, L, al, T, cf, q⟩ := h
  refine rseq (R := RV X) cf q fun v H1 w L1 al1 c1 s1 r1 q1 => ?_
  split at q1
  · rename_i n'
    split at q1
    · rename_i c' gs e1
      split at q1
      · rename_i hh
        obtain ⟨rfl, hn⟩ := hh
        obtain ⟨a, C', dx, ks, rfl, ea, hc', hH, fr⟩ := loc_ins c1.rel r1 e1
        rw [h1] at hc'
        cases hc'
        exact ⟨a, dx, ks, rfl, hH, frp_none fr hn, sp_of (K := X.K) h5 c1.rel (.cons r1 .nil) q1⟩
      · exact q1.elim
    · exact q1.elim
  · exact q1.elim
def eMake (c : Str) (F : Fn) (fs : En → LH → Res (List Va)) : EF := fun env L => (fs env L).bind fun ws L1 => match F (.loc L1.length :: ws) (L1 ++ [some (.ins c [])]) with
  | .ok (.d .none) L2 => .ok (.loc L1.length) L2
  | .exc c f L2 => .exc c f L2
  | _ => .stuck
@[simp] theorem u_eMake (c : Str) (F : Fn) (fs : En → LH → Res (List Va)) (env : En) (L : LH) : eMake c F fs env L = ((fs env L).bind fun ws L1 => match F (.loc L1.length :: ws) (L1 ++ [some (.ins c [])]) with
  | .ok (.d .none) L2 => .ok (.loc L1.length) L2
  | .exc c f L2 => .exc c f L2
  | _ => .stuck) := (rfl)
theorem made_core {C : Addr} {np : Nat} {σ : St} {H1 : Hp} {al1 T : List Addr} {L1 : LH} {vs : List V} {ws : List Va} {Q : VK} (n : NP np F) (hC : X.mg c = some (.ref C)) (r1 : Rel X.K X.mg H1 al1 T L1) (rs : RVs X (mask H1 (al1 ++ T)) al1 vs ws)
    (q : GPost X Wx σ H1 al1 T L1 (RV X) (match F (.loc L1.length :: ws) (L1 ++ [some (.ins c [])]) with
      | .ok (.d .none) L2 => .ok (.loc L1.length) L2
      | .exc c f L2 => .exc c f L2
      | _ => .stuck) Q) : ∀ x dx, H1 x = Option.none → H1 dx = Option.none → dx ≠ x →
      spOf X.K X.mg np F (V.ref x :: vs) (upd (upd H1 dx (.own x)) x (.ins C dx [])) (fun v H2 => v = .non ∧ Q (.ref x) H2) (WE Wx σ) := by
  intro x dx hx hdx hne
  have sa := r1.alloc (o := .own x) hdx
  have hx' : upd H1 dx (.own x) x = none := by rw [upd_ne hne.symm]; exact hx
  have sb := sa.rel.allocT (o := .ins C dx []) hx'
  have sc := Stp.cell sa.rel hx' sb (ob := .ins c []) ⟨C, dx, [], hC, upd_same, .nil⟩
  have st := Stp.trans r1.len sa sc
  have hl : (Va.loc L1.length :: ws).length = np := by
    by_cases z : (Va.loc L1.length :: ws).length = np
    · exact z
    · rw [n _ _ z] at q; exact q.elim
  have al : al1.length = L1.length := r1.len
  have e0 : (al1 ++ [x])[L1.length]? = some x := by rw [← al, List.getElem?_append_right (Nat.le_refl _), Nat.sub_self]; rfl
  have hv : (V.ref x :: vs).length = np := by rw [← hl, List.length_cons, List.length_cons, Paired.length rs]
  refine ⟨hv, Va.loc L1.length :: ws, al1 ++ [x], T, L1 ++ [some (.ins c [])], st.rel, .cons (.loc e0) (st.rps rs), ?_⟩
  · revert q
    generalize F (.loc L1.length :: ws) (L1 ++ [some (.ins c [])]) = rr
    intro q
    cases rr with
    | ok w L2 =>
      cases w with
      | d y =>
        cases y with
        | none =>
          intro v H' al' s r
          have ev : v = .non := by
            cases r with
            | d q => cases q; rfl
          refine ⟨ev, q (.ref x) H' al' (Stp.trans r1.len st s) (.loc ?_)⟩
          exact s.ale L1.length x e0
        | _ => exact q.elim
      | _ => exact q.elim
    | exc c f L2 => exact fun cls d H' al' s q' => q cls d H' al' (Stp.trans r1.len st s) q'
    | stuck => exact q.elim
theorem w_make0 (cx : Ctx X Wx k) (h : HasI X.prog X.w X.K X.mg X.base c ps j F) (hj : j + 1 ≤ k := by decide) (hg : Gl X c := by rfl) (hdb : (c == ("__debug__" : Str)) = false := by decide) : SE X Wx (.Call (.Name c p) [] [] pos) (eMake c F aNil) := by
  obtain ⟨C, f, fd, h1, h2, h4, h5, h6⟩ := h
  refine PE.imp (pe_makeG0 (E := WE Wx) h2 h6 cx.gd (cx.rm.mono hj) hg h1 h4 (fun σ => passAt cx.tk σ) hdb) fun σ H Q h => ?_
  obtain ⟨env, L, al, T, cf, q⟩ := h
  exact made_core h5 h1 cf.rel .nil q
end
end L2.HW
namespace L2.HW
open PySem PySem.Spec PyProof.Rows
section
variable {P : Program} {w : World} {K : PySem.W.Frag} {mg : Str → Option Value} {base : Heap} {c m q : Str} {st : Stmt} {ps N : List Str} {k nl : Nat}
def DefM' (K : PySem.W.Frag) (mg : Str → Option Value) (c m q : Str) (st : Stmt) : Prop := ∃ C f fd, mg c = some (.ref C) ∧ Cls K C ∧ Meth K C m f ∧ FunD K m q (defArgs st) (defBody st) (defScope st) [] [] f fd
def DefI (K : PySem.W.Frag) (mg : Str → Option Value) (c q : Str) (st : Stmt) : Prop := ∃ C f fd, mg c = some (.ref C) ∧ Mk K C f ∧ FunD K "__init__" q (defArgs st) (defBody st) (defScope st) [] [] f fd
theorem hasM_of {bf : SFn} (D : DefM' K mg c m q st) (hb : BindM m q st ps) (S : FnScope N ps (defScope st)) (hnl : N.length = nl) (hle : ps.length ≤ nl)
    (h : ∀ (f : Addr) (cdv : Value) (A : Around) (outer : List Env) (s : Shared) (H : Hp) (E : XK), CtxF (cxOf (L2.CX P w) P w K mg base N q (defScope st) f cdv A outer s H E) (WxE E) k →
      SB (cxOf (L2.CX P w) P w K mg base N q (defScope st) f cdv A outer s H E) (WxE E) (defBody st) bf) : HasM P w K mg base c m ps (k + 1) (mkFnC ps.length nl bf) := by
  obtain ⟨C, f, fd, hc, cl, hm, F⟩ := D
  refine ⟨C, f, fd, hc, cl, hm, fun s us _ hl => by rw [List.append_nil] at hl ⊢; exact FunD.bindsA F hb s us hl, np_mkC, ?_⟩
  refine fn_bodyC F S rfl hnl hle fun cdv A outer s H E hg hr => h f cdv A outer s H E ⟨⟨hg, hr, takes_of rfl rfl rfl rfl, rfl, S.nd⟩, passes_of rfl⟩
theorem hasI_of {bf : SFn} (D : DefI K mg c q st) (hb : BindM "__init__" q st ps) (S : FnScope N ps (defScope st)) (hnl : N.length = nl) (hle : ps.length ≤ nl)
    (h : ∀ (f : Addr) (cdv : Value) (A : Around) (outer : List Env) (s : Shared) (H : Hp) (E : XK), CtxF (cxOf (L2.CX P w) P w K mg base N q (defScope st) f cdv A outer s H E) (WxE E) k →
      SB (cxOf (L2.CX P w) P w K mg base N q (defScope st) f cdv A outer s H E) (WxE E) (defBody st) bf) : HasI P w K mg base c ps (k + 1) (mkFnC ps.length nl bf) := by
  obtain ⟨C, f, fd, hc, hm, F⟩ := D
  refine ⟨C, f, fd, hc, hm, fun s us _ hl => by rw [List.append_nil] at hl ⊢; exact FunD.bindsA F hb s us hl, np_mkC, ?_⟩
  refine fn_bodyC F S rfl hnl hle fun cdv A outer s H E hg hr => h f cdv A outer s H E ⟨⟨hg, hr, takes_of rfl rfl rfl rfl, rfl, S.nd⟩, passes_of rfl⟩
end
section
variable {X : Cx} {Wx : WX} {k : Nat} {a b : Expr} {fa fb : EF} {pos : Pos}
def rEqE (K : PySem.W.Frag) (neg : Bool) : R2 := fun x y H Q => ∃ (l : Addr) (xs : List V) (e : Addr), x = .ref l ∧ SqL K H l xs ∧ y = .ref e ∧ SqL K H e [] ∧ Q (.bl (xor neg xs.isEmpty)) H
theorem op_eqE (hu : X.A.units + 64 < cLine) : OpR X (compareOp .Eq) (rEqE X.K false) := by
  intro pins s σ H x y v u Q I rx ry h
  obtain ⟨l, xs, e, rfl, hl, rfl, he, q⟩ := h
  obtain rfl : v = Value.ref l := rx
  obtain rfl : u = Value.ref e := ry
  obtain ⟨its, r, pl, _⟩ := I.list hl
  obtain ⟨its2, r2, pl2, _⟩ := I.list he
  cases r2
  have l1 : s.heap.IsList l its.toArray := by
    obtain ⟨o, n, g1, g2, _, g4⟩ := pl
    exact ⟨o, g1, g2, n, g4⟩
  have l2 : s.heap.IsList e ([] : List Value).toArray := by
    obtain ⟨o, n, g1, g2, _, g4⟩ := pl2
    exact ⟨o, g1, g2, n, g4⟩
  have hlen := r.length
  cases xs with
  | nil =>
    cases r
    refine PySem.SeqAt.eq_listAt (e := fun _ => true) l1 l2 rfl (by omega) (fun j h1 _ => absurd h1 (Nat.not_lt_zero _)) ?_
    exact ⟨.bl true, H, I, rfl, q⟩
  | cons z zs =>
    refine PySem.SeqAt.eq_list_lengthsAt l1 l2 ?_ (by omega) ⟨.bl false, H, I, rfl, q⟩
    have : its.length ≠ 0 := by rw [← hlen]; simp
    simp
    intro h
    rw [h] at this
    exact this rfl
theorem op_neE (hu : X.A.units + 64 < cLine) : OpR X (compareOp .NotEq) (rEqE X.K true) := by
  intro pins s σ H x y v u Q I rx ry h
  obtain ⟨l, xs, e, rfl, hl, rfl, he, q⟩ := h
  obtain rfl : v = Value.ref l := rx
  obtain rfl : u = Value.ref e := ry
  obtain ⟨its, r, pl, _⟩ := I.list hl
  obtain ⟨its2, r2, pl2, _⟩ := I.list he
  cases r2
  have l1 : s.heap.IsList l its.toArray := by
    obtain ⟨o, n, g1, g2, _, g4⟩ := pl
    exact ⟨o, g1, g2, n, g4⟩
  have l2 : s.heap.IsList e ([] : List Value).toArray := by
    obtain ⟨o, n, g1, g2, _, g4⟩ := pl2
    exact ⟨o, g1, g2, n, g4⟩
  have hlen := r.length
  cases xs with
  | nil =>
    cases r
    refine PySem.SeqAt.RcNeAt.lists (e := fun _ => true) l1 l2 rfl (by omega) (fun j h1 _ => absurd h1 (Nat.not_lt_zero _)) X.prog X.w _ _ ?_
    exact ⟨.bl false, H, I, rfl, q⟩
  | cons z zs =>
    refine PySem.SeqAt.RcNeAt.lists_lengths l1 l2 ?_ (by omega) X.prog X.w _ _ ⟨.bl true, H, I, rfl, q⟩
    have : its.length ≠ 0 := by rw [← hlen]; simp
    simp
    intro h
    rw [h] at this
    exact this rfl
def opEqE (neg : Bool) : Op2 := fun w u L => match w.items L, u.items L with
  | some ws, some [] => .ok (.d (.bool (xor neg ws.isEmpty))) L
  | _, _ => .stuck
theorem ok_eqE {neg : Bool} : Ok2 X (rEqE X.K neg) (opEqE neg) := by
  intro Wx σ H al T L x y w u Q r q1 q2 h
  unfold opEqE at h
  split at h
  · rename_i ws e1 e2
    obtain ⟨l, vs, rfl, h1, r1⟩ := items_ok r q1 e1
    obtain ⟨e, vs2, rfl, h2, r2⟩ := items_ok r q2 e2
    cases r2
    refine ⟨l, vs, e, rfl, SqL.of h1, rfl, SqL.of h2, ?_⟩
    have : vs.isEmpty = ws.isEmpty := by cases r1 <;> rfl
    rw [this]
    exact gok r h (.d (.bl _))
  · exact h.elim
@[simp] theorem u_opEqE (neg : Bool) w u L : opEqE neg w u L = (match w.items L, u.items L with
  | some ws, some [] => .ok (.d (.bool (xor neg ws.isEmpty))) L
  | _, _ => .stuck) := by unfold opEqE; exact (rfl)
theorem t_eqE (c : Ctx X Wx k) (ha : SE X Wx a fa) (hb : SE X Wx b fb) (hm : behindInMarks .Eq b = false := by rfl) : ST X Wx (.Compare a [.Eq] [b] pos) (tVal (eOp (opEqE false) fa fb)) := st_cmp (r := rEqE X.K false) (op_eqE c.u64) ok_eqE ha hb hm
theorem t_neE (c : Ctx X Wx k) (ha : SE X Wx a fa) (hb : SE X Wx b fb) (hm : behindInMarks .NotEq b = false := by rfl) : ST X Wx (.Compare a [.NotEq] [b] pos) (tVal (eOp (opEqE true) fa fb)) := st_cmp (r := rEqE X.K true) (op_neE c.u64) ok_eqE ha hb hm
variable {o : Expr} {fo : EF} {apos cpos : Pos}
theorem w_pop0 (ho : SE X Wx o fo) (hbase : attributeBase o "pop" X.env (eval o X.env) = eval o X.env := by rfl) (hline : (apos.endLine == cpos.line) = true := by rfl) : SE X Wx (.Call (.Attribute o "pop" apos) [] [] cpos) (eMeth isLs mPop0 fo aNil) :=
  se_meth0 PySem.F.plainAttrs_list PySem.F.slot_list_pop PySem.F.type_list_pop mt_pop ok_pop0 ty_list ho hbase hline
end
end L2.HW
namespace L2.HW
open PySem PySem.Spec PyProof.Rows
@[simp] theorem u_eVar (i : Nat) env L : eVar i env L = (match env[i]? with
  | some (some w) => .ok w L
  | _ => .stuck) := by first | exact (rfl) | (unfold eVar; exact (rfl))
@[simp] theorem u_eC (x : PyData) x0 L : eC x x0 L = (.ok (.d x) L) := by first | exact (rfl) | (unfold eC; exact (rfl))
@[simp] theorem u_eOp (g : Op2) (a b : EF) env L : eOp g a b env L = ((a env L).bind fun w L1 => (b env L1).bind fun u L2 => g w u L2) := by first | exact (rfl) | (unfold eOp; exact (rfl))
@[simp] theorem u_tVal (f : EF) env L : tVal f env L = ((f env L).bind fun w L1 => match w with
  | .d (.bool b) => .ok b L1
  | _ => .stuck) := by first | exact (rfl) | (unfold tVal; exact (rfl))
@[simp] theorem u_tAndF (f g : En → LH → Res Bool) env L : tAndF f g env L = ((f env L).bind fun b L1 => if b then g env L1 else .ok false L1) := by first | exact (rfl) | (unfold tAndF; exact (rfl))
@[simp] theorem u_tOrF (f g : En → LH → Res Bool) env L : tOrF f g env L = ((f env L).bind fun b L1 => if b then .ok true L1 else g env L1) := by first | exact (rfl) | (unfold tOrF; exact (rfl))
@[simp] theorem u_tNotF (f : En → LH → Res Bool) env L : tNotF f env L = ((f env L).bind fun b L1 => .ok (!b) L1) := by first | exact (rfl) | (unfold tNotF; exact (rfl))
@[simp] theorem u_eIf (t : En → LH → Res Bool) (f g : EF) env L : eIf t f g env L = ((t env L).bind fun b L1 => if b then f env L1 else g env L1) := by first | exact (rfl) | (unfold eIf; exact (rfl))
@[simp] theorem u_eAnd (f g : EF) env L : eAnd f g env L = ((tVal f env L).bind fun b L1 => if b then g env L1 else .ok (.d (.bool false)) L1) := by first | exact (rfl) | (unfold eAnd; exact (rfl))
@[simp] theorem u_eOr (f g : EF) env L : eOr f g env L = ((tVal f env L).bind fun b L1 => if b then .ok (.d (.bool true)) L1 else g env L1) := by first | exact (rfl) | (unfold eOr; exact (rfl))
@[simp] theorem u_eNot (f : EF) env L : eNot f env L = ((tVal f env L).bind fun b L1 => .ok (.d (.bool (!b))) L1) := by first | exact (rfl) | (unfold eNot; exact (rfl))
@[simp] theorem u_aNil x0 L : aNil x0 L = (.ok [] L) := by first | exact (rfl) | (unfold aNil; exact (rfl))
@[simp] theorem u_aCons (f : EF) (g : En → LH → Res (List Va)) env L : aCons f g env L = ((f env L).bind fun w L1 => (g env L1).bind fun ws L2 => .ok (w :: ws) L2) := by first | exact (rfl) | (unfold aCons; exact (rfl))
@[simp] theorem u_eDat (g : En → LH → Res Ob) env L : eDat g env L = ((g env L).bind fun o L1 => match o.va with
  | some w => .ok w L1
  | none => .stuck) := by first | exact (rfl) | (unfold eDat; exact (rfl))
@[simp] theorem u_eNew (g : En → LH → Res Ob) env L : eNew g env L = ((g env L).bind fun o L1 => .ok (.loc L1.length) (L1 ++ [some o])) := by first | exact (rfl) | (unfold eNew; exact (rfl))
@[simp] theorem u_opAdd w u L : opAdd w u L = (match w, u with
  | .d (.int i), .d (.int j) => .ok (.d (.int (i + j))) L
  | .d (.str a), .d (.str b) => if a.length + b.length ≤ sizeLine then .ok (.d (.str (a ++ b))) L else .stuck
  | .d (.tuple xs), .d (.tuple ys) => if xs.length + ys.length ≤ sizeLine then .ok (.d (.tuple (xs ++ ys))) L else .stuck
  | w, u => match w.items L, u.items L with
    | some ws, some us => if ws.length + us.length ≤ sizeLine then match datas ws, datas us with
      | some xs, some ys => .ok (.d (.list (xs ++ ys))) L
      | _, _ => .stuck
      else .stuck
    | _, _ => .stuck) := by first | exact (rfl) | (unfold opAdd; exact (rfl))
@[simp] theorem u_opI (g : Int → Int → Int) w u L : opI g w u L = (match w, u with
  | .d (.int i), .d (.int j) => .ok (.d (.int (g i j))) L
  | _, _ => .stuck) := by first | exact (rfl) | (unfold opI; exact (rfl))
@[simp] theorem u_opIC (C : Int → Int → Bool) (g : Int → Int → Int) w u L : opIC C g w u L = (match w, u with
  | .d (.int i), .d (.int j) => if C i j then .ok (.d (.int (g i j))) L else .stuck
  | _, _ => .stuck) := by first | exact (rfl) | (unfold opIC; exact (rfl))
@[simp] theorem u_opMul w u L : opMul w u L = (match w, u with
  | .d (.int i), .d (.int j) => if mulC i j then .ok (.d (.int (i * j))) L else .stuck
  | .d (.tuple xs), .d (.int k) => if xs ≠ [] ∧ 2 ≤ k ∧ k ≤ 1000 ∧ xs.length ≤ 1000 then .ok (.d (.tuple (rep k.toNat xs))) L else .stuck
  | w, .d (.int k) => match w.items L with
    | some ws => if -(2 ^ 63) ≤ k ∧ k < 2 ^ 63 ∧ ws.length * k.toNat ≤ sizeLine then match datas ws with
      | some xs => .ok (.d (.list (rep k.toNat xs))) L
      | none => .stuck
      else .stuck
    | none => .stuck
  | _, _ => .stuck) := by first | exact (rfl) | (unfold opMul; exact (rfl))
@[simp] theorem u_opC (g : Int → Int → Bool) w u L : opC g w u L = (match w, u with
  | .d (.int i), .d (.int j) => .ok (.d (.bool (g i j))) L
  | _, _ => .stuck) := by first | exact (rfl) | (unfold opC; exact (rfl))
@[simp] theorem u_opLt w u L : opLt w u L = (match w, u with
  | .d (.int i), .d (.int j) => .ok (.d (.bool (decide (i < j)))) L
  | .d (.tuple xs), .d (.tuple ys) => match intsOf xs, intsOf ys with
    | some ns, some ms => .ok (.d (.bool (HT.lexLt ns ms))) L
    | _, _ => .stuck
  | _, _ => .stuck) := by first | exact (rfl) | (unfold opLt; exact (rfl))
@[simp] theorem u_opEq w u L : opEq w u L = (match w.data L, u.data L with
  | some x, some y => if cmpOk x y then .ok (.d (.bool (PyData.eqv x y))) L else .stuck
  | _, _ => .stuck) := by first | exact (rfl) | (unfold opEq; exact (rfl))
@[simp] theorem u_opNe w u L : opNe w u L = (match w.data L, u.data L with
  | some x, some y => if cmpOk x y then .ok (.d (.bool (!PyData.eqv x y))) L else .stuck
  | _, _ => .stuck) := by first | exact (rfl) | (unfold opNe; exact (rfl))
@[simp] theorem u_opIsN w u L : opIsN w u L = (match u with
  | .d .none => .ok (.d (.bool w.isN)) L
  | _ => .stuck) := by first | exact (rfl) | (unfold opIsN; exact (rfl))
@[simp] theorem u_opNotN w u L : opNotN w u L = (match u with
  | .d .none => .ok (.d (.bool (!w.isN))) L
  | _ => .stuck) := by first | exact (rfl) | (unfold opNotN; exact (rfl))
@[simp] theorem u_opIsB w u L : opIsB w u L = (match w, u with
  | .d (.bool a), .d (.bool b) => .ok (.d (.bool (decide (a = b)))) L
  | _, _ => .stuck) := by first | exact (rfl) | (unfold opIsB; exact (rfl))
@[simp] theorem u_opNotB w u L : opNotB w u L = (match w, u with
  | .d (.bool a), .d (.bool b) => .ok (.d (.bool (!decide (a = b)))) L
  | _, _ => .stuck) := by first | exact (rfl) | (unfold opNotB; exact (rfl))
@[simp] theorem u_eTup (fs : En → LH → Res (List Va)) env L : eTup fs env L = ((fs env L).bind fun ws L1 => if ws.length ≤ sizeLine then .ok (mkTup ws) L1 else .stuck) := by first | exact (rfl) | (unfold eTup; exact (rfl))
@[simp] theorem u_fLst (fs : En → LH → Res (List Va)) env L : fLst fs env L = ((fs env L).bind fun ws L1 => if ws.length ≤ sizeLine then .ok (.lst ws) L1 else .stuck) := by first | exact (rfl) | (unfold fLst; exact (rfl))
@[simp] theorem u_aStar (f : EF) (g : En → LH → Res (List Va)) env L : aStar f g env L = ((f env L).bind fun w L1 => match w.seq L1 with
  | some us => (g env L1).bind fun ws L2 => .ok (us ++ ws) L2
  | none => .stuck) := by first | exact (rfl) | (unfold aStar; exact (rfl))
@[simp] theorem u_opIx w u L : opIx w u L = (match w.dget L u with
  | some (some x) => .ok x L
  | some none => .stuck
  | none => match u with
    | .d (.int i) => match w.seq L with
      | some ws => match atI ws i with
        | some x => .ok x L
        | none => .stuck
      | none => match w with
        | .d (.str z) => if z.length ≤ sizeLine then match atI z.cps.toList i with
          | some c => .ok (.d (.str ⟨#[c]⟩)) L
          | none => .stuck
          else .stuck
        | _ => .stuck
    | _ => .stuck) := by first | exact (rfl) | (unfold opIx; exact (rfl))
@[simp] theorem u_opSl (w : Va) (lo hi : Option Int) (L : LH) : opSl w lo hi L = match w with
  | .d (.tuple xs) => .ok (.d (.tuple (cutA xs lo hi))) L
  | .d (.str z) => if z.length ≤ sizeLine then .ok (.d (.str (cutS z lo hi))) L else .stuck
  | w => match w.items L with
    | some ws => match datas (cutA ws lo hi) with
      | some xs => .ok (.d (.list xs)) L
      | none => .stuck
    | none => .stuck := by unfold opSl; exact (rfl)
@[simp] theorem u_eSl (f : EF) (p q : En → LH → Res (Option Int)) env L : eSl f p q env L = ((f env L).bind fun w L1 => (p env L1).bind fun lo L2 => (q env L2).bind fun hi L3 => opSl w lo hi L3) := by first | exact (rfl) | (unfold eSl; exact (rfl))
@[simp] theorem u_fSl (f : EF) (p q : En → LH → Res (Option Int)) env L : fSl f p q env L = ((f env L).bind fun w L1 => (p env L1).bind fun lo L2 => (q env L2).bind fun hi L3 => match w.items L3 with
  | some ws => .ok (.lst (cutA ws lo hi)) L3
  | none => .stuck) := by first | exact (rfl) | (unfold fSl; exact (rfl))
@[simp] theorem u_fCat (f g : EF) env L : fCat f g env L = ((f env L).bind fun w L1 => (g env L1).bind fun u L2 => match w.items L2, u.items L2 with
  | some ws, some us => if ws.length + us.length ≤ sizeLine then .ok (.lst (ws ++ us)) L2 else .stuck
  | _, _ => .stuck) := by first | exact (rfl) | (unfold fCat; exact (rfl))
@[simp] theorem u_fRep (f g : EF) env L : fRep f g env L = ((f env L).bind fun w L1 => (g env L1).bind fun u L2 => match w.items L2, u with
  | some ws, .d (.int k) => if -(2 ^ 63) ≤ k ∧ k < 2 ^ 63 ∧ ws.length * k.toNat ≤ sizeLine then .ok (.lst (rep k.toNat ws)) L2 else .stuck
  | _, _ => .stuck) := by first | exact (rfl) | (unfold fRep; exact (rfl))
@[simp] theorem u_opIn (neg : Bool) w u L : opIn neg w u L = (match u.dget L w with
  | some o => .ok (.d (.bool (if neg then !o.isSome else o.isSome))) L
  | none => match u, w with
    | .d (.str z), .d (.str s) => match s.cps.toList with
      | [c] => .ok (.d (.bool (if neg then !decide (c ∈ z.cps.toList) else decide (c ∈ z.cps.toList)))) L
      | _ => .stuck
    | .d (.tuple ds), .d x => if flatD x && ds.all flatD then .ok (.d (.bool (if neg then !(ds.any fun z => PyData.eqv z x) else ds.any fun z => PyData.eqv z x))) L else .stuck
    | u, w => match u.data L, w.data L with
      | some (.list ds), some x => if SeqAt.shaped x && SeqAt.shaped (.list ds) then .ok (.d (.bool (if neg then !(ds.any fun z => PyData.eqv z x) else ds.any fun z => PyData.eqv z x))) L else .stuck
      | _, _ => .stuck) := by first | exact (rfl) | (unfold opIn; exact (rfl))
@[simp] theorem u_pNone x0 L : pNone x0 L = (.ok none L) := by first | exact (rfl) | (unfold pNone; exact (rfl))
@[simp] theorem u_pSome (f : EF) env L : pSome f env L = ((f env L).bind fun w L1 => match w with
  | .d (.int i) => .ok (some i) L1
  | _ => .stuck) := by first | exact (rfl) | (unfold pSome; exact (rfl))
@[simp] theorem u_eCallB (g : List Va → LH → Res Va) (fs : En → LH → Res (List Va)) env L : eCallB g fs env L = ((fs env L).bind g) := by first | exact (rfl) | (unfold eCallB; exact (rfl))
@[simp] theorem u_fCallB (g : List Va → LH → Res Ob) (fs : En → LH → Res (List Va)) env L : fCallB g fs env L = ((fs env L).bind g) := by first | exact (rfl) | (unfold fCallB; exact (rfl))
@[simp] theorem u_cLen ws L : cLen ws L = (match ws with
  | [w] => match w with
    | .d (.str z) => if z.length ≤ sizeLine then .ok (.d (.int z.length)) L else .stuck
    | .dct ks => .ok (.d (.int ks.length)) L
    | w => match w.seq L with
      | some us => .ok (.d (.int us.length)) L
      | none => match w with
        | .loc n => match L[n]? with
          | some (some (.di ks)) => .ok (.d (.int ks.length)) L
          | _ => .stuck
        | _ => .stuck
  | _ => .stuck) := by first | exact (rfl) | (unfold cLen; exact (rfl))
@[simp] theorem u_eIsi (T : String) (f : EF) env L : eIsi T f env L = ((f env L).bind fun w L1 => match w.kind L1 with
  | some k => .ok (.d (.bool (isKind k T))) L1
  | none => .stuck) := by first | exact (rfl) | (unfold eIsi; exact (rfl))
@[simp] theorem u_cMin2 ws L : cMin2 ws L = (match ws with
  | [.d (.int i), .d (.int j)] => .ok (.d (.int (if j < i then j else i))) L
  | _ => .stuck) := by first | exact (rfl) | (unfold cMin2; exact (rfl))
@[simp] theorem u_cMax2 ws L : cMax2 ws L = (match ws with
  | [.d (.int i), .d (.int j)] => .ok (.d (.int (if j > i then j else i))) L
  | _ => .stuck) := by first | exact (rfl) | (unfold cMax2; exact (rfl))
@[simp] theorem u_cInt ws L : cInt ws L = (match ws with
  | [.d (.int i)] => .ok (.d (.int i)) L
  | [.d (.bool b)] => .ok (.d (.int (if b then 1 else 0))) L
  | _ => .stuck) := by first | exact (rfl) | (unfold cInt; exact (rfl))
@[simp] theorem u_cStr ws L : cStr ws L = (match ws with
  | [.d (.int i)] => if i.natAbs.log2 < 1920 then .ok (.d (.str (toString i))) L else .stuck
  | _ => .stuck) := by first | exact (rfl) | (unfold cStr; exact (rfl))
@[simp] theorem u_cList ws L : cList ws L = (match ws with
  | [w] => match w.seq L with
    | some us => .ok (.lst us) L
    | none => .stuck
  | _ => .stuck) := by first | exact (rfl) | (unfold cList; exact (rfl))
@[simp] theorem u_cTuple ws L : cTuple ws L = (match ws with
  | [.d (.tuple xs)] => .ok (.d (.tuple xs)) L
  | [w] => match w.items L with
    | some us => .ok (mkTup us) L
    | none => .stuck
  | _ => .stuck) := by first | exact (rfl) | (unfold cTuple; exact (rfl))
@[simp] theorem u_sNil env L : sNil env L = (.nx env L) := by first | exact (rfl) | (unfold sNil; exact (rfl))
@[simp] theorem u_sSeq (f g : SFn) env L : sSeq f g env L = (match f env L with
  | .nx env1 L1 => g env1 L1
  | o => o) := by first | exact (rfl) | (unfold sSeq; exact (rfl))
@[simp] theorem u_sPass : sPass  = sNil := by unfold sPass; exact (rfl)
@[simp] theorem u_sBreak env L : sBreak env L = (.bk env L) := by first | exact (rfl) | (unfold sBreak; exact (rfl))
@[simp] theorem u_sCont env L : sCont env L = (.ct env L) := by first | exact (rfl) | (unfold sCont; exact (rfl))
@[simp] theorem u_sExpr (f : EF) env L : sExpr f env L = ((f env L).then env fun _ L1 => .nx env L1) := by first | exact (rfl) | (unfold sExpr; exact (rfl))
@[simp] theorem u_sRet (f : EF) env L : sRet f env L = ((f env L).then env fun w L1 => .rt w L1) := by first | exact (rfl) | (unfold sRet; exact (rfl))
@[simp] theorem u_sRetN x0 L : sRetN x0 L = (.rt (.d .none) L) := by first | exact (rfl) | (unfold sRetN; exact (rfl))
@[simp] theorem u_sRetF (g : En → LH → Res Ob) env L : sRetF g env L = ((g env L).then env fun o L1 => .rf o L1) := by first | exact (rfl) | (unfold sRetF; exact (rfl))
@[simp] theorem u_sIf (t : En → LH → Res Bool) (f g : SFn) env L : sIf t f g env L = ((t env L).then env fun b L1 => if b then f env L1 else g env L1) := by first | exact (rfl) | (unfold sIf; exact (rfl))
@[simp] theorem u_sSet (i : Nat) (f : EF) env L : sSet i f env L = ((f env L).then env fun w L1 => .nx (env.set i (some w)) L1) := by first | exact (rfl) | (unfold sSet; exact (rfl))
@[simp] theorem u_sAug (i : Nat) (g : Int → Int → Int) (f : EF) env L : sAug i g f env L = (match env[i]? with
  | some (some (.d (.int a))) => (f env L).then env fun w L1 => match w with
    | .d (.int b) => .nx (env.set i (some (.d (.int (g a b))))) L1
    | _ => .stuck
  | _ => .stuck) := by first | exact (rfl) | (unfold sAug; exact (rfl))
@[simp] theorem u_tN (i : Nat) w env L : tN i w env L = (.ok (env.set i (some w)) L) := by first | exact (rfl) | (unfold tN; exact (rfl))
@[simp] theorem u_tgNil ws env L : tgNil ws env L = (match ws with
  | [] => .ok env L
  | _ => .stuck) := by first | exact (rfl) | (unfold tgNil; exact (rfl))
@[simp] theorem u_tgCons (f : Va → En → LH → Res En) (g : List Va → En → LH → Res En) ws env L : tgCons f g ws env L = (match ws with
  | w :: r => (f w env L).bind fun env1 L1 => g r env1 L1
  | [] => .stuck) := by first | exact (rfl) | (unfold tgCons; exact (rfl))
@[simp] theorem u_tTupT (n : Nat) (g : List Va → En → LH → Res En) w env L : tTupT n g w env L = (match w.seq L with
  | some ws => if ws.length = n then g ws env L else .stuck
  | none => .stuck) := by first | exact (rfl) | (unfold tTupT; exact (rfl))
@[simp] theorem u_sAsg (f : EF) (g : Va → En → LH → Res En) env L : sAsg f g env L = ((f env L).then env fun w L1 => match g w env L1 with
  | .ok env1 L2 => .nx env1 L2
  | _ => .stuck) := by first | exact (rfl) | (unfold sAsg; exact (rfl))
@[simp] theorem u_sPar (i j : Nat) (fs : En → LH → Res (List Va)) env L : sPar i j fs env L = ((fs env L).then env fun ws L1 => match ws with
  | [w, u] => .nx ((env.set i (some w)).set j (some u)) L1
  | _ => .stuck) := by first | exact (rfl) | (unfold sPar; exact (rfl))
@[simp] theorem u_sPar3 (i j k : Nat) (fs : En → LH → Res (List Va)) env L : sPar3 i j k fs env L = ((fs env L).then env fun ws L1 => match ws with
  | [w, u, z] => .nx (((env.set i (some w)).set j (some u)).set k (some z)) L1
  | _ => .stuck) := by first | exact (rfl) | (unfold sPar3; exact (rfl))
@[simp] theorem u_tIx (f g : EF) v env L : tIx f g v env L = ((f env L).bind fun w L1 => (g env L1).bind fun u L2 => match w with
  | .loc n => match L2[n]?, u with
    | some (some (.lst ws)), .d (.int i) => match ixN ws.length i with
      | some j => .ok env (L2.set n (some (.lst (ws.set j v))))
      | none => .stuck
    | some (some (.di ks)), .d (.int i) => if ks.length < sizeLine then .ok env (L2.set n (some (.di (aput ks i v)))) else .stuck
    | some (some (.di [])), .d (.tuple xs) => match intsOf xs with
      | some ns => .ok env (L2.set n (some (.dt [(ns, v)])))
      | none => .stuck
    | some (some (.dt ks)), .d (.tuple xs) => match intsOf xs with
      | some ns => if ks.length < sizeLine then .ok env (L2.set n (some (.dt (aput ks ns v)))) else .stuck
      | none => .stuck
    | _, _ => .stuck
  | _ => .stuck) := by first | exact (rfl) | (unfold tIx; exact (rfl))
@[simp] theorem u_srcV (f : EF) env L : srcV f env L = ((f env L).bind fun w L1 => match srcOf w L1 with
  | some p => .ok p L1
  | none => .stuck) := by first | exact (rfl) | (unfold srcV; exact (rfl))
@[simp] theorem u_srcR1 (fs : En → LH → Res (List Va)) env L : srcR1 fs env L = ((fs env L).bind fun ws L1 => match ws with
  | [.d (.int j)] => if -(2 ^ 62) ≤ j ∧ j < 2 ^ 62 then .ok (rngV 0 j.toNat, none) L1 else .stuck
  | _ => .stuck) := by first | exact (rfl) | (unfold srcR1; exact (rfl))
@[simp] theorem u_srcR2 (fs : En → LH → Res (List Va)) env L : srcR2 fs env L = ((fs env L).bind fun ws L1 => match ws with
  | [.d (.int i), .d (.int j)] => if -(2 ^ 62) ≤ i ∧ i < 2 ^ 62 ∧ -(2 ^ 62) ≤ j ∧ j < 2 ^ 62 then .ok (rngV i (j - i).toNat, none) L1 else .stuck
  | _ => .stuck) := by first | exact (rfl) | (unfold srcR2; exact (rfl))
@[simp] theorem u_eCall (F : Fn) (fs : En → LH → Res (List Va)) env L : eCall F fs env L = ((fs env L).bind F) := by first | exact (rfl) | (unfold eCall; exact (rfl))
@[simp] theorem u_fCall (F : FnF) (fs : En → LH → Res (List Va)) env L : fCall F fs env L = ((fs env L).bind F) := by first | exact (rfl) | (unfold fCall; exact (rfl))
@[simp] theorem u_eMeth (chk : LH → Va → Bool) (g : Va → List Va → LH → Res Va) (fo : EF) (fs : En → LH → Res (List Va)) env L : eMeth chk g fo fs env L = ((fo env L).bind fun w L1 => if chk L1 w then (fs env L1).bind fun ws L2 => g w ws L2 else .stuck) := by first | exact (rfl) | (unfold eMeth; exact (rfl))
@[simp] theorem u_mAppend w ws L : mAppend w ws L = (match w, ws with
  | .loc n, [v] => match L[n]? with
    | some (some (.lst us)) => if us.length < sizeLine then .ok (.d .none) (L.set n (some (.lst (us ++ [v])))) else .stuck
    | _ => .stuck
  | _, _ => .stuck) := by first | exact (rfl) | (unfold mAppend; exact (rfl))
@[simp] theorem u_mInsert w ws L : mInsert w ws L = (match w, ws with
  | .loc n, [.d (.int i), v] => match L[n]? with
    | some (some (.lst us)) => if us.length < sizeLine ∧ 0 ≤ i ∧ i < 2 ^ 63 then .ok (.d .none) (L.set n (some (.lst (us.take i.toNat ++ [v] ++ us.drop i.toNat)))) else .stuck
    | _ => .stuck
  | _, _ => .stuck) := by first | exact (rfl) | (unfold mInsert; exact (rfl))
@[simp] theorem u_mPop0 w ws L : mPop0 w ws L = (match w, ws with
  | .loc n, [] => match L[n]? with
    | some (some (.lst us)) => match us[us.length - 1]? with
      | some u => .ok u (L.set n (some (.lst us.dropLast)))
      | none => .stuck
    | _ => .stuck
  | _, _ => .stuck) := by first | exact (rfl) | (unfold mPop0; exact (rfl))
@[simp] theorem u_eNeg (f : EF) env L : eNeg f env L = ((f env L).bind fun w L1 => match w with
  | .d (.int i) => .ok (.d (.int (-i))) L1
  | _ => .stuck) := by first | exact (rfl) | (unfold eNeg; exact (rfl))
open Classical in
@[simp] theorem u_cRepr ws L : cRepr ws L = (match ws with
  | [w] => match w.data L with
    | some x => if okShow x then .ok (.d (.str x.shown)) L else .stuck
    | none => .stuck
  | _ => .stuck) := by first | exact (rfl) | (unfold cRepr; exact (rfl))
@[simp] theorem u_eRev (f : EF) env L : eRev f env L = ((f env L).bind fun w L1 => match w.data L1 with
  | some (.list xs) => .ok (.d (.list xs.reverse)) L1
  | some (.tuple xs) => .ok (.d (.tuple xs.reverse)) L1
  | _ => .stuck) := by first | exact (rfl) | (unfold eRev; exact (rfl))
@[simp] theorem u_isLs L w : isLs L w = (match w with
  | .d (.list _) => true
  | .loc n => match L[n]? with
    | some (some (.lst _)) => true
    | _ => false
  | _ => false) := by first | exact (rfl) | (unfold isLs; exact (rfl))
@[simp] theorem u_tTrue x0 L : tTrue x0 L = (.ok true L) := by first | exact (rfl) | (unfold tTrue; exact (rfl))
@[simp] theorem u_srcE (k0 : Int) (fs : En → LH → Res (List Va)) env L : srcE k0 fs env L = ((fs env L).bind fun ws L1 => match ws with
  | [w] => match srcOf w L1 with
    | some p => .ok (enumV k0 p.1, p.2) L1
    | none => .stuck
  | _ => .stuck) := by first | exact (rfl) | (unfold srcE; exact (rfl))
@[simp] theorem u_sRaise (x : Str) env L : sRaise x env L = (.exc x none env L) := by first | exact (rfl) | (unfold sRaise; exact (rfl))
@[simp] theorem u_fDisp (ps : List (EF × EF)) env L : fDisp ps env L = (match dsp ps env L with
  | .ok kvs L1 => if kvs.length ≤ 15 then .ok (.di (mergeA [] kvs)) L1 else .stuck
  | _ => .stuck) := by first | exact (rfl) | (unfold fDisp; exact (rfl))
@[simp] theorem u_sAugIx (op : Int → Int → Int) (f g e : EF) env L : sAugIx op f g e env L = ((f env L).then env fun w L1 => (g env L1).then env fun u L2 => match w, u with
  | .loc n, .d (.int k) => match L2[n]? with
    | some (some (.lst ws)) => if 0 ≤ k then match ws[k.toNat]? with
      | some (.d (.int a)) => (e env L2).then env fun v L3 => match v, L3[n]? with
        | .d (.int b), some (some (.lst ws3)) => if k.toNat < ws3.length then .nx env (L3.set n (some (.lst (ws3.set k.toNat (.d (.int (op a b))))))) else .stuck
        | _, _ => .stuck
      | _ => .stuck
      else .stuck
    | _ => .stuck
  | _, _ => .stuck) := by first | exact (rfl) | (unfold sAugIx; exact (rfl))
@[simp] theorem u_eGet1 (f g : EF) env L : eGet1 f g env L = ((f env L).bind fun w L1 => if isD L1 w then (g env L1).bind fun u L2 => match w.dget L2 u with
  | some (some x) => .ok x L2
  | some none => .ok (.d .none) L2
  | none => .stuck
  else .stuck) := by first | exact (rfl) | (unfold eGet1; exact (rfl))
@[simp] theorem u_eGet2 (f g h : EF) env L : eGet2 f g h env L = ((f env L).bind fun w L1 => if isD L1 w then (g env L1).bind fun u L2 => (h env L2).bind fun z L3 => match w.dget L3 u with
  | some (some x) => .ok x L3
  | some none => .ok z L3
  | none => .stuck
  else .stuck) := by first | exact (rfl) | (unfold eGet2; exact (rfl))
@[simp] theorem u_isD L w : isD L w = (match w with
  | .dct _ => true
  | .loc n => match L[n]? with
    | some (some (.di _)) => true
    | some (some (.dt _)) => true
    | _ => false
  | _ => false) := by first | exact (rfl) | (unfold isD; exact (rfl))
@[simp] theorem u_srcIt (i : Nat) env L : srcIt i env L = (match env[i]? with
  | some (some (.loc n)) => match L[n]? with
    | some (some (.di kvs)) => .ok (itemsV kvs, some n) L
    | _ => .stuck
  | _ => .stuck) := by first | exact (rfl) | (unfold srcIt; exact (rfl))
@[simp] theorem u_fSortIt (i : Nat) env L : fSortIt i env L = (match env[i]? with
  | some (some (.loc n)) => match L[n]? with
    | some (some (.di kvs)) => match intKvs kvs with
      | some ks => .ok (.lst (((sortP ks).map fun q => PyData.tuple [.int q.1, .int q.2]).map Va.d)) L
      | none => .stuck
    | _ => .stuck
  | _ => .stuck) := by first | exact (rfl) | (unfold fSortIt; exact (rfl))
open Classical in
@[simp] theorem u_cMin1X ws L : cMin1X ws L = (one ws L fun us => match vaInts us with
  | some ns => match minI ns with
    | some m => .ok (.d (.int m)) L
    | none => .stuck
  | none => match datas us with
    | some (x :: r) => if PySem.W.AlikeAll (x :: r) ∧ PyData.depthAll (x :: r) ≤ 60 then .ok (.d (PySem.W.minD x r)) L else .stuck
    | _ => .stuck) := by first | exact (rfl) | (unfold cMin1X; exact (rfl))
open Classical in
@[simp] theorem u_eMinDef (fs : En → LH → Res (List Va)) (g : EF) env L : eMinDef fs g env L = ((fs env L).bind fun ws L1 => (g env L1).bind fun z L2 => one ws L2 fun us => match datas us with
  | some [] => .ok z L2
  | some (x :: r) => if PySem.W.AlikeAll (x :: r) ∧ PyData.depthAll (x :: r) ≤ 60 then .ok (.d (PySem.W.minD x r)) L2 else .stuck
  | none => .stuck) := by first | exact (rfl) | (unfold eMinDef; exact (rfl))
@[simp] theorem u_fLstR1 (f : EF) env L : fLstR1 f env L = ((f env L).bind fun w L1 => match w with
  | .d (.int n) => if RgOk 0 n then .ok (.lst ((rngD 0 n.toNat).map Va.d)) L1 else .stuck
  | _ => .stuck) := by first | exact (rfl) | (unfold fLstR1; exact (rfl))
@[simp] theorem u_fLstR2 (f g : EF) env L : fLstR2 f g env L = ((f env L).bind fun w L1 => (g env L1).bind fun u L2 => match w, u with
  | .d (.int a), .d (.int b) => if RgOk a b then .ok (.lst ((rngD a (b - a).toNat).map Va.d)) L2 else .stuck
  | _, _ => .stuck) := by first | exact (rfl) | (unfold fLstR2; exact (rfl))
@[simp] theorem u_eTupR1 (f : EF) env L : eTupR1 f env L = ((f env L).bind fun w L1 => match w with
  | .d (.int n) => if RgOk 0 n then .ok (.d (.tuple (rngD 0 n.toNat))) L1 else .stuck
  | _ => .stuck) := by first | exact (rfl) | (unfold eTupR1; exact (rfl))
@[simp] theorem u_eTupR2 (f g : EF) env L : eTupR2 f g env L = ((f env L).bind fun w L1 => (g env L1).bind fun u L2 => match w, u with
  | .d (.int a), .d (.int b) => if RgOk a b then .ok (.d (.tuple (rngD a (b - a).toNat))) L2 else .stuck
  | _, _ => .stuck) := by first | exact (rfl) | (unfold eTupR2; exact (rfl))
@[simp] theorem u_eIsE (x : Str) (f : EF) env L : eIsE x f env L = ((f env L).bind fun w L1 => match w with
  | .exc c _ => if c ∈ ten then .ok (.d (.bool (isErr c x || decide (x = "ValueError")))) L1 else .stuck
  | .d .none => .ok (.d (.bool false)) L1
  | _ => .stuck) := by first | exact (rfl) | (unfold eIsE; exact (rfl))
@[simp] theorem u_sTry (i j : Nat) (f : SFn) env L : sTry i j f env L = (match f env L with
  | .exc c g env1 L1 => if c ∈ ten ∧ i < env1.length then .nx ((env1.set j (some (.exc c g))).set i none) L1 else .stuck
  | o => o) := by first | exact (rfl) | (unfold sTry; exact (rfl))
@[simp] theorem u_srcZ (fs : En → LH → Res (List Va)) env L : srcZ fs env L = ((fs env L).bind fun ws L1 => match ws with
  | [w, u] => match srcOf w L1, srcOf u L1 with
    | some (xs, none), some (ys, none) => match w, u with
      | .d (.list _), .d (.list _) => .ok (zipV xs ys, none) L1
      | .d (.tuple _), .d (.tuple _) => .ok (zipV xs ys, none) L1
      | _, _ => .stuck
    | _, _ => .stuck
  | _ => .stuck) := by first | exact (rfl) | (unfold srcZ; exact (rfl))
end L2.HW
namespace L2.HW
open PySem PySem.Spec PyProof.Rows
noncomputable def b_l_mixed : SFn :=
  (sSeq (sSet 2 (eOp opMod (eCallB cInt (aCons (eOp opAdd (eOp opAdd (eOp opMul (eOp opMod (eCallB cInt (aCons (eVar 0) aNil)) (eC (.int 2147483647))) (eC (.int 48271))) (eOp opMul (eVar 1) (eC (.int 69621)))) (eC (.int 1048583))) aNil)) (eC (.int 2147483629))))
  (sSeq (sSet 2 (eOp opMod (eCallB cInt (aCons (eOp opMul (eVar 2) (eVar 2)) aNil)) (eC (.int 2147483587))))
  (sRet (eOp opMod (eCallB cInt (aCons (eOp opMul (eVar 2) (eOp opAdd (eVar 2) (eC (.int 2)))) aNil)) (eC (.int 2147483579))))))
noncomputable def F_l_mixed : Fn := mkFn 2 3 b_l_mixed
noncomputable def b_l_pile_1 : SFn :=
  (sSet 3 (eOp opAdd (eOp opMul (eVar 3) (eC (.int 2147483579))) (eCall F_l_mixed (aCons (eVar 2) (aCons (eOp opAdd (eOp opAdd (eOp opMul (eC (.int 7)) (eVar 1)) (eOp opMul (eC (.int 100)) (eVar 4))) (eOp opMul (eVar 4) (eVar 4))) aNil)))))
noncomputable def b_l_pile : SFn :=
  (sSeq (sSet 2 (eC (.int 0)))
  (sSeq (sIf (tVal (eOp opLt (eVar 1) (eCallB cLen (aCons (eVar 0) aNil)))) (sSet 2 (eOp opIx (eVar 0) (eVar 1))) sNil)
  (sSeq (sIf (tVal (eOp opGe (eVar 2) (eOp opPow (eC (.int 10)) (eC (.int 18))))) (sRetF (fLst (aCons (eOp opMod (eCallB cInt (aCons (eOp opSub (eVar 2) (eOp opPow (eC (.int 10)) (eC (.int 18)))) aNil)) (eOp opMul (eOp opMul (eOp opMul (eOp opPow (eC (.int 10)) (eC (.int 60))) (eOp opPow (eC (.int 10)) (eC (.int 60)))) (eOp opPow (eC (.int 10)) (eC (.int 60)))) (eOp opPow (eC (.int 10)) (eC (.int 60))))) aNil))) sNil)
  (sSeq (sSet 3 (eC (.int 0)))
  (sSeq (sFor (srcR1 (aCons (eC (.int 24)) aNil)) (tN 4) b_l_pile_1)
  (sRetF (fLst (aCons (eVar 3) aNil))))))))
noncomputable def F_l_pile : FnF := mkFnF 2 5 b_l_pile
noncomputable def b_l_take : SFn :=
  (sSeq (sSet 2 (eOp opMod (eCallB cInt (aCons (eOp opIx (eVar 0) (eC (.int 0))) aNil)) (eVar 1)))
  (sSeq (sAsg (eOp opDiv (eOp opIx (eVar 0) (eC (.int 0))) (eVar 1)) (tIx (eVar 0) (eC (.int 0))))
  (sRet (eVar 2))))
noncomputable def F_l_take : Fn := mkFn 2 3 b_l_take
noncomputable def b_is_whole : SFn :=
  (sRet (eAnd (eIsi "int" (eVar 0)) (eAnd (eNot (eIsi "bool" (eVar 0))) (eOp opGe (eVar 0) (eC (.int 0))))))
noncomputable def F_is_whole : Fn := mkFn 1 1 b_is_whole
noncomputable def b_is_place : SFn :=
  (sRet (eAnd (eCall F_is_whole (aCons (eVar 1) aNil)) (eOp opLt (eVar 1) (eVar 0))))
noncomputable def F_is_place : Fn := mkFn 2 2 b_is_place
noncomputable def b_is_more : SFn :=
  (sRet (eAnd (eCall F_is_whole (aCons (eVar 0) aNil)) (eOp opGt (eVar 0) (eC (.int 0)))))
noncomputable def F_is_more : Fn := mkFn 1 1 b_is_more
noncomputable def b_is_road : SFn :=
  (sSeq (sIf (tOrF (tNotF (tVal (eIsi "tuple" (eVar 2)))) (tVal (eOp opNe (eCallB cLen (aCons (eVar 2) aNil)) (eC (.int 4))))) (sRet (eC (.bool false))) sNil)
  (sSeq (sAsg (eVar 2) (tTupT 4 (tgCons (tN 3) (tgCons (tN 4) (tgCons (tN 5) (tgCons (tN 6) tgNil))))))
  (sSeq (sIf (tOrF (tNotF (tVal (eCall F_is_place (aCons (eVar 0) (aCons (eVar 3) aNil))))) (tOrF (tNotF (tVal (eCall F_is_place (aCons (eVar 0) (aCons (eVar 4) aNil))))) (tOrF (tVal (eOp opEq (eVar 3) (eVar 4))) (tVal (eOp opEq (eVar 3) (eVar 1)))))) (sRet (eC (.bool false))) sNil)
  (sRet (eAnd (eCall F_is_more (aCons (eVar 5) aNil)) (eCall F_is_more (aCons (eVar 6) aNil)))))))
noncomputable def F_is_road : Fn := mkFn 3 7 b_is_road
noncomputable def b_l_whole : SFn :=
  (sRet (eAnd (eIsi "int" (eVar 0)) (eNot (eIsi "bool" (eVar 0)))))
noncomputable def F_l_whole : Fn := mkFn 1 1 b_l_whole
noncomputable def b_l_is_from : SFn :=
  (sRet (eAnd (eCall F_l_whole (aCons (eVar 0) aNil)) (eOp opGe (eVar 0) (eVar 1))))
noncomputable def F_l_is_from : Fn := mkFn 2 2 b_l_is_from
noncomputable def b_l_is_place : SFn :=
  (sRet (eAnd (eCall F_l_is_from (aCons (eVar 1) (aCons (eC (.int 0)) aNil))) (eOp opLt (eVar 1) (eVar 0))))
noncomputable def F_l_is_place : Fn := mkFn 2 2 b_l_is_place
noncomputable def b_l_is_road : SFn :=
  (sSeq (sIf (tOrF (tNotF (tVal (eIsi "tuple" (eVar 2)))) (tVal (eOp opNe (eCallB cLen (aCons (eVar 2) aNil)) (eC (.int 4))))) (sRet (eC (.bool false))) sNil)
  (sSeq (sAsg (eVar 2) (tTupT 4 (tgCons (tN 3) (tgCons (tN 4) (tgCons (tN 5) (tgCons (tN 6) tgNil))))))
  (sSeq (sIf (tOrF (tNotF (tVal (eCall F_l_is_place (aCons (eVar 0) (aCons (eVar 3) aNil))))) (tOrF (tNotF (tVal (eCall F_l_is_place (aCons (eVar 0) (aCons (eVar 4) aNil))))) (tOrF (tVal (eOp opEq (eVar 3) (eVar 4))) (tVal (eOp opEq (eVar 3) (eVar 1)))))) (sRet (eC (.bool false))) sNil)
  (sRet (eAnd (eCall F_l_is_from (aCons (eVar 5) (aCons (eC (.int 1)) aNil))) (eCall F_l_is_from (aCons (eVar 6) (aCons (eC (.int 1)) aNil))))))))
noncomputable def F_l_is_road : Fn := mkFn 3 7 b_l_is_road
noncomputable def b_is_pair : SFn :=
  (sSeq (sIf (tOrF (tNotF (tVal (eIsi "tuple" (eVar 2)))) (tOrF (tVal (eOp opNe (eCallB cLen (aCons (eVar 2) aNil)) (eC (.int 2)))) (tNotF (tVal (eCallB cAll (aCons (eDat (fComp (srcV (eVar 2)) (tN 3) tTrue (eCall F_is_place (aCons (eVar 0) (aCons (eVar 3) aNil))) [3])) aNil)))))) (sRet (eC (.bool false))) sNil)
  (sRet (eAnd (eOp opNe (eOp opIx (eVar 2) (eC (.int 0))) (eOp opIx (eVar 2) (eC (.int 1)))) (eOp opNe (eOp opIx (eVar 2) (eC (.int 0))) (eVar 1)))))
noncomputable def F_is_pair : Fn := mkFn 3 4 b_is_pair
end L2.HW
namespace L2.HW
open PySem PySem.Spec PyProof.Rows
noncomputable def b_l_word_of : SFn :=
  (sSeq (sSet 1 (eDat (fLst (aCons (eIsE "NoWeb" (eVar 0)) (aCons (eIsE "NoMoment" (eVar 0)) (aCons (eIsE "NoNumber" (eVar 0)) aNil))))))
  (sSeq (sSet 1 (eOp opAdd (eVar 1) (eDat (fLst (aCons (eIsE "NoRoad" (eVar 0)) (aCons (eIsE "NoCut" (eVar 0)) (aCons (eIsE "NoShape" (eVar 0)) aNil)))))))
  (sSeq (sSet 1 (eOp opAdd (eVar 1) (eDat (fLst (aCons (eIsE "NotTree" (eVar 0)) (aCons (eIsE "NotRoad" (eVar 0)) (aCons (eIsE "NoText" (eVar 0)) aNil)))))))
  (sSeq (sSet 1 (eOp opAdd (eVar 1) (eDat (fLst (aCons (eIsE "Unlike" (eVar 0)) (aCons (eIsE "ValueError" (eVar 0)) (aCons (eIsE "HasteError" (eVar 0)) aNil)))))))
  (sSeq (sSet 2 (eDat (fLst (aCons (eC (.str "web")) (aCons (eC (.str "moment")) (aCons (eC (.str "number")) (aCons (eC (.str "road")) (aCons (eC (.str "cut")) (aCons (eC (.str "shape")) (aCons (eC (.str "tree")) (aCons (eC (.str "notroad")) (aCons (eC (.str "text")) (aCons (eC (.str "unlike")) (aCons (eC (.str "value")) (aCons (eC (.str "error")) aNil)))))))))))))))
  (sSeq (sSet 3 (eDat (fComp (srcZ (aCons (eVar 2) (aCons (eVar 1) aNil))) (tTupT 2 (tgCons (tN 4) (tgCons (tN 5) tgNil))) (tVal (eVar 5)) (eVar 4) [4, 5])))
  (sSeq (sIf (tVal (eOp opEq (eVar 3) (eDat (fLst aNil)))) (sRet (eC (.str ""))) sNil)
  (sRet (eOp opIx (eDat (fLst (aCons (eOp opIx (eVar 3) (eC (.int 0))) (aCons (eC (.str "other")) aNil)))) (eCallB cInt (aCons (eOp opNe (eSl (eVar 3) (pSome (eC (.int 1))) pNone) (eDat (fLst (aCons (eC (.str "value")) (aCons (eC (.str "error")) aNil))))) aNil)))))))))))
noncomputable def F_l_word_of : Fn := mkFn 1 6 b_l_word_of
end L2.HW
namespace L2.HW
open PySem PySem.Spec PyProof.Rows
end L2.HW
namespace L2.HW
open PySem PySem.Spec PyProof.Rows
end L2.HW
namespace L2.HW
open PySem PySem.Spec PyProof.Rows
noncomputable def b_l_pick : SFn :=
  (sRet (eOp opIx (eVar 1) (eCall F_l_take (aCons (eVar 0) (aCons (eCallB cLen (aCons (eVar 1) aNil)) aNil)))))
noncomputable def F_l_pick : Fn := mkFn 2 2 b_l_pick
end L2.HW
namespace L2.HW
open PySem PySem.Spec PyProof.Rows
end L2.HW
namespace L2.HW
open PySem PySem.Spec PyProof.Rows
end L2.HW
namespace L2.HW
open PySem PySem.Spec PyProof.Rows
end L2.HW
namespace L2.HW
open PySem PySem.Spec PyProof.Rows
end L2.HW
namespace L2.HW
open PySem PySem.Spec PyProof.Rows
noncomputable def b_is_form (self : Fn) : SFn :=
  (sSeq (sIf (tVal (eCall F_is_whole (aCons (eVar 0) aNil))) (sRet (eC (.bool true))) sNil)
  (sSeq (sIf (tOrF (tNotF (tVal (eIsi "tuple" (eVar 0)))) (tOrF (tVal (eOp opNe (eCallB cLen (aCons (eVar 0) aNil)) (eC (.int 2)))) (tNotF (tVal (eIsi "str" (eOp opIx (eVar 0) (eC (.int 0)))))))) (sRet (eC (.bool false))) sNil)
  (sSeq (sIf (tOrF (tVal (eOp (opIn true) (eOp opIx (eVar 0) (eC (.int 0))) (eTup (aCons (eC (.str "behind")) (aCons (eC (.str "beside")) aNil))))) (tOrF (tNotF (tVal (eIsi "tuple" (eOp opIx (eVar 0) (eC (.int 1)))))) (tVal (eOp opLt (eCallB cLen (aCons (eOp opIx (eVar 0) (eC (.int 1))) aNil)) (eC (.int 2)))))) (sRet (eC (.bool false))) sNil)
  (sRet (eCallB cAll (aCons (eDat (fComp (srcV (eOp opIx (eVar 0) (eC (.int 1)))) (tN 1) tTrue (eCall self (aCons (eVar 1) aNil)) [1])) aNil))))))
noncomputable def F_is_form : Nat → Fn
  | 0 => noF
  | k + 1 => mkFn 1 2 (b_is_form (F_is_form k))
noncomputable def b_look_at_form : SFn :=
  (sIf (tNotF (tVal (eCall (F_is_form 70) (aCons (eVar 0) aNil)))) (sRaise "NotTree") sNil)
noncomputable def F_look_at_form : Fn := mkFn 1 1 b_look_at_form
end L2.HW
namespace L2.HW
open PySem PySem.Spec PyProof.Rows
end L2.HW
namespace L2.HW
open PySem PySem.Spec PyProof.Rows
end L2.HW
namespace L2.HW
open PySem PySem.Spec PyProof.Rows
noncomputable def b_l_drawn_v3 (self : Fn) : SFn :=
  (sSeq (sIf (tOrF (tVal (eOp opEq (eVar 1) (eC (.int 0)))) (tVal (eOp opEq (eCall F_l_take (aCons (eVar 0) (aCons (eC (.int 3)) aNil))) (eC (.int 0))))) (sRet (eOp opIx (eDat (fLst (aCons (eC (.int 0)) (aCons (eC (.int 1)) (aCons (eC (.int 2)) (aCons (eC (.int 10)) (aCons (eC (.int 345)) (aCons (eOp opPow (eC (.int 10)) (eC (.int 29))) aNil)))))))) (eCall F_l_take (aCons (eVar 0) (aCons (eC (.int 6)) aNil))))) sNil)
  (sSeq (sSet 2 (eDat (fComp (srcR1 (aCons (eOp opAdd (eC (.int 2)) (eCall F_l_take (aCons (eVar 0) (aCons (eC (.int 2)) aNil)))) aNil)) (tN 3) tTrue (eCall self (aCons (eVar 0) (aCons (eOp opSub (eVar 1) (eC (.int 1))) aNil))) [3])))
  (sRet (eTup (aCons (eOp opIx (eDat (fLst (aCons (eC (.str "behind")) (aCons (eC (.str "beside")) aNil)))) (eCall F_l_take (aCons (eVar 0) (aCons (eC (.int 2)) aNil)))) (aCons (eCallB cTuple (aCons (eVar 2) aNil)) aNil))))))
noncomputable def F_l_drawn_v3 : Nat → Fn
  | 0 => noF
  | k + 1 => mkFn 2 4 (b_l_drawn_v3 (F_l_drawn_v3 k))
noncomputable def b_l_text_v3 (self : Fn) : SFn :=
  (sSeq (sIf (tNotF (tVal (eIsi "tuple" (eVar 0)))) (sRet (eCallB cStr (aCons (eVar 0) aNil))) sNil)
  (sRet (eOp opAdd (eOp opAdd (eOp opAdd (eOp opIx (eVar 0) (eC (.int 0))) (eC (.str "("))) (eJoin (eC (.str ",")) (eDat (fComp (srcV (eOp opIx (eVar 0) (eC (.int 1)))) (tN 1) tTrue (eCall self (aCons (eVar 1) aNil)) [1])))) (eC (.str ")")))))
noncomputable def F_l_text_v3 : Nat → Fn
  | 0 => noF
  | k + 1 => mkFn 1 2 (b_l_text_v3 (F_l_text_v3 k))
noncomputable def b_form_text (self : Fn) : SFn :=
  (sSeq (sIf (tVal (eIsi "int" (eVar 0))) (sRet (eCallB cStr (aCons (eVar 0) aNil))) sNil)
  (sRet (eOp opAdd (eOp opAdd (eOp opAdd (eOp opIx (eVar 0) (eC (.int 0))) (eC (.str "("))) (eJoin (eC (.str ",")) (eDat (fComp (srcV (eOp opIx (eVar 0) (eC (.int 1)))) (tN 1) tTrue (eCall self (aCons (eVar 1) aNil)) [1])))) (eC (.str ")")))))
noncomputable def F_form_text : Nat → Fn
  | 0 => noF
  | k + 1 => mkFn 1 2 (b_form_text (F_form_text k))
noncomputable def b_tree_text : SFn :=
  (sSeq (sExpr (eCall F_look_at_form (aCons (eVar 0) aNil)))
  (sRet (eCall (F_form_text 70) (aCons (eVar 0) aNil))))
noncomputable def F_tree_text : Fn := mkFn 1 1 b_tree_text
noncomputable def b_Spelling_init : SFn :=
  (sSeq (sFldS "Spelling" "around" (eVar 0) (eNew (fLst aNil)))
  (sSeq (sFldS "Spelling" "word" (eVar 0) (eC (.str "")))
  (sFldS "Spelling" "read" (eVar 0) (eC .none))))
noncomputable def F_Spelling_init : Fn := mkFnC 1 1 b_Spelling_init
noncomputable def b_Spelling_take_figure : SFn :=
  (sSeq (sIf (tOrF (tVal (eOp opNotN (eFld "Spelling" "read" (eVar 0)) (eC .none))) (tOrF (tVal (eOp opEq (eFld "Spelling" "word" (eVar 0)) (eC (.str "0")))) (tVal (eOp opEq (eCallB cLen (aCons (eFld "Spelling" "word" (eVar 0)) aNil)) (eC (.int 30)))))) (sRet (eC (.bool false))) sNil)
  (sSeq (sIf (tAndF (tVal (eOp opNe (eFld "Spelling" "word" (eVar 0)) (eC (.str "")))) (tVal (eOp (opIn true) (eOp opIx (eFld "Spelling" "word" (eVar 0)) (eC (.int 0))) (eC (.str "0123456789"))))) (sRet (eC (.bool false))) sNil)
  (sSeq (sFldA "Spelling" "word" (eVar 0) (eVar 1))
  (sRet (eC (.bool true))))))
noncomputable def F_Spelling_take_figure : Fn := mkFnC 2 2 b_Spelling_take_figure
noncomputable def b_Spelling_take_open : SFn :=
  (sSeq (sIf (tOrF (tVal (eOp (opIn true) (eFld "Spelling" "word" (eVar 0)) (eTup (aCons (eC (.str "behind")) (aCons (eC (.str "beside")) aNil))))) (tVal (eOp opEq (eCallB cLen (aCons (eFld "Spelling" "around" (eVar 0)) aNil)) (eC (.int 40))))) (sRet (eC (.bool false))) sNil)
  (sSeq (sExpr (eMeth isLs mAppend (eFld "Spelling" "around" (eVar 0)) (aCons (eTup (aCons (eFld "Spelling" "word" (eVar 0)) (aCons (eNew (fLst aNil)) aNil))) aNil)))
  (sSeq (sFldS "Spelling" "word" (eVar 0) (eC (.str "")))
  (sRet (eC (.bool true))))))
noncomputable def F_Spelling_take_open : Fn := mkFnC 1 1 b_Spelling_take_open
noncomputable def b_Spelling_closed : SFn :=
  (sSeq (sIf (tAndF (tVal (eOp opIsN (eFld "Spelling" "read" (eVar 0)) (eC .none))) (tAndF (tVal (eOp opNe (eFld "Spelling" "word" (eVar 0)) (eC (.str "")))) (tVal (eOp (opIn false) (eOp opIx (eFld "Spelling" "word" (eVar 0)) (eC (.int 0))) (eC (.str "0123456789")))))) (sSeq (sFldS "Spelling" "read" (eVar 0) (eCallB cIntS (aCons (eFld "Spelling" "word" (eVar 0)) aNil)))
  (sFldS "Spelling" "word" (eVar 0) (eC (.str "")))) sNil)
  (sRet (eOp opNotN (eFld "Spelling" "read" (eVar 0)) (eC .none))))
noncomputable def F_Spelling_closed : Fn := mkFnC 1 1 b_Spelling_closed
noncomputable def b_Spelling_take_part : SFn :=
  (sSeq (sIf (tOrF (tVal (eOp (opEqE false) (eFld "Spelling" "around" (eVar 0)) (eDat (fLst aNil)))) (tNotF (tVal (eCallM "Spelling" "closed" F_Spelling_closed (eVar 0) aNil)))) (sRet (eC (.bool false))) sNil)
  (sSeq (sAsg (eOp opIx (eFld "Spelling" "around" (eVar 0)) (eNeg (eC (.int 1)))) (tTupT 2 (tgCons (tN 2) (tgCons (tN 3) tgNil))))
  (sSeq (sIf (tAndF (tVal (eOp opEq (eVar 1) (eC (.str ")")))) (tVal (eOp (opEqE false) (eVar 3) (eDat (fLst aNil))))) (sRet (eC (.bool false))) sNil)
  (sSeq (sExpr (eMeth isLs mAppend (eVar 3) (aCons (eFld "Spelling" "read" (eVar 0)) aNil)))
  (sSeq (sFldS "Spelling" "read" (eVar 0) (eC .none))
  (sSeq (sIf (tVal (eOp opEq (eVar 1) (eC (.str ")")))) (sSeq (sExpr (eMeth isLs mPop0 (eFld "Spelling" "around" (eVar 0)) aNil))
  (sFldS "Spelling" "read" (eVar 0) (eTup (aCons (eVar 2) (aCons (eCallB cTuple (aCons (eVar 3) aNil)) aNil))))) sNil)
  (sRet (eC (.bool true)))))))))
noncomputable def F_Spelling_take_part : Fn := mkFnC 2 4 b_Spelling_take_part
noncomputable def b_Spelling_take_letter : SFn :=
  (sSeq (sSet 2 (eOp opAdd (eFld "Spelling" "word" (eVar 0)) (eVar 1)))
  (sSeq (sIf (tOrF (tVal (eOp opNotN (eFld "Spelling" "read" (eVar 0)) (eC .none))) (tVal (eOp opEq (eCallB cLen (aCons (eFld "Spelling" "around" (eVar 0)) aNil)) (eC (.int 40))))) (sRet (eC (.bool false))) sNil)
  (sSeq (sIf (tVal (eOp (opIn true) (eVar 2) (eTup (aCons (eSl (eC (.str "behind")) pNone (pSome (eCallB cLen (aCons (eVar 2) aNil)))) (aCons (eSl (eC (.str "beside")) pNone (pSome (eCallB cLen (aCons (eVar 2) aNil)))) aNil))))) (sRet (eC (.bool false))) sNil)
  (sSeq (sFldS "Spelling" "word" (eVar 0) (eVar 2))
  (sRet (eC (.bool true)))))))
noncomputable def F_Spelling_take_letter : Fn := mkFnC 2 3 b_Spelling_take_letter
noncomputable def b_Spelling_take : SFn :=
  (sSeq (sIf (tVal (eOp (opIn false) (eVar 1) (eC (.str "0123456789")))) (sRet (eCallM "Spelling" "take_figure" F_Spelling_take_figure (eVar 0) (aCons (eVar 1) aNil))) sNil)
  (sSeq (sIf (tVal (eOp opEq (eVar 1) (eC (.str "(")))) (sRet (eCallM "Spelling" "take_open" F_Spelling_take_open (eVar 0) aNil)) sNil)
  (sRet (eIf (tVal (eOp (opIn false) (eVar 1) (eC (.str ",)")))) (eCallM "Spelling" "take_part" F_Spelling_take_part (eVar 0) (aCons (eVar 1) aNil)) (eCallM "Spelling" "take_letter" F_Spelling_take_letter (eVar 0) (aCons (eVar 1) aNil))))))
noncomputable def F_Spelling_take : Fn := mkFnC 2 2 b_Spelling_take
noncomputable def b_read_tree_1 : SFn :=
  (sIf (tNotF (tVal (eCallM "Spelling" "take" F_Spelling_take (eVar 1) (aCons (eVar 3) aNil)))) (sRaiseV "NoText" (aCons (eVar 2) aNil)) sNil)
noncomputable def b_read_tree : SFn :=
  (sSeq (sSet 1 (eMake "Spelling" F_Spelling_init aNil))
  (sSeq (sFor (srcES (aCons (eVar 0) aNil)) (tTupT 2 (tgCons (tN 2) (tgCons (tN 3) tgNil))) b_read_tree_1)
  (sSeq (sIf (tOrF (tVal (eOp (opEqE true) (eFld "Spelling" "around" (eVar 1)) (eDat (fLst aNil)))) (tNotF (tVal (eCallM "Spelling" "closed" F_Spelling_closed (eVar 1) aNil)))) (sRaiseV "NoText" (aCons (eCallB cLen (aCons (eVar 0) aNil)) aNil)) sNil)
  (sRet (eFld "Spelling" "read" (eVar 1))))))
noncomputable def F_read_tree : Fn := mkFn 1 4 b_read_tree
noncomputable def b_l_bent_v6 : SFn :=
  (sSeq (sSet 2 (eC (.str "019(),,()behindsx A\n")))
  (sSeq (sSet 3 (eDat (fLst (aCons (eC (.str "behind")) (aCons (eC (.str "beside")) (aCons (eC (.str "behind(")) (aCons (eC (.str "beside(0,1)")) (aCons (eC (.str "(")) (aCons (eC (.str ")")) (aCons (eC (.str ",")) (aCons (eC (.str "0")) (aCons (eC (.str "12")) (aCons (eC (.str "00")) (aCons (eOp opMulS (eC (.str "9")) (eC (.int 30))) (aCons (eOp opMulS (eC (.str "9")) (eC (.int 31))) (aCons (eC (.str "")) aNil))))))))))))))))
  (sSeq (sSet 4 (eCall F_l_take (aCons (eVar 0) (aCons (eOp opAdd (eCallB cLen (aCons (eVar 1) aNil)) (eC (.int 1))) aNil))))
  (sSeq (sSet 5 (eOp opIx (eVar 2) (eCall F_l_take (aCons (eVar 0) (aCons (eCallB cLen (aCons (eVar 2) aNil)) aNil)))))
  (sSeq (sSet 6 (eCall F_l_take (aCons (eVar 0) (aCons (eC (.int 5)) aNil))))
  (sSeq (sIf (tVal (eOp opEq (eVar 6) (eC (.int 4)))) (sRet (eOp opAdd (eOp opAdd (eSl (eVar 1) pNone (pSome (eVar 4))) (eCall F_l_pick (aCons (eVar 0) (aCons (eVar 3) aNil)))) (eSl (eVar 1) (pSome (eVar 4)) pNone))) sNil)
  (sSeq (sIf (tVal (eOp opEq (eVar 6) (eC (.int 3)))) (sRet (eSl (eVar 1) pNone (pSome (eVar 4)))) sNil)
  (sRet (eOp opAdd (eOp opAdd (eSl (eVar 1) pNone (pSome (eVar 4))) (eOp opIx (eDat (fLst (aCons (eC (.str "")) (aCons (eVar 5) (aCons (eVar 5) aNil))))) (eVar 6))) (eSl (eVar 1) (pSome (eOp opAdd (eVar 4) (eOp opIx (eDat (fLst (aCons (eC (.int 1)) (aCons (eC (.int 0)) (aCons (eC (.int 1)) aNil))))) (eVar 6)))) pNone))))))))))
noncomputable def F_l_bent_v6 : Fn := mkFn 2 7 b_l_bent_v6
noncomputable def b_l_ended : SFn :=
  (sSeq (sAsg (eVar 0) (tTupT 3 (tgCons (tN 1) (tgCons (tN 2) (tgCons (tN 3) tgNil)))))
  (sSeq (sIf (tAndF (tVal (eOp opIsN (eVar 3) (eC .none))) (tAndF (tVal (eOp opNe (eVar 2) (eC (.str "")))) (tVal (eOp (opIn false) (eOp opIx (eVar 2) (eC (.int 0))) (eC (.str "0123456789")))))) (sRet (eCallB cIntS (aCons (eVar 2) aNil))) sNil)
  (sRet (eVar 3))))
noncomputable def F_l_ended : Fn := mkFn 1 4 b_l_ended
noncomputable def b_l_sign : SFn :=
  (sSeq (sAsg (eVar 0) (tTupT 3 (tgCons (tN 2) (tgCons (tN 3) (tgCons (tN 4) tgNil)))))
  (sSeq (sIf (tVal (eOp (opIn false) (eVar 1) (eC (.str "0123456789")))) (sSeq (sIf (tOrF (tVal (eOp opNotN (eVar 4) (eC .none))) (tOrF (tVal (eOp opEq (eVar 3) (eC (.str "0")))) (tOrF (tVal (eOp opEq (eCallB cLen (aCons (eVar 3) aNil)) (eC (.int 30)))) (tAndF (tVal (eOp opNe (eVar 3) (eC (.str "")))) (tVal (eOp (opIn true) (eOp opIx (eVar 3) (eC (.int 0))) (eC (.str "0123456789")))))))) (sRet (eC .none)) sNil)
  (sRet (eTup (aCons (eVar 2) (aCons (eOp opAdd (eVar 3) (eVar 1)) (aCons (eC .none) aNil)))))) sNil)
  (sSeq (sIf (tVal (eOp opEq (eVar 1) (eC (.str "(")))) (sSeq (sIf (tOrF (tVal (eOp (opIn true) (eVar 3) (eDat (fLst (aCons (eC (.str "behind")) (aCons (eC (.str "beside")) aNil)))))) (tVal (eOp opEq (eCallB cLen (aCons (eVar 2) aNil)) (eC (.int 40))))) (sRet (eC .none)) sNil)
  (sRet (eTup (aCons (eOp opAdd (eVar 2) (eDat (fLst (aCons (eTup (aCons (eVar 3) (aCons (eDat (fLst aNil)) aNil))) aNil)))) (aCons (eC (.str "")) (aCons (eC .none) aNil)))))) sNil)
  (sSeq (sIf (tVal (eOp (opIn false) (eVar 1) (eC (.str ",)")))) (sSeq (sSet 5 (eCall F_l_ended (aCons (eVar 0) aNil)))
  (sSeq (sIf (tOrF (tVal (eOp (opEqE false) (eVar 2) (eDat (fLst aNil)))) (tOrF (tVal (eOp opIsN (eVar 5) (eC .none))) (tAndF (tVal (eOp opEq (eVar 1) (eC (.str ")")))) (tVal (eOp (opEqE false) (eOp opIx (eOp opIx (eVar 2) (eNeg (eC (.int 1)))) (eC (.int 1))) (eDat (fLst aNil))))))) (sRet (eC .none)) sNil)
  (sSeq (sAsg (eOp opIx (eVar 2) (eNeg (eC (.int 1)))) (tTupT 2 (tgCons (tN 6) (tgCons (tN 7) tgNil))))
  (sSeq (sIf (tVal (eOp opEq (eVar 1) (eC (.str ",")))) (sRet (eTup (aCons (eOp opAdd (eSl (eVar 2) pNone (pSome (eNeg (eC (.int 1))))) (eDat (fLst (aCons (eTup (aCons (eVar 6) (aCons (eOp opAdd (eVar 7) (eDat (fLst (aCons (eVar 5) aNil)))) aNil))) aNil)))) (aCons (eC (.str "")) (aCons (eC .none) aNil))))) sNil)
  (sRet (eTup (aCons (eSl (eVar 2) pNone (pSome (eNeg (eC (.int 1))))) (aCons (eC (.str "")) (aCons (eTup (aCons (eVar 6) (aCons (eCallB cTuple (aCons (eOp opAdd (eVar 7) (eDat (fLst (aCons (eVar 5) aNil)))) aNil)) aNil))) aNil))))))))) sNil)
  (sSeq (sSet 8 (eOp opAdd (eVar 3) (eVar 1)))
  (sSeq (sIf (tOrF (tVal (eOp opNotN (eVar 4) (eC .none))) (tOrF (tVal (eOp opEq (eCallB cLen (aCons (eVar 2) aNil)) (eC (.int 40)))) (tAndF (tVal (eOp opNe (eVar 8) (eSl (eC (.str "behind")) pNone (pSome (eCallB cLen (aCons (eVar 8) aNil)))))) (tVal (eOp opNe (eVar 8) (eSl (eC (.str "beside")) pNone (pSome (eCallB cLen (aCons (eVar 8) aNil))))))))) (sRet (eC .none)) sNil)
  (sRet (eTup (aCons (eVar 2) (aCons (eVar 8) (aCons (eC .none) aNil)))))))))))
noncomputable def F_l_sign : Fn := mkFn 2 9 b_l_sign
noncomputable def b_l_due_v9_1 : SFn :=
  (sSeq (sSet 3 (eCall F_l_sign (aCons (eVar 1) (aCons (eOp opIx (eVar 0) (eVar 2)) aNil))))
  (sSeq (sIf (tVal (eOp opIsN (eVar 3) (eC .none))) (sRet (eTup (aCons (eVar 2) (aCons (eC (.bool true)) aNil)))) sNil)
  (sSet 1 (eVar 3))))
noncomputable def b_l_due_v9 : SFn :=
  (sSeq (sSet 1 (eTup (aCons (eDat (fLst aNil)) (aCons (eC (.str "")) (aCons (eC .none) aNil)))))
  (sSeq (sFor (srcR1 (aCons (eCallB cLen (aCons (eVar 0) aNil)) aNil)) (tN 2) b_l_due_v9_1)
  (sSeq (sSet 4 (eCall F_l_ended (aCons (eVar 1) aNil)))
  (sSeq (sIf (tOrF (tVal (eOp (opEqE true) (eOp opIx (eVar 1) (eC (.int 0))) (eDat (fLst aNil)))) (tVal (eOp opIsN (eVar 4) (eC .none)))) (sRet (eTup (aCons (eCallB cLen (aCons (eVar 0) aNil)) (aCons (eC (.bool true)) aNil)))) sNil)
  (sRet (eTup (aCons (eVar 4) (aCons (eC (.bool false)) aNil))))))))
noncomputable def F_l_due_v9 : Fn := mkFn 1 5 b_l_due_v9
noncomputable def b_l_both_v3 : SFn :=
  (sSeq (sAsg (eCall F_l_due_v9 (aCons (eVar 0) aNil)) (tTupT 2 (tgCons (tN 1) (tgCons (tN 2) tgNil))))
  (sSeq (sSet 3 (eC .none))
  (sSeq (sSet 4 (eC .none))
  (sSeq (sTry 5 4 (sSet 3 (eCall F_read_tree (aCons (eVar 0) aNil))))
  (sSeq (sIf (tVal (eOp opNotN (eVar 4) (eC .none))) (sRet (eAnd (eVar 2) (eAnd (eOp opEq (eCall F_l_word_of (aCons (eVar 4) aNil)) (eC (.str "text"))) (eOp opEq (eCallB cRepr (aCons (eSpot (eVar 4)) aNil)) (eCallB cRepr (aCons (eVar 1) aNil)))))) sNil)
  (sRet (eAnd (eNot (eVar 2)) (eOp opEq (eCallB cRepr (aCons (eVar 3) aNil)) (eCallB cRepr (aCons (eVar 1) aNil))))))))))
noncomputable def F_l_both_v3 : Fn := mkFn 1 6 b_l_both_v3
noncomputable def b_law_k57_1 : SFn :=
  (sSeq (sSet 7 (eCall F_l_bent_v6 (aCons (eVar 2) (aCons (eVar 5) aNil))))
  (sIf (tOrF (tNotF (tVal (eCall F_l_both_v3 (aCons (eVar 5) aNil)))) (tOrF (tNotF (tVal (eCall F_l_both_v3 (aCons (eVar 7) aNil)))) (tNotF (tVal (eCall F_l_both_v3 (aCons (eCall F_l_bent_v6 (aCons (eVar 2) (aCons (eVar 7) aNil))) aNil)))))) (sRet (eC (.bool false))) sNil))
noncomputable def b_law_k57_2 : SFn :=
  (sSeq (sSet 4 (eCallB cRepr (aCons (eVar 3) aNil)))
  (sSeq (sSet 5 (eCall (F_l_text_v3 70) (aCons (eVar 3) aNil)))
  (sSeq (sIf (tOrF (tVal (eOp opNe (eCall F_tree_text (aCons (eVar 3) aNil)) (eVar 5))) (tOrF (tVal (eOp opNe (eCallB cRepr (aCons (eCall F_read_tree (aCons (eVar 5) aNil)) aNil)) (eVar 4))) (tVal (eOp opNe (eCallB cRepr (aCons (eVar 3) aNil)) (eVar 4))))) (sRet (eC (.bool false))) sNil)
  (sFor (srcR1 (aCons (eC (.int 4)) aNil)) (tN 6) b_law_k57_1))))
noncomputable def b_law_k57_3 : SFn :=
  (sSeq (sSet 2 (eNew (fCall F_l_pile (aCons (eVar 0) (aCons (eVar 1) aNil)))))
  (sFor (srcV (eDat (fLst (aCons (eCall (F_l_drawn_v3 70) (aCons (eVar 2) (aCons (eC (.int 3)) aNil))) (aCons (eCall (F_l_drawn_v3 70) (aCons (eVar 2) (aCons (eC (.int 2)) aNil))) (aCons (eTup (aCons (eC (.str "beside")) (aCons (eTup (aCons (eCall (F_l_drawn_v3 70) (aCons (eVar 2) (aCons (eC (.int 2)) aNil))) (aCons (eC (.int 7)) aNil))) aNil))) aNil)))))) (tN 3) b_law_k57_2))
noncomputable def b_law_k57_4 : SFn :=
  (sIf (tOrF (tNotF (tVal (eCall F_l_both_v3 (aCons (eVar 5) aNil)))) (tVal (eOp opNe (eCall F_tree_text (aCons (eCall F_read_tree (aCons (eVar 5) aNil)) aNil)) (eVar 5)))) (sRet (eC (.bool false))) sNil)
noncomputable def b_law_k57_5 : SFn :=
  (sSeq (sSet 10 (eNew (fCat (eVar 10) (eDat (fLst (aCons (eOp opAdd (eOp opAdd (eOp opMulS (eC (.str "behind(0,")) (eVar 11)) (eC (.str "1"))) (eOp opMulS (eC (.str ")")) (eVar 11))) (aCons (eOp opMulS (eC (.str "beside(")) (eVar 11)) (aCons (eOp opAdd (eOp opMulS (eC (.str "beside(")) (eVar 11)) (eC (.str "be"))) aNil))))))))
  (sExpr (eMeth isLs mAppend (eVar 10) (aCons (eOp opAdd (eOp opMulS (eC (.str "beside(")) (eVar 11)) (eC (.str "0"))) aNil))))
noncomputable def b_law_k57 : SFn :=
  (sSeq (sFor (srcR1 (aCons (eCallB cMax2 (aCons (eC (.int 2)) (aCons (eCallB cMin2 (aCons (eCallB cLen (aCons (eVar 0) aNil)) (aCons (eC (.int 10)) aNil))) aNil))) aNil)) (tN 1) b_law_k57_3)
  (sSeq (sSet 8 (eOp opAdd (eOp opAdd (eC (.str "beside(")) (eJoin (eC (.str ",")) (eOp opMul (eDat (fLst (aCons (eC (.str "behind(0,1)")) aNil))) (eC (.int 45))))) (eC (.str ")"))))
  (sSeq (sSet 9 (eOp opAdd (eOp opAdd (eOp opMulS (eC (.str "behind(0,")) (eC (.int 40))) (eC (.str "10"))) (eOp opMulS (eC (.str ")")) (eC (.int 40)))))
  (sSeq (sFor (srcV (eDat (fLst (aCons (eVar 8) (aCons (eVar 9) aNil))))) (tN 5) b_law_k57_4)
  (sSeq (sSet 10 (eNew (fLst (aCons (eC (.str "")) (aCons (eC (.str "0")) (aCons (eC (.str "00")) (aCons (eC (.str "01")) (aCons (eC (.str "10")) (aCons (eOp opMulS (eC (.str "9")) (eC (.int 30))) (aCons (eOp opMulS (eC (.str "9")) (eC (.int 31))) (aCons (eC (.str "behind")) (aCons (eC (.str "behind(")) (aCons (eC (.str "behind()")) (aCons (eC (.str "behind(0)")) aNil))))))))))))))
  (sSeq (sSet 10 (eNew (fCat (eVar 10) (eDat (fLst (aCons (eC (.str "behind(0,)")) (aCons (eC (.str "behind(0,1)")) aNil)))))))
  (sSeq (sSet 10 (eNew (fCat (eVar 10) (eDat (fLst (aCons (eC (.str "behind(0,1")) (aCons (eC (.str "behind(0,1))")) (aCons (eC (.str "behind(0,1),")) (aCons (eC (.str "behind(0 ,1)")) (aCons (eC (.str "behin(0,1)")) (aCons (eC (.str "Behind(0,1)")) aNil)))))))))))
  (sSeq (sSet 10 (eNew (fCat (eVar 10) (eDat (fLst (aCons (eC (.str "(0,1)")) (aCons (eC (.str "0,1")) (aCons (eC (.str "b0")) (aCons (eC (.str "0b")) aNil)))))))))
  (sSeq (sSet 10 (eNew (fCat (eVar 10) (eDat (fLst (aCons (eC (.str "behindx(0,1)")) (aCons (eC (.str "besideq")) (aCons (eC (.str "behind(0,beside(1,2),3)")) (aCons (eC (.str "behind(0,1)2")) (aCons (eC (.str "behind(0,1)behind")) aNil))))))))))
  (sSeq (sSet 10 (eNew (fCat (eVar 10) (eDat (fLst (aCons (eC (.str "behind(behind(0,1),2)")) aNil))))))
  (sSeq (sExpr (eMeth isLs mAppend (eVar 10) (aCons (eC (.str "beside(0,beside(1,2))\n")) aNil)))
  (sSeq (sFor (srcV (eDat (fLst (aCons (eC (.int 39)) (aCons (eC (.int 40)) (aCons (eC (.int 41)) aNil)))))) (tN 11) b_law_k57_5)
  (sRet (eOp opEq (eDat (fComp (srcV (eVar 10)) (tN 5) (tNotF (tVal (eCall F_l_both_v3 (aCons (eVar 5) aNil)))) (eVar 5) [5])) (eDat (fLst aNil))))))))))))))))
noncomputable def F_law_k57 : Fn := mkFn 1 12 b_law_k57
end L2.HW
set_option maxHeartbeats 0
namespace L2.HW.R_k57
open PySem PySem.Spec PyProof.Rows L2.HW
variable {P : Program} {w : World} {K : PySem.W.Frag} {mg : Str → Option Value} {base : Heap}
abbrev N__law_mixed : List Str := ["_law_cell", "_law_k", "_law_number"]
abbrev p__law_mixed : List Str := ["_law_cell", "_law_k"]
theorem sc__law_mixed : FnScope N__law_mixed p__law_mixed (defScope (top 26)) := ⟨rfl, rfl, rfl, by decide +kernel, rfl, by decide +kernel, by decide +kernel⟩
theorem bi__law_mixed : BindE "_law_mixed" (top 26) p__law_mixed := fun _ _ _ _ _ _ us hl => match us, hl with | [_, _], _ => rfl
abbrev N__law_pile : List Str := ["_law_script", "_law_k", "_law_cell", "_law_found", "_law_j"]
abbrev p__law_pile : List Str := ["_law_script", "_law_k"]
theorem sc__law_pile : FnScope N__law_pile p__law_pile (defScope (top 27)) := ⟨rfl, rfl, rfl, by decide +kernel, rfl, by decide +kernel, by decide +kernel⟩
theorem bi__law_pile : BindE "_law_pile" (top 27) p__law_pile := fun _ _ _ _ _ _ us hl => match us, hl with | [_, _], _ => rfl
abbrev N__law_take : List Str := ["_law_pile_here", "_law_size", "_law_digit"]
abbrev p__law_take : List Str := ["_law_pile_here", "_law_size"]
theorem sc__law_take : FnScope N__law_take p__law_take (defScope (top 28)) := ⟨rfl, rfl, rfl, by decide +kernel, rfl, by decide +kernel, by decide +kernel⟩
theorem bi__law_take : BindE "_law_take" (top 28) p__law_take := fun _ _ _ _ _ _ us hl => match us, hl with | [_, _], _ => rfl
abbrev N__law_drawn : List Str := ["_law_pile_here", "_law_deep", "_law_trees", "_law_k"]
abbrev p__law_drawn : List Str := ["_law_pile_here", "_law_deep"]
theorem sc__law_drawn : FnScope N__law_drawn p__law_drawn (defScope (top 31)) := ⟨rfl, rfl, rfl, by decide +kernel, rfl, by decide +kernel, by decide +kernel⟩
theorem bi__law_drawn : BindE "_law_drawn" (top 31) p__law_drawn := fun _ _ _ _ _ _ us hl => match us, hl with | [_, _], _ => rfl
abbrev N__law_text : List Str := ["_law_tree", "_law_one"]
abbrev p__law_text : List Str := ["_law_tree"]
theorem sc__law_text : FnScope N__law_text p__law_text (defScope (top 32)) := ⟨rfl, rfl, rfl, by decide +kernel, rfl, by decide +kernel, by decide +kernel⟩
theorem bi__law_text : BindE "_law_text" (top 32) p__law_text := fun _ _ _ _ _ _ us hl => match us, hl with | [_], _ => rfl
abbrev N_is_whole : List Str := ["thing"]
abbrev p_is_whole : List Str := ["thing"]
theorem sc_is_whole : FnScope N_is_whole p_is_whole (defScope (top 13)) := ⟨rfl, rfl, rfl, by decide +kernel, rfl, by decide +kernel, by decide +kernel⟩
theorem bi_is_whole : BindE "is_whole" (top 13) p_is_whole := fun _ _ _ _ _ _ us hl => match us, hl with | [_], _ => rfl
abbrev N_is_form : List Str := ["thing", "one"]
abbrev p_is_form : List Str := ["thing"]
theorem sc_is_form : FnScope N_is_form p_is_form (defScope (top 15)) := ⟨rfl, rfl, rfl, by decide +kernel, rfl, by decide +kernel, by decide +kernel⟩
theorem bi_is_form : BindE "is_form" (top 15) p_is_form := fun _ _ _ _ _ _ us hl => match us, hl with | [_], _ => rfl
abbrev N_look_at_form : List Str := ["tree"]
abbrev p_look_at_form : List Str := ["tree"]
theorem sc_look_at_form : FnScope N_look_at_form p_look_at_form (defScope (top 16)) := ⟨rfl, rfl, rfl, by decide +kernel, rfl, by decide +kernel, by decide +kernel⟩
theorem bi_look_at_form : BindE "look_at_form" (top 16) p_look_at_form := fun _ _ _ _ _ _ us hl => match us, hl with | [_], _ => rfl
abbrev N_form_text : List Str := ["tree", "one"]
abbrev p_form_text : List Str := ["tree"]
theorem sc_form_text : FnScope N_form_text p_form_text (defScope (top 21)) := ⟨rfl, rfl, rfl, by decide +kernel, rfl, by decide +kernel, by decide +kernel⟩
theorem bi_form_text : BindE "form_text" (top 21) p_form_text := fun _ _ _ _ _ _ us hl => match us, hl with | [_], _ => rfl
abbrev N_tree_text : List Str := ["tree"]
abbrev p_tree_text : List Str := ["tree"]
theorem sc_tree_text : FnScope N_tree_text p_tree_text (defScope (top 22)) := ⟨rfl, rfl, rfl, by decide +kernel, rfl, by decide +kernel, by decide +kernel⟩
theorem bi_tree_text : BindE "tree_text" (top 22) p_tree_text := fun _ _ _ _ _ _ us hl => match us, hl with | [_], _ => rfl
abbrev N_Spelling_init : List Str := ["self"]
abbrev p_Spelling_init : List Str := ["self"]
theorem sc_Spelling_init : FnScope N_Spelling_init p_Spelling_init (defScope st_Spelling_init) := ⟨rfl, rfl, rfl, by decide +kernel, rfl, by decide +kernel, by decide +kernel⟩
theorem bi_Spelling_init : BindM "__init__" "Spelling.__init__" st_Spelling_init p_Spelling_init := fun _ _ _ _ _ _ us hl => match us, hl with | [_], _ => rfl
abbrev N_Spelling_take_figure : List Str := ["self", "sign"]
abbrev p_Spelling_take_figure : List Str := ["self", "sign"]
theorem sc_Spelling_take_figure : FnScope N_Spelling_take_figure p_Spelling_take_figure (defScope st_Spelling_take_figure) := ⟨rfl, rfl, rfl, by decide +kernel, rfl, by decide +kernel, by decide +kernel⟩
theorem bi_Spelling_take_figure : BindM "take_figure" "Spelling.take_figure" st_Spelling_take_figure p_Spelling_take_figure := fun _ _ _ _ _ _ us hl => match us, hl with | [_, _], _ => rfl
abbrev N_Spelling_take_open : List Str := ["self"]
abbrev p_Spelling_take_open : List Str := ["self"]
theorem sc_Spelling_take_open : FnScope N_Spelling_take_open p_Spelling_take_open (defScope st_Spelling_take_open) := ⟨rfl, rfl, rfl, by decide +kernel, rfl, by decide +kernel, by decide +kernel⟩
theorem bi_Spelling_take_open : BindM "take_open" "Spelling.take_open" st_Spelling_take_open p_Spelling_take_open := fun _ _ _ _ _ _ us hl => match us, hl with | [_], _ => rfl
abbrev N_Spelling_closed : List Str := ["self"]
abbrev p_Spelling_closed : List Str := ["self"]
theorem sc_Spelling_closed : FnScope N_Spelling_closed p_Spelling_closed (defScope st_Spelling_closed) := ⟨rfl, rfl, rfl, by decide +kernel, rfl, by decide +kernel, by decide +kernel⟩
theorem bi_Spelling_closed : BindM "closed" "Spelling.closed" st_Spelling_closed p_Spelling_closed := fun _ _ _ _ _ _ us hl => match us, hl with | [_], _ => rfl
abbrev N_Spelling_take_part : List Str := ["self", "sign", "word", "trees"]
abbrev p_Spelling_take_part : List Str := ["self", "sign"]
theorem sc_Spelling_take_part : FnScope N_Spelling_take_part p_Spelling_take_part (defScope st_Spelling_take_part) := ⟨rfl, rfl, rfl, by decide +kernel, rfl, by decide +kernel, by decide +kernel⟩
theorem bi_Spelling_take_part : BindM "take_part" "Spelling.take_part" st_Spelling_take_part p_Spelling_take_part := fun _ _ _ _ _ _ us hl => match us, hl with | [_, _], _ => rfl
abbrev N_Spelling_take_letter : List Str := ["self", "sign", "after"]
abbrev p_Spelling_take_letter : List Str := ["self", "sign"]
theorem sc_Spelling_take_letter : FnScope N_Spelling_take_letter p_Spelling_take_letter (defScope st_Spelling_take_letter) := ⟨rfl, rfl, rfl, by decide +kernel, rfl, by decide +kernel, by decide +kernel⟩
theorem bi_Spelling_take_letter : BindM "take_letter" "Spelling.take_letter" st_Spelling_take_letter p_Spelling_take_letter := fun _ _ _ _ _ _ us hl => match us, hl with | [_, _], _ => rfl
abbrev N_Spelling_take : List Str := ["self", "sign"]
abbrev p_Spelling_take : List Str := ["self", "sign"]
theorem sc_Spelling_take : FnScope N_Spelling_take p_Spelling_take (defScope st_Spelling_take) := ⟨rfl, rfl, rfl, by decide +kernel, rfl, by decide +kernel, by decide +kernel⟩
theorem bi_Spelling_take : BindM "take" "Spelling.take" st_Spelling_take p_Spelling_take := fun _ _ _ _ _ _ us hl => match us, hl with | [_, _], _ => rfl
abbrev N_read_tree : List Str := ["text", "spelling", "spot", "sign"]
abbrev p_read_tree : List Str := ["text"]
theorem sc_read_tree : FnScope N_read_tree p_read_tree (defScope (top 24)) := ⟨rfl, rfl, rfl, by decide +kernel, rfl, by decide +kernel, by decide +kernel⟩
theorem bi_read_tree : BindE "read_tree" (top 24) p_read_tree := fun _ _ _ _ _ _ us hl => match us, hl with | [_], _ => rfl
abbrev N__law_pick : List Str := ["_law_pile_here", "_law_some"]
abbrev p__law_pick : List Str := ["_law_pile_here", "_law_some"]
theorem sc__law_pick : FnScope N__law_pick p__law_pick (defScope (top 29)) := ⟨rfl, rfl, rfl, by decide +kernel, rfl, by decide +kernel, by decide +kernel⟩
theorem bi__law_pick : BindE "_law_pick" (top 29) p__law_pick := fun _ _ _ _ _ _ us hl => match us, hl with | [_, _], _ => rfl
abbrev N__law_bent : List Str := ["_law_pile_here", "_law_text_here", "_law_signs", "_law_words", "_law_at", "_law_sign_here", "_law_way"]
abbrev p__law_bent : List Str := ["_law_pile_here", "_law_text_here"]
theorem sc__law_bent : FnScope N__law_bent p__law_bent (defScope (top 37)) := ⟨rfl, rfl, rfl, by decide +kernel, rfl, by decide +kernel, by decide +kernel⟩
theorem bi__law_bent : BindE "_law_bent" (top 37) p__law_bent := fun _ _ _ _ _ _ us hl => match us, hl with | [_, _], _ => rfl
abbrev N__law_ended : List Str := ["_law_state", "_law_levels", "_law_word", "_law_done"]
abbrev p__law_ended : List Str := ["_law_state"]
theorem sc__law_ended : FnScope N__law_ended p__law_ended (defScope (top 33)) := ⟨rfl, rfl, rfl, by decide +kernel, rfl, by decide +kernel, by decide +kernel⟩
theorem bi__law_ended : BindE "_law_ended" (top 33) p__law_ended := fun _ _ _ _ _ _ us hl => match us, hl with | [_], _ => rfl
abbrev N__law_sign : List Str := ["_law_state", "_law_sign_here", "_law_levels", "_law_word", "_law_done", "_law_tree", "_law_name", "_law_trees", "_law_more"]
abbrev p__law_sign : List Str := ["_law_state", "_law_sign_here"]
theorem sc__law_sign : FnScope N__law_sign p__law_sign (defScope (top 34)) := ⟨rfl, rfl, rfl, by decide +kernel, rfl, by decide +kernel, by decide +kernel⟩
theorem bi__law_sign : BindE "_law_sign" (top 34) p__law_sign := fun _ _ _ _ _ _ us hl => match us, hl with | [_, _], _ => rfl
abbrev N__law_due : List Str := ["_law_text_here", "_law_state", "_law_spot", "_law_after", "_law_tree"]
abbrev p__law_due : List Str := ["_law_text_here"]
theorem sc__law_due : FnScope N__law_due p__law_due (defScope (top 35)) := ⟨rfl, rfl, rfl, by decide +kernel, rfl, by decide +kernel, by decide +kernel⟩
theorem bi__law_due : BindE "_law_due" (top 35) p__law_due := fun _ _ _ _ _ _ us hl => match us, hl with | [_], _ => rfl
abbrev N__law_word_of : List Str := ["_law_error", "_law_found", "_law_words", "_law_told", "_law_word", "_law_truth"]
abbrev p__law_word_of : List Str := ["_law_error"]
theorem sc__law_word_of : FnScope N__law_word_of p__law_word_of (defScope (top 30)) := ⟨rfl, rfl, rfl, by decide +kernel, rfl, by decide +kernel, by decide +kernel⟩
theorem bi__law_word_of : BindE "_law_word_of" (top 30) p__law_word_of := fun _ _ _ _ _ _ us hl => match us, hl with | [_], _ => rfl
abbrev N__law_both : List Str := ["_law_text_here", "_law_due_here", "_law_wrong", "_law_found", "_law_error", "e"]
abbrev p__law_both : List Str := ["_law_text_here"]
theorem sc__law_both : FnScope N__law_both p__law_both (defScope (top 36)) := ⟨rfl, rfl, rfl, by decide +kernel, rfl, by decide +kernel, by decide +kernel⟩
theorem bi__law_both : BindE "_law_both" (top 36) p__law_both := fun _ _ _ _ _ _ us hl => match us, hl with | [_], _ => rfl
abbrev N_law : List Str := ["_law_script", "_law_k", "_law_pile_here", "_law_tree", "_law_kept", "_law_text_here", "_law_turn", "_law_bent_here", "_law_wide", "_law_deep", "_law_odd", "_law_many"]
abbrev p_law : List Str := ["_law_script"]
theorem sc_law : FnScope N_law p_law (defScope (top 38)) := ⟨rfl, rfl, rfl, by decide +kernel, rfl, by decide +kernel, by decide +kernel⟩
theorem bi_law : BindE "law" (top 38) p_law := fun _ _ _ _ _ _ us hl => match us, hl with | [_], _ => rfl
theorem H__law_mixed (D : Def K mg "_law_mixed" (top 26)) (m_int : mg "int" = none) : Has P w K mg base "_law_mixed" p__law_mixed 1 F_l_mixed :=
  has_of (k := 0) D bi__law_mixed (N := N__law_mixed) sc__law_mixed rfl (by decide) fun f cdv A outer s H E c =>
  (sb_cons (z_set c.toCtx 2 (w_mod (w_int m_int (sa_cons (w_add (w_add (w_mul (w_mod (w_int m_int (sa_cons (w_v 0) sa_nil)) se_int) se_int) (w_mul (w_v 1) se_int)) se_int) sa_nil)) se_int))
  (sb_cons (z_set c.toCtx 2 (w_mod (w_int m_int (sa_cons (w_mul (w_v 2) (w_v 2)) sa_nil)) se_int))
  (sb_one (ss_ret (w_mod (w_int m_int (sa_cons (w_mul (w_v 2) (w_add (w_v 2) se_int)) sa_nil)) se_int)))))
theorem H__law_pile (D : Def K mg "_law_pile" (top 27)) (m_int : mg "int" = none) (m_len : mg "len" = none) (m_range : mg "range" = none) (H__law_mixed : Has P w K mg base "_law_mixed" p__law_mixed 1 F_l_mixed) : HasF P w K mg base "_law_pile" p__law_pile 2 F_l_pile :=
  hasF_of (k := 1) D bi__law_pile (N := N__law_pile) sc__law_pile rfl (by decide) fun f cdv A outer s H E c =>
  (sb_cons (z_set c.toCtx 2 se_int)
  (sb_cons (ss_if (t_lt c.toCtx (w_v 1) (w_len m_len (sa_cons (w_v 0) sa_nil))) (sb_one (z_set c.toCtx 2 (w_ix c.toCtx (w_v 0) (w_v 1)))) sb_nil)
  (sb_cons (ss_if (t_ge c.toCtx (w_v 2) (w_pow se_int se_int)) (sb_one (ss_retF (sf_lst (sa_cons (w_mod (w_int m_int (sa_cons (w_sub (w_v 2) (w_pow se_int se_int)) sa_nil)) (w_mul (w_mul (w_mul (w_pow se_int se_int) (w_pow se_int se_int)) (w_pow se_int se_int)) (w_pow se_int se_int))) sa_nil)))) sb_nil)
  (sb_cons (z_set c.toCtx 3 se_int)
  (sb_cons (z_for c (si_r1 rfl m_range (sa_cons se_int sa_nil)) (g_name c.toCtx 4) (sb_one (z_set c.toCtx 3 (w_add (w_mul (w_v 3) se_int) (w_call c.toCtx (H__law_mixed) (sa_cons (w_v 2) (sa_cons (w_add (w_add (w_mul se_int (w_v 1)) (w_mul se_int (w_v 4))) (w_mul (w_v 4) (w_v 4))) sa_nil)) )))))
  (sb_one (ss_retF (sf_lst (sa_cons (w_v 3) sa_nil)))))))))
theorem H__law_take (D : Def K mg "_law_take" (top 28)) (m_int : mg "int" = none) : Has P w K mg base "_law_take" p__law_take 1 F_l_take :=
  has_of (k := 0) D bi__law_take (N := N__law_take) sc__law_take rfl (by decide) fun f cdv A outer s H E c =>
  (sb_cons (z_set c.toCtx 2 (w_mod (w_int m_int (sa_cons (w_ix c.toCtx (w_v 0) se_int) sa_nil)) (w_v 1)))
  (sb_cons (ss_asg (w_div (w_ix c.toCtx (w_v 0) se_int) (w_v 1)) (sg_ix c.toCtx.u1 (w_v 0) se_int))
  (sb_one (ss_ret (w_v 2)))))
theorem H__law_drawn (D : Def K mg "_law_drawn" (top 31)) (m_range : mg "range" = none) (m_tuple : mg "tuple" = none) (H__law_take : Has P w K mg base "_law_take" p__law_take 1 F_l_take) : ∀ d, Has P w K mg base "_law_drawn" p__law_drawn (1 + d) (F_l_drawn_v3 d)
  | 0 => has_no D bi__law_drawn
  | d + 1 => by
    have H__law_drawn := H__law_drawn D m_range m_tuple H__law_take d
    exact has_of (k := 1 + d) D bi__law_drawn (N := N__law_drawn) sc__law_drawn rfl (by decide) fun f cdv A outer s H E c =>
  (sb_cons (ss_if (st_w (sw_or (t_eq c.toCtx (w_v 1) se_int) (sw_or1 (t_eq c.toCtx (w_call c.toCtx (H__law_take) (sa_cons (w_v 0) (sa_cons se_int sa_nil)) (by first | decide | omega)) se_int)))) (sb_one (ss_ret (w_ix c.toCtx (se_dat (sf_lst (sa_cons se_int (sa_cons se_int (sa_cons se_int (sa_cons se_int (sa_cons se_int (sa_cons (w_pow se_int se_int) sa_nil)))))))) (w_call c.toCtx (H__law_take) (sa_cons (w_v 0) (sa_cons se_int sa_nil)) (by first | decide | omega))))) sb_nil)
  (sb_cons (by first | exact ss_setComp c.toCtx.cm c.toCtx.nd (i := 2) rfl rfl rfl (own := [("_law_k", 3)]) (si_r1 rfl m_range (sa_cons (w_add se_int (w_call c.toCtx (H__law_take) (sa_cons (w_v 0) (sa_cons se_int sa_nil)) (by first | decide | omega))) sa_nil)) (blkOk_by (by rfl)) (by decide) (fun s2 Z2 D2 l2 p2 => (g_name (Ctx.bk c.toCtx s2 Z2 _ _ p2) 3)) (fun s2 Z2 D2 l2 p2 => sts_nil) (fun s2 Z2 D2 l2 p2 => (w_call (Ctx.bk c.toCtx s2 Z2 _ _ p2) (H__law_drawn) (sa_cons (w_v 0) (sa_cons (w_sub (w_v 1) se_int) sa_nil)) (by first | decide | omega))) | exact (z_set c.toCtx 2 (se_dat (sf_comp c.toCtx.cm c.toCtx.nd (own := [("_law_k", 3)]) (si_r1 rfl m_range (sa_cons (w_add se_int (w_call c.toCtx (H__law_take) (sa_cons (w_v 0) (sa_cons se_int sa_nil)) (by first | decide | omega))) sa_nil)) (blkOk_by (by rfl)) (by decide) (fun s1 Z1 D1 l1 p1 => (g_name (Ctx.bk c.toCtx s1 Z1 _ _ p1) 3)) (fun s1 Z1 D1 l1 p1 => sts_nil) (fun s1 Z1 D1 l1 p1 => (w_call (Ctx.bk c.toCtx s1 Z1 _ _ p1) (H__law_drawn) (sa_cons (w_v 0) (sa_cons (w_sub (w_v 1) se_int) sa_nil)) (by first | decide | omega)))))))
  (sb_one (ss_ret (se_tup (sa_cons (w_ix c.toCtx (se_dat (sf_lst (sa_cons se_str (sa_cons se_str sa_nil)))) (w_call c.toCtx (H__law_take) (sa_cons (w_v 0) (sa_cons se_int sa_nil)) (by first | decide | omega))) (sa_cons (w_tuple m_tuple (sa_cons (w_v 2) sa_nil)) sa_nil)))))))
theorem H__law_text (D : Def K mg "_law_text" (top 32)) (m_isinstance : mg "isinstance" = none) (m_str : mg "str" = none) (m_tuple : mg "tuple" = none) : ∀ d, Has P w K mg base "_law_text" p__law_text (0 + d) (F_l_text_v3 d)
  | 0 => has_no D bi__law_text
  | d + 1 => by
    have H__law_text := H__law_text D m_isinstance m_str m_tuple d
    exact has_of (k := 0 + d) D bi__law_text (N := N__law_text) sc__law_text rfl (by decide) fun f cdv A outer s H E c =>
  (sb_cons (ss_if (st_not (st_val (se_isi rfl m_isinstance rfl m_tuple rfl kit_tuple (w_v 0)))) (sb_one (ss_ret (w_str m_str (sa_cons (w_v 0) sa_nil)))) sb_nil)
  (sb_one (ss_ret (w_add (w_add (w_add (w_ix c.toCtx (w_v 0) se_int) se_str) (se_join se_str (se_dat (sf_comp c.toCtx.cm c.toCtx.nd (own := [("_law_one", 1)]) (si_v (w_ix c.toCtx (w_v 0) se_int)) (blkOk_by (by rfl)) (by decide) (fun s1 Z1 D1 l1 p1 => (g_name (Ctx.bk c.toCtx s1 Z1 _ _ p1) 1)) (fun s1 Z1 D1 l1 p1 => sts_nil) (fun s1 Z1 D1 l1 p1 => (w_call (Ctx.bk c.toCtx s1 Z1 _ _ p1) (H__law_text) (sa_cons (w_v 1) sa_nil) (by first | decide | omega))))))) se_str))))
theorem H_is_whole (D : Def K mg "is_whole" (top 13)) (m_bool : mg "bool" = none) (m_int : mg "int" = none) (m_isinstance : mg "isinstance" = none) : Has P w K mg base "is_whole" p_is_whole 1 F_is_whole :=
  has_of (k := 0) D bi_is_whole (N := N_is_whole) sc_is_whole rfl (by decide) fun f cdv A outer s H E c =>
  (sb_one (ss_ret (se_and (se_isi rfl m_isinstance rfl m_int rfl kit_int (w_v 0)) (se_and (se_not (se_isi rfl m_isinstance rfl m_bool rfl kit_bool (w_v 0))) (se_one (w_ge c.toCtx (w_v 0) se_int))))))
theorem H_is_form (D : Def K mg "is_form" (top 15)) (m_all : mg "all" = none) (m_isinstance : mg "isinstance" = none) (m_len : mg "len" = none) (m_str : mg "str" = none) (m_tuple : mg "tuple" = none) (H_is_whole : Has P w K mg base "is_whole" p_is_whole 1 F_is_whole) : ∀ d, Has P w K mg base "is_form" p_is_form (1 + d) (F_is_form d)
  | 0 => has_no D bi_is_form
  | d + 1 => by
    have H_is_form := H_is_form D m_all m_isinstance m_len m_str m_tuple H_is_whole d
    exact has_of (k := 1 + d) D bi_is_form (N := N_is_form) sc_is_form rfl (by decide) fun f cdv A outer s H E c =>
  (sb_cons (ss_if (st_val (w_call c.toCtx (H_is_whole) (sa_cons (w_v 0) sa_nil) (by first | decide | omega))) (sb_one (ss_ret se_bl)) sb_nil)
  (sb_cons (ss_if (st_w (sw_or (st_not (st_val (se_isi rfl m_isinstance rfl m_tuple rfl kit_tuple (w_v 0)))) (sw_or (t_ne c.toCtx (w_len m_len (sa_cons (w_v 0) sa_nil)) se_int) (sw_or1 (st_not (st_val (se_isi rfl m_isinstance rfl m_str rfl kit_str (w_ix c.toCtx (w_v 0) se_int)))))))) (sb_one (ss_ret se_bl)) sb_nil)
  (sb_cons (ss_if (st_w (sw_or (t_notIn c.toCtx (w_ix c.toCtx (w_v 0) se_int) (se_tup (sa_cons se_str (sa_cons se_str sa_nil)))) (sw_or (st_not (st_val (se_isi rfl m_isinstance rfl m_tuple rfl kit_tuple (w_ix c.toCtx (w_v 0) se_int)))) (sw_or1 (t_lt c.toCtx (w_len m_len (sa_cons (w_ix c.toCtx (w_v 0) se_int) sa_nil)) se_int))))) (sb_one (ss_ret se_bl)) sb_nil)
  (sb_one (ss_ret (w_all c.toCtx m_all (sa_cons (se_dat (sf_comp c.toCtx.cm c.toCtx.nd (own := [("one", 1)]) (si_v (w_ix c.toCtx (w_v 0) se_int)) (blkOk_by (by rfl)) (by decide) (fun s1 Z1 D1 l1 p1 => (g_name (Ctx.bk c.toCtx s1 Z1 _ _ p1) 1)) (fun s1 Z1 D1 l1 p1 => sts_nil) (fun s1 Z1 D1 l1 p1 => (w_call (Ctx.bk c.toCtx s1 Z1 _ _ p1) (H_is_form) (sa_cons (w_v 1) sa_nil) (by first | decide | omega))))) sa_nil)))))))
theorem H_look_at_form (D : Def K mg "look_at_form" (top 16)) (E_NotTree : ExcF K mg "NotTree") (H_is_form : Has P w K mg base "is_form" p_is_form 71 (F_is_form 70)) : Has P w K mg base "look_at_form" p_look_at_form 72 F_look_at_form :=
  has_of (k := 71) D bi_look_at_form (N := N_look_at_form) sc_look_at_form rfl (by decide) fun f cdv A outer s H E c =>
  (sb_one (ss_if (st_not (st_val (w_call c.toCtx (H_is_form) (sa_cons (w_v 0) sa_nil) ))) (sb_one (ss_raise c.toCtx E_NotTree)) sb_nil))
theorem H_form_text (D : Def K mg "form_text" (top 21)) (m_int : mg "int" = none) (m_isinstance : mg "isinstance" = none) (m_str : mg "str" = none) : ∀ d, Has P w K mg base "form_text" p_form_text (0 + d) (F_form_text d)
  | 0 => has_no D bi_form_text
  | d + 1 => by
    have H_form_text := H_form_text D m_int m_isinstance m_str d
    exact has_of (k := 0 + d) D bi_form_text (N := N_form_text) sc_form_text rfl (by decide) fun f cdv A outer s H E c =>
  (sb_cons (ss_if (st_val (se_isi rfl m_isinstance rfl m_int rfl kit_int (w_v 0))) (sb_one (ss_ret (w_str m_str (sa_cons (w_v 0) sa_nil)))) sb_nil)
  (sb_one (ss_ret (w_add (w_add (w_add (w_ix c.toCtx (w_v 0) se_int) se_str) (se_join se_str (se_dat (sf_comp c.toCtx.cm c.toCtx.nd (own := [("one", 1)]) (si_v (w_ix c.toCtx (w_v 0) se_int)) (blkOk_by (by rfl)) (by decide) (fun s1 Z1 D1 l1 p1 => (g_name (Ctx.bk c.toCtx s1 Z1 _ _ p1) 1)) (fun s1 Z1 D1 l1 p1 => sts_nil) (fun s1 Z1 D1 l1 p1 => (w_call (Ctx.bk c.toCtx s1 Z1 _ _ p1) (H_form_text) (sa_cons (w_v 1) sa_nil) (by first | decide | omega))))))) se_str))))
theorem H_tree_text (D : Def K mg "tree_text" (top 22)) (H_look_at_form : Has P w K mg base "look_at_form" p_look_at_form 72 F_look_at_form) (H_form_text : Has P w K mg base "form_text" p_form_text 70 (F_form_text 70)) : Has P w K mg base "tree_text" p_tree_text 73 F_tree_text :=
  has_of (k := 72) D bi_tree_text (N := N_tree_text) sc_tree_text rfl (by decide) fun f cdv A outer s H E c =>
  (sb_cons (ss_expr (w_call c.toCtx (H_look_at_form) (sa_cons (w_v 0) sa_nil) ))
  (sb_one (ss_ret (w_call c.toCtx (H_form_text) (sa_cons (w_v 0) sa_nil) ))))
theorem H_Spelling_init (D : DefI K mg "Spelling" "Spelling.__init__" st_Spelling_init) (FD_Spelling_around : FldF K mg "Spelling" "around") (FD_Spelling_read : FldF K mg "Spelling" "read") (FD_Spelling_word : FldF K mg "Spelling" "word") : HasI P w K mg base "Spelling" p_Spelling_init 1 F_Spelling_init :=
  hasI_of (k := 0) D bi_Spelling_init (N := N_Spelling_init) sc_Spelling_init rfl (by decide) fun f cdv A outer s H E c =>
  (sb_cons (ss_fld FD_Spelling_around (w_v 0) (se_new (sf_lst sa_nil)))
  (sb_cons (ss_fld FD_Spelling_word (w_v 0) se_str)
  (sb_one (ss_fld FD_Spelling_read (w_v 0) se_non))))
theorem H_Spelling_take_figure (D : DefM' K mg "Spelling" "take_figure" "Spelling.take_figure" st_Spelling_take_figure) (m_len : mg "len" = none) {t_FIGURES : Tok} (g_FIGURES : mg "FIGURES" = some (.str "0123456789" t_FIGURES)) {t_MOST_FIGURES : Tok} (g_MOST_FIGURES : mg "MOST_FIGURES" = some (.int (30) t_MOST_FIGURES)) (FD_Spelling_read : FldF K mg "Spelling" "read") (FD_Spelling_word : FldF K mg "Spelling" "word") : HasM P w K mg base "Spelling" "take_figure" p_Spelling_take_figure 1 F_Spelling_take_figure :=
  hasM_of (k := 0) D bi_Spelling_take_figure (N := N_Spelling_take_figure) sc_Spelling_take_figure rfl (by decide) fun f cdv A outer s H E c =>
  (sb_cons (ss_if (st_w (sw_or (t_notN c.toCtx (se_fld FD_Spelling_read (w_v 0)) se_non) (sw_or (t_eq c.toCtx (se_fld FD_Spelling_word (w_v 0)) se_str) (sw_or1 (t_eq c.toCtx (w_len m_len (sa_cons (se_fld FD_Spelling_word (w_v 0)) sa_nil)) (se_globI rfl g_MOST_FIGURES)))))) (sb_one (ss_ret se_bl)) sb_nil)
  (sb_cons (ss_if (st_w (sw_and (t_ne c.toCtx (se_fld FD_Spelling_word (w_v 0)) se_str) (sw_and1 (t_notIn c.toCtx (w_ix c.toCtx (se_fld FD_Spelling_word (w_v 0)) se_int) (se_globS rfl g_FIGURES))))) (sb_one (ss_ret se_bl)) sb_nil)
  (sb_cons (ss_flda FD_Spelling_word (w_v 0) (w_v 1))
  (sb_one (ss_ret se_bl)))))
theorem H_Spelling_take_open (D : DefM' K mg "Spelling" "take_open" "Spelling.take_open" st_Spelling_take_open) (m_len : mg "len" = none) {t_MOST_OPEN : Tok} (g_MOST_OPEN : mg "MOST_OPEN" = some (.int (40) t_MOST_OPEN)) (FD_Spelling_around : FldF K mg "Spelling" "around") (FD_Spelling_word : FldF K mg "Spelling" "word") : HasM P w K mg base "Spelling" "take_open" p_Spelling_take_open 1 F_Spelling_take_open :=
  hasM_of (k := 0) D bi_Spelling_take_open (N := N_Spelling_take_open) sc_Spelling_take_open rfl (by decide) fun f cdv A outer s H E c =>
  (sb_cons (ss_if (st_w (sw_or (t_notIn c.toCtx (se_fld FD_Spelling_word (w_v 0)) (se_tup (sa_cons se_str (sa_cons se_str sa_nil)))) (sw_or1 (t_eq c.toCtx (w_len m_len (sa_cons (se_fld FD_Spelling_around (w_v 0)) sa_nil)) (se_globI rfl g_MOST_OPEN))))) (sb_one (ss_ret se_bl)) sb_nil)
  (sb_cons (ss_expr (se_append (se_fld FD_Spelling_around (w_v 0)) (sa_cons (se_tup (sa_cons (se_fld FD_Spelling_word (w_v 0)) (sa_cons (se_new (sf_lst sa_nil)) sa_nil))) sa_nil)))
  (sb_cons (ss_fld FD_Spelling_word (w_v 0) se_str)
  (sb_one (ss_ret se_bl)))))
theorem H_Spelling_closed (D : DefM' K mg "Spelling" "closed" "Spelling.closed" st_Spelling_closed) (m_int : mg "int" = none) {t_FIGURES : Tok} (g_FIGURES : mg "FIGURES" = some (.str "0123456789" t_FIGURES)) (FD_Spelling_read : FldF K mg "Spelling" "read") (FD_Spelling_word : FldF K mg "Spelling" "word") : HasM P w K mg base "Spelling" "closed" p_Spelling_closed 1 F_Spelling_closed :=
  hasM_of (k := 0) D bi_Spelling_closed (N := N_Spelling_closed) sc_Spelling_closed rfl (by decide) fun f cdv A outer s H E c =>
  (sb_cons (ss_if (st_w (sw_and (t_isN c.toCtx (se_fld FD_Spelling_read (w_v 0)) se_non) (sw_and (t_ne c.toCtx (se_fld FD_Spelling_word (w_v 0)) se_str) (sw_and1 (t_in c.toCtx (w_ix c.toCtx (se_fld FD_Spelling_word (w_v 0)) se_int) (se_globS rfl g_FIGURES)))))) (sb_cons (ss_fld FD_Spelling_read (w_v 0) (w_intS m_int (sa_cons (se_fld FD_Spelling_word (w_v 0)) sa_nil)))
  (sb_one (ss_fld FD_Spelling_word (w_v 0) se_str))) sb_nil)
  (sb_one (ss_ret (w_notN c.toCtx (se_fld FD_Spelling_read (w_v 0)) se_non))))
theorem H_Spelling_take_part (D : DefM' K mg "Spelling" "take_part" "Spelling.take_part" st_Spelling_take_part) (m_tuple : mg "tuple" = none) (FD_Spelling_around : FldF K mg "Spelling" "around") (FD_Spelling_read : FldF K mg "Spelling" "read") (H_Spelling_closed : HasM P w K mg base "Spelling" "closed" p_Spelling_closed 1 F_Spelling_closed) : HasM P w K mg base "Spelling" "take_part" p_Spelling_take_part 2 F_Spelling_take_part :=
  hasM_of (k := 1) D bi_Spelling_take_part (N := N_Spelling_take_part) sc_Spelling_take_part rfl (by decide) fun f cdv A outer s H E c =>
  (sb_cons (ss_if (st_w (sw_or (t_eqE c.toCtx (se_fld FD_Spelling_around (w_v 0)) (se_dat (sf_lst sa_nil))) (sw_or1 (st_not (st_val (w_meth0 c.toCtx (H_Spelling_closed) (w_v 0) )))))) (sb_one (ss_ret se_bl)) sb_nil)
  (sb_cons (ss_asg (w_ix c.toCtx (se_fld FD_Spelling_around (w_v 0)) (se_neg se_int)) (sg_tup c.toCtx.cm (sgs_cons (g_name c.toCtx 2) (sgs_cons (g_name c.toCtx 3) sgs_nil))))
  (sb_cons (ss_if (st_w (sw_and (t_eq c.toCtx (w_v 1) se_str) (sw_and1 (t_eqE c.toCtx (w_v 3) (se_dat (sf_lst sa_nil)))))) (sb_one (ss_ret se_bl)) sb_nil)
  (sb_cons (ss_expr (se_append (w_v 3) (sa_cons (se_fld FD_Spelling_read (w_v 0)) sa_nil)))
  (sb_cons (ss_fld FD_Spelling_read (w_v 0) se_non)
  (sb_cons (ss_if (t_eq c.toCtx (w_v 1) se_str) (sb_cons (ss_expr (w_pop0 (se_fld FD_Spelling_around (w_v 0))))
  (sb_one (ss_fld FD_Spelling_read (w_v 0) (se_tup (sa_cons (w_v 2) (sa_cons (w_tuple m_tuple (sa_cons (w_v 3) sa_nil)) sa_nil)))))) sb_nil)
  (sb_one (ss_ret se_bl))))))))
theorem H_Spelling_take_letter (D : DefM' K mg "Spelling" "take_letter" "Spelling.take_letter" st_Spelling_take_letter) (m_len : mg "len" = none) {t_MOST_OPEN : Tok} (g_MOST_OPEN : mg "MOST_OPEN" = some (.int (40) t_MOST_OPEN)) (FD_Spelling_around : FldF K mg "Spelling" "around") (FD_Spelling_read : FldF K mg "Spelling" "read") (FD_Spelling_word : FldF K mg "Spelling" "word") : HasM P w K mg base "Spelling" "take_letter" p_Spelling_take_letter 1 F_Spelling_take_letter :=
  hasM_of (k := 0) D bi_Spelling_take_letter (N := N_Spelling_take_letter) sc_Spelling_take_letter rfl (by decide) fun f cdv A outer s H E c =>
  (sb_cons (z_set c.toCtx 2 (w_add (se_fld FD_Spelling_word (w_v 0)) (w_v 1)))
  (sb_cons (ss_if (st_w (sw_or (t_notN c.toCtx (se_fld FD_Spelling_read (w_v 0)) se_non) (sw_or1 (t_eq c.toCtx (w_len m_len (sa_cons (se_fld FD_Spelling_around (w_v 0)) sa_nil)) (se_globI rfl g_MOST_OPEN))))) (sb_one (ss_ret se_bl)) sb_nil)
  (sb_cons (ss_if (t_notIn c.toCtx (w_v 2) (se_tup (sa_cons (se_sl se_str so_none (so_some (w_len m_len (sa_cons (w_v 2) sa_nil)))) (sa_cons (se_sl se_str so_none (so_some (w_len m_len (sa_cons (w_v 2) sa_nil)))) sa_nil)))) (sb_one (ss_ret se_bl)) sb_nil)
  (sb_cons (ss_fld FD_Spelling_word (w_v 0) (w_v 2))
  (sb_one (ss_ret se_bl))))))
theorem H_Spelling_take (D : DefM' K mg "Spelling" "take" "Spelling.take" st_Spelling_take) {t_FIGURES : Tok} (g_FIGURES : mg "FIGURES" = some (.str "0123456789" t_FIGURES)) (H_Spelling_take_figure : HasM P w K mg base "Spelling" "take_figure" p_Spelling_take_figure 1 F_Spelling_take_figure) (H_Spelling_take_open : HasM P w K mg base "Spelling" "take_open" p_Spelling_take_open 1 F_Spelling_take_open) (H_Spelling_take_part : HasM P w K mg base "Spelling" "take_part" p_Spelling_take_part 2 F_Spelling_take_part) (H_Spelling_take_letter : HasM P w K mg base "Spelling" "take_letter" p_Spelling_take_letter 1 F_Spelling_take_letter) : HasM P w K mg base "Spelling" "take" p_Spelling_take 3 F_Spelling_take :=
  hasM_of (k := 2) D bi_Spelling_take (N := N_Spelling_take) sc_Spelling_take rfl (by decide) fun f cdv A outer s H E c =>
  (sb_cons (ss_if (t_in c.toCtx (w_v 1) (se_globS rfl g_FIGURES)) (sb_one (ss_ret (w_meth c.toCtx (H_Spelling_take_figure) (w_v 0) (sa_cons (w_v 1) sa_nil) ))) sb_nil)
  (sb_cons (ss_if (t_eq c.toCtx (w_v 1) se_str) (sb_one (ss_ret (w_meth0 c.toCtx (H_Spelling_take_open) (w_v 0) ))) sb_nil)
  (sb_one (ss_ret (se_ifExp (t_in c.toCtx (w_v 1) se_str) (w_meth c.toCtx (H_Spelling_take_part) (w_v 0) (sa_cons (w_v 1) sa_nil) ) (w_meth c.toCtx (H_Spelling_take_letter) (w_v 0) (sa_cons (w_v 1) sa_nil) ))))))
theorem H_read_tree (D : Def K mg "read_tree" (top 24)) (m_enumerate : mg "enumerate" = none) (m_len : mg "len" = none) (TX : TxtF K mg) (FD_Spelling_around : FldF K mg "Spelling" "around") (FD_Spelling_read : FldF K mg "Spelling" "read") (H_Spelling_init : HasI P w K mg base "Spelling" p_Spelling_init 1 F_Spelling_init) (H_Spelling_take : HasM P w K mg base "Spelling" "take" p_Spelling_take 3 F_Spelling_take) (H_Spelling_closed : HasM P w K mg base "Spelling" "closed" p_Spelling_closed 1 F_Spelling_closed) : Has P w K mg base "read_tree" p_read_tree 5 F_read_tree :=
  has_of (k := 4) D bi_read_tree (N := N_read_tree) sc_read_tree rfl (by decide) fun f cdv A outer s H E c =>
  (sb_cons (z_set c.toCtx 1 (w_make0 c.toCtx (H_Spelling_init) ))
  (sb_cons (z_for c (si_enumS rfl m_enumerate (sa_cons (w_v 0) sa_nil)) (sg_tup c.toCtx.cm (sgs_cons (g_name c.toCtx 2) (sgs_cons (g_name c.toCtx 3) sgs_nil))) (sb_one (ss_if (st_not (st_val (w_meth c.toCtx (H_Spelling_take) (w_v 1) (sa_cons (w_v 3) sa_nil) ))) (sb_one (ss_raiseV c.toCtx TX (sa_cons (w_v 2) sa_nil))) sb_nil)))
  (sb_cons (ss_if (st_w (sw_or (t_neE c.toCtx (se_fld FD_Spelling_around (w_v 1)) (se_dat (sf_lst sa_nil))) (sw_or1 (st_not (st_val (w_meth0 c.toCtx (H_Spelling_closed) (w_v 1) )))))) (sb_one (ss_raiseV c.toCtx TX (sa_cons (w_len m_len (sa_cons (w_v 0) sa_nil)) sa_nil))) sb_nil)
  (sb_one (ss_ret (se_fld FD_Spelling_read (w_v 1)))))))
theorem H__law_pick (D : Def K mg "_law_pick" (top 29)) (m_len : mg "len" = none) (H__law_take : Has P w K mg base "_law_take" p__law_take 1 F_l_take) : Has P w K mg base "_law_pick" p__law_pick 2 F_l_pick :=
  has_of (k := 1) D bi__law_pick (N := N__law_pick) sc__law_pick rfl (by decide) fun f cdv A outer s H E c =>
  (sb_one (ss_ret (w_ix c.toCtx (w_v 1) (w_call c.toCtx (H__law_take) (sa_cons (w_v 0) (sa_cons (w_len m_len (sa_cons (w_v 1) sa_nil)) sa_nil)) ))))
theorem H__law_bent (D : Def K mg "_law_bent" (top 37)) (m_len : mg "len" = none) (H__law_take : Has P w K mg base "_law_take" p__law_take 1 F_l_take) (H__law_pick : Has P w K mg base "_law_pick" p__law_pick 2 F_l_pick) : Has P w K mg base "_law_bent" p__law_bent 3 F_l_bent_v6 :=
  has_of (k := 2) D bi__law_bent (N := N__law_bent) sc__law_bent rfl (by decide) fun f cdv A outer s H E c =>
  (sb_cons (z_set c.toCtx 2 se_str)
  (sb_cons (z_set c.toCtx 3 (se_dat (sf_lst (sa_cons se_str (sa_cons se_str (sa_cons se_str (sa_cons se_str (sa_cons se_str (sa_cons se_str (sa_cons se_str (sa_cons se_str (sa_cons se_str (sa_cons se_str (sa_cons (w_mulS se_str se_int) (sa_cons (w_mulS se_str se_int) (sa_cons se_str sa_nil))))))))))))))))
  (sb_cons (z_set c.toCtx 4 (w_call c.toCtx (H__law_take) (sa_cons (w_v 0) (sa_cons (w_add (w_len m_len (sa_cons (w_v 1) sa_nil)) se_int) sa_nil)) ))
  (sb_cons (z_set c.toCtx 5 (w_ix c.toCtx (w_v 2) (w_call c.toCtx (H__law_take) (sa_cons (w_v 0) (sa_cons (w_len m_len (sa_cons (w_v 2) sa_nil)) sa_nil)) )))
  (sb_cons (z_set c.toCtx 6 (w_call c.toCtx (H__law_take) (sa_cons (w_v 0) (sa_cons se_int sa_nil)) ))
  (sb_cons (ss_if (t_eq c.toCtx (w_v 6) se_int) (sb_one (ss_ret (w_add (w_add (se_sl (w_v 1) so_none (so_some (w_v 4))) (w_call c.toCtx (H__law_pick) (sa_cons (w_v 0) (sa_cons (w_v 3) sa_nil)) )) (se_sl (w_v 1) (so_some (w_v 4)) so_none)))) sb_nil)
  (sb_cons (ss_if (t_eq c.toCtx (w_v 6) se_int) (sb_one (ss_ret (se_sl (w_v 1) so_none (so_some (w_v 4))))) sb_nil)
  (sb_one (ss_ret (w_add (w_add (se_sl (w_v 1) so_none (so_some (w_v 4))) (w_ix c.toCtx (se_dat (sf_lst (sa_cons se_str (sa_cons (w_v 5) (sa_cons (w_v 5) sa_nil))))) (w_v 6))) (se_sl (w_v 1) (so_some (w_add (w_v 4) (w_ix c.toCtx (se_dat (sf_lst (sa_cons se_int (sa_cons se_int (sa_cons se_int sa_nil))))) (w_v 6)))) so_none)))))))))))
theorem H__law_ended (D : Def K mg "_law_ended" (top 33)) (m_int : mg "int" = none) : Has P w K mg base "_law_ended" p__law_ended 1 F_l_ended :=
  has_of (k := 0) D bi__law_ended (N := N__law_ended) sc__law_ended rfl (by decide) fun f cdv A outer s H E c =>
  (sb_cons (ss_asg (w_v 0) (sg_tup c.toCtx.cm (sgs_cons (g_name c.toCtx 1) (sgs_cons (g_name c.toCtx 2) (sgs_cons (g_name c.toCtx 3) sgs_nil)))))
  (sb_cons (ss_if (st_w (sw_and (t_isN c.toCtx (w_v 3) se_non) (sw_and (t_ne c.toCtx (w_v 2) se_str) (sw_and1 (t_in c.toCtx (w_ix c.toCtx (w_v 2) se_int) se_str))))) (sb_one (ss_ret (w_intS m_int (sa_cons (w_v 2) sa_nil)))) sb_nil)
  (sb_one (ss_ret (w_v 3)))))
theorem H__law_sign (D : Def K mg "_law_sign" (top 34)) (m_len : mg "len" = none) (m_tuple : mg "tuple" = none) (H__law_ended : Has P w K mg base "_law_ended" p__law_ended 1 F_l_ended) : Has P w K mg base "_law_sign" p__law_sign 2 F_l_sign :=
  has_of (k := 1) D bi__law_sign (N := N__law_sign) sc__law_sign rfl (by decide) fun f cdv A outer s H E c =>
  (sb_cons (ss_asg (w_v 0) (sg_tup c.toCtx.cm (sgs_cons (g_name c.toCtx 2) (sgs_cons (g_name c.toCtx 3) (sgs_cons (g_name c.toCtx 4) sgs_nil)))))
  (sb_cons (ss_if (t_in c.toCtx (w_v 1) se_str) (sb_cons (ss_if (st_w (sw_or (t_notN c.toCtx (w_v 4) se_non) (sw_or (t_eq c.toCtx (w_v 3) se_str) (sw_or (t_eq c.toCtx (w_len m_len (sa_cons (w_v 3) sa_nil)) se_int) (sw_or1 (st_w (sw_and (t_ne c.toCtx (w_v 3) se_str) (sw_and1 (t_notIn c.toCtx (w_ix c.toCtx (w_v 3) se_int) se_str))))))))) (sb_one (ss_ret se_non)) sb_nil)
  (sb_one (ss_ret (se_tup (sa_cons (w_v 2) (sa_cons (w_add (w_v 3) (w_v 1)) (sa_cons se_non sa_nil))))))) sb_nil)
  (sb_cons (ss_if (t_eq c.toCtx (w_v 1) se_str) (sb_cons (ss_if (st_w (sw_or (t_notIn c.toCtx (w_v 3) (se_dat (sf_lst (sa_cons se_str (sa_cons se_str sa_nil))))) (sw_or1 (t_eq c.toCtx (w_len m_len (sa_cons (w_v 2) sa_nil)) se_int)))) (sb_one (ss_ret se_non)) sb_nil)
  (sb_one (ss_ret (se_tup (sa_cons (w_add (w_v 2) (se_dat (sf_lst (sa_cons (se_tup (sa_cons (w_v 3) (sa_cons (se_dat (sf_lst sa_nil)) sa_nil))) sa_nil)))) (sa_cons se_str (sa_cons se_non sa_nil))))))) sb_nil)
  (sb_cons (ss_if (t_in c.toCtx (w_v 1) se_str) (sb_cons (z_set c.toCtx 5 (w_call c.toCtx (H__law_ended) (sa_cons (w_v 0) sa_nil) ))
  (sb_cons (ss_if (st_w (sw_or (t_eqE c.toCtx (w_v 2) (se_dat (sf_lst sa_nil))) (sw_or (t_isN c.toCtx (w_v 5) se_non) (sw_or1 (st_w (sw_and (t_eq c.toCtx (w_v 1) se_str) (sw_and1 (t_eqE c.toCtx (w_ix c.toCtx (w_ix c.toCtx (w_v 2) (se_neg se_int)) se_int) (se_dat (sf_lst sa_nil)))))))))) (sb_one (ss_ret se_non)) sb_nil)
  (sb_cons (ss_asg (w_ix c.toCtx (w_v 2) (se_neg se_int)) (sg_tup c.toCtx.cm (sgs_cons (g_name c.toCtx 6) (sgs_cons (g_name c.toCtx 7) sgs_nil))))
  (sb_cons (ss_if (t_eq c.toCtx (w_v 1) se_str) (sb_one (ss_ret (se_tup (sa_cons (w_add (se_sl (w_v 2) so_none (so_some (se_neg se_int))) (se_dat (sf_lst (sa_cons (se_tup (sa_cons (w_v 6) (sa_cons (w_add (w_v 7) (se_dat (sf_lst (sa_cons (w_v 5) sa_nil)))) sa_nil))) sa_nil)))) (sa_cons se_str (sa_cons se_non sa_nil)))))) sb_nil)
  (sb_one (ss_ret (se_tup (sa_cons (se_sl (w_v 2) so_none (so_some (se_neg se_int))) (sa_cons se_str (sa_cons (se_tup (sa_cons (w_v 6) (sa_cons (w_tuple m_tuple (sa_cons (w_add (w_v 7) (se_dat (sf_lst (sa_cons (w_v 5) sa_nil)))) sa_nil)) sa_nil))) sa_nil)))))))))) sb_nil)
  (sb_cons (z_set c.toCtx 8 (w_add (w_v 3) (w_v 1)))
  (sb_cons (ss_if (st_w (sw_or (t_notN c.toCtx (w_v 4) se_non) (sw_or (t_eq c.toCtx (w_len m_len (sa_cons (w_v 2) sa_nil)) se_int) (sw_or1 (st_w (sw_and (t_ne c.toCtx (w_v 8) (se_sl se_str so_none (so_some (w_len m_len (sa_cons (w_v 8) sa_nil))))) (sw_and1 (t_ne c.toCtx (w_v 8) (se_sl se_str so_none (so_some (w_len m_len (sa_cons (w_v 8) sa_nil)))))))))))) (sb_one (ss_ret se_non)) sb_nil)
  (sb_one (ss_ret (se_tup (sa_cons (w_v 2) (sa_cons (w_v 8) (sa_cons se_non sa_nil))))))))))))
theorem H__law_due (D : Def K mg "_law_due" (top 35)) (m_len : mg "len" = none) (m_range : mg "range" = none) (H__law_sign : Has P w K mg base "_law_sign" p__law_sign 2 F_l_sign) (H__law_ended : Has P w K mg base "_law_ended" p__law_ended 1 F_l_ended) : Has P w K mg base "_law_due" p__law_due 3 F_l_due_v9 :=
  has_of (k := 2) D bi__law_due (N := N__law_due) sc__law_due rfl (by decide) fun f cdv A outer s H E c =>
  (sb_cons (z_set c.toCtx 1 (se_tup (sa_cons (se_dat (sf_lst sa_nil)) (sa_cons se_str (sa_cons se_non sa_nil)))))
  (sb_cons (z_for c (si_r1 rfl m_range (sa_cons (w_len m_len (sa_cons (w_v 0) sa_nil)) sa_nil)) (g_name c.toCtx 2) (sb_cons (z_set c.toCtx 3 (w_call c.toCtx (H__law_sign) (sa_cons (w_v 1) (sa_cons (w_ix c.toCtx (w_v 0) (w_v 2)) sa_nil)) ))
  (sb_cons (ss_if (t_isN c.toCtx (w_v 3) se_non) (sb_one (ss_ret (se_tup (sa_cons (w_v 2) (sa_cons se_bl sa_nil))))) sb_nil)
  (sb_one (z_set c.toCtx 1 (w_v 3))))))
  (sb_cons (z_set c.toCtx 4 (w_call c.toCtx (H__law_ended) (sa_cons (w_v 1) sa_nil) ))
  (sb_cons (ss_if (st_w (sw_or (t_neE c.toCtx (w_ix c.toCtx (w_v 1) se_int) (se_dat (sf_lst sa_nil))) (sw_or1 (t_isN c.toCtx (w_v 4) se_non)))) (sb_one (ss_ret (se_tup (sa_cons (w_len m_len (sa_cons (w_v 0) sa_nil)) (sa_cons se_bl sa_nil))))) sb_nil)
  (sb_one (ss_ret (se_tup (sa_cons (w_v 4) (sa_cons se_bl sa_nil)))))))))
theorem H__law_word_of (D : Def K mg "_law_word_of" (top 30)) (m_ValueError : mg "ValueError" = none) (m_int : mg "int" = none) (m_isinstance : mg "isinstance" = none) (m_zip : mg "zip" = none) (EA : ExcAll K mg) : Has P w K mg base "_law_word_of" p__law_word_of 1 F_l_word_of :=
  has_of (k := 0) D bi__law_word_of (N := N__law_word_of) sc__law_word_of rfl (by decide) fun f cdv A outer s H E c =>
  (sb_cons (z_set c.toCtx 1 (se_dat (sf_lst (sa_cons (se_isE EA rfl m_isinstance (w_v 0)) (sa_cons (se_isE EA rfl m_isinstance (w_v 0)) (sa_cons (se_isE EA rfl m_isinstance (w_v 0)) sa_nil))))))
  (sb_cons (z_set c.toCtx 1 (w_add (w_v 1) (se_dat (sf_lst (sa_cons (se_isE EA rfl m_isinstance (w_v 0)) (sa_cons (se_isE EA rfl m_isinstance (w_v 0)) (sa_cons (se_isE EA rfl m_isinstance (w_v 0)) sa_nil)))))))
  (sb_cons (z_set c.toCtx 1 (w_add (w_v 1) (se_dat (sf_lst (sa_cons (se_isE EA rfl m_isinstance (w_v 0)) (sa_cons (se_isE EA rfl m_isinstance (w_v 0)) (sa_cons (se_isE EA rfl m_isinstance (w_v 0)) sa_nil)))))))
  (sb_cons (z_set c.toCtx 1 (w_add (w_v 1) (se_dat (sf_lst (sa_cons (se_isE EA rfl m_isinstance (w_v 0)) (sa_cons (se_isV EA rfl m_isinstance m_ValueError (w_v 0)) (sa_cons (se_isE EA rfl m_isinstance (w_v 0)) sa_nil)))))))
  (sb_cons (z_set c.toCtx 2 (se_dat (sf_lst (sa_cons se_str (sa_cons se_str (sa_cons se_str (sa_cons se_str (sa_cons se_str (sa_cons se_str (sa_cons se_str (sa_cons se_str (sa_cons se_str (sa_cons se_str (sa_cons se_str (sa_cons se_str sa_nil)))))))))))))))
  (sb_cons (by first | exact ss_setComp c.toCtx.cm c.toCtx.nd (i := 3) rfl rfl rfl (own := [("_law_word", 4), ("_law_truth", 5)]) (si_zip rfl m_zip (sa_cons (w_v 2) (sa_cons (w_v 1) sa_nil))) (blkOk_by (by rfl)) (by decide) (fun s2 Z2 D2 l2 p2 => (sg_tup (Ctx.bk c.toCtx s2 Z2 _ _ p2).cm (sgs_cons (g_name (Ctx.bk c.toCtx s2 Z2 _ _ p2) 4) (sgs_cons (g_name (Ctx.bk c.toCtx s2 Z2 _ _ p2) 5) sgs_nil)))) (fun s2 Z2 D2 l2 p2 => (sts_one (st_val (w_v 5)))) (fun s2 Z2 D2 l2 p2 => (w_v 4)) | exact (z_set c.toCtx 3 (se_dat (sf_comp c.toCtx.cm c.toCtx.nd (own := [("_law_word", 4), ("_law_truth", 5)]) (si_zip rfl m_zip (sa_cons (w_v 2) (sa_cons (w_v 1) sa_nil))) (blkOk_by (by rfl)) (by decide) (fun s1 Z1 D1 l1 p1 => (sg_tup (Ctx.bk c.toCtx s1 Z1 _ _ p1).cm (sgs_cons (g_name (Ctx.bk c.toCtx s1 Z1 _ _ p1) 4) (sgs_cons (g_name (Ctx.bk c.toCtx s1 Z1 _ _ p1) 5) sgs_nil)))) (fun s1 Z1 D1 l1 p1 => (sts_one (st_val (w_v 5)))) (fun s1 Z1 D1 l1 p1 => (w_v 4))))))
  (sb_cons (ss_if (t_eq c.toCtx (w_v 3) (se_dat (sf_lst sa_nil))) (sb_one (ss_ret se_str)) sb_nil)
  (sb_one (ss_ret (w_ix c.toCtx (se_dat (sf_lst (sa_cons (w_ix c.toCtx (w_v 3) se_int) (sa_cons se_str sa_nil)))) (w_int m_int (sa_cons (w_ne c.toCtx (se_sl (w_v 3) (so_some se_int) so_none) (se_dat (sf_lst (sa_cons se_str (sa_cons se_str sa_nil))))) sa_nil))))))))))))
theorem H__law_both (D : Def K mg "_law_both" (top 36)) (m_repr : mg "repr" = none) (EA : ExcAll K mg) (TX : TxtF K mg) (H__law_due : Has P w K mg base "_law_due" p__law_due 3 F_l_due_v9) (H_read_tree : Has P w K mg base "read_tree" p_read_tree 5 F_read_tree) (H__law_word_of : Has P w K mg base "_law_word_of" p__law_word_of 1 F_l_word_of) : Has P w K mg base "_law_both" p__law_both 6 F_l_both_v3 :=
  has_of (k := 5) D bi__law_both (N := N__law_both) sc__law_both rfl (by decide) fun f cdv A outer s H E c =>
  (sb_cons (ss_asg (w_call c.toCtx (H__law_due) (sa_cons (w_v 0) sa_nil) ) (sg_tup c.toCtx.cm (sgs_cons (g_name c.toCtx 1) (sgs_cons (g_name c.toCtx 2) sgs_nil))))
  (sb_cons (z_set c.toCtx 3 se_non)
  (sb_cons (z_set c.toCtx 4 se_non)
  (sb_cons (ss_try c EA (i := 5) (j := 4) (by decide) (fun Wt1 pt1 xt1 ct1 =>
  (sb_one (z_set ct1.toCtx 3 (w_call ct1.toCtx (H_read_tree) (sa_cons (w_v 0) sa_nil) )))))
  (sb_cons (ss_if (t_notN c.toCtx (w_v 4) se_non) (sb_one (ss_ret (se_and (w_v 2) (se_and (w_eq c.toCtx (w_call c.toCtx (H__law_word_of) (sa_cons (w_v 4) sa_nil) ) se_str) (se_one (w_eq c.toCtx (w_repr c.toCtx m_repr (sa_cons (se_spot TX (w_v 4)) sa_nil)) (w_repr c.toCtx m_repr (sa_cons (w_v 1) sa_nil)))))))) sb_nil)
  (sb_one (ss_ret (se_and (se_not (w_v 2)) (se_one (w_eq c.toCtx (w_repr c.toCtx m_repr (sa_cons (w_v 3) sa_nil)) (w_repr c.toCtx m_repr (sa_cons (w_v 1) sa_nil))))))))))))
theorem H_law (D : Def K mg "law" (top 38)) (m_len : mg "len" = none) (m_max : mg "max" = none) (m_min : mg "min" = none) (m_range : mg "range" = none) (m_repr : mg "repr" = none) (H__law_pile : HasF P w K mg base "_law_pile" p__law_pile 2 F_l_pile) (H__law_drawn : Has P w K mg base "_law_drawn" p__law_drawn 71 (F_l_drawn_v3 70)) (H__law_text : Has P w K mg base "_law_text" p__law_text 70 (F_l_text_v3 70)) (H_tree_text : Has P w K mg base "tree_text" p_tree_text 73 F_tree_text) (H_read_tree : Has P w K mg base "read_tree" p_read_tree 5 F_read_tree) (H__law_bent : Has P w K mg base "_law_bent" p__law_bent 3 F_l_bent_v6) (H__law_both : Has P w K mg base "_law_both" p__law_both 6 F_l_both_v3) : Has P w K mg base "law" p_law 74 F_law_k57 :=
  has_of (k := 73) D bi_law (N := N_law) sc_law rfl (by decide) fun f cdv A outer s H E c =>
  (sb_cons (z_for c (si_r1 rfl m_range (sa_cons (w_max2 c.toCtx m_max (sa_cons se_int (sa_cons (w_min2 c.toCtx m_min (sa_cons (w_len m_len (sa_cons (w_v 0) sa_nil)) (sa_cons se_int sa_nil))) sa_nil))) sa_nil)) (g_name c.toCtx 1) (sb_cons (z_set c.toCtx 2 (se_new (w_callF c.toCtx (H__law_pile) (sa_cons (w_v 0) (sa_cons (w_v 1) sa_nil)) )))
  (sb_one (z_for c (si_v (se_dat (sf_lst (sa_cons (w_call c.toCtx (H__law_drawn) (sa_cons (w_v 2) (sa_cons se_int sa_nil)) ) (sa_cons (w_call c.toCtx (H__law_drawn) (sa_cons (w_v 2) (sa_cons se_int sa_nil)) ) (sa_cons (se_tup (sa_cons se_str (sa_cons (se_tup (sa_cons (w_call c.toCtx (H__law_drawn) (sa_cons (w_v 2) (sa_cons se_int sa_nil)) ) (sa_cons se_int sa_nil))) sa_nil))) sa_nil)))))) (g_name c.toCtx 3) (sb_cons (z_set c.toCtx 4 (w_repr c.toCtx m_repr (sa_cons (w_v 3) sa_nil)))
  (sb_cons (z_set c.toCtx 5 (w_call c.toCtx (H__law_text) (sa_cons (w_v 3) sa_nil) ))
  (sb_cons (ss_if (st_w (sw_or (t_ne c.toCtx (w_call c.toCtx (H_tree_text) (sa_cons (w_v 3) sa_nil) ) (w_v 5)) (sw_or (t_ne c.toCtx (w_repr c.toCtx m_repr (sa_cons (w_call c.toCtx (H_read_tree) (sa_cons (w_v 5) sa_nil) ) sa_nil)) (w_v 4)) (sw_or1 (t_ne c.toCtx (w_repr c.toCtx m_repr (sa_cons (w_v 3) sa_nil)) (w_v 4)))))) (sb_one (ss_ret se_bl)) sb_nil)
  (sb_one (z_for c (si_r1 rfl m_range (sa_cons se_int sa_nil)) (g_name c.toCtx 6) (sb_cons (z_set c.toCtx 7 (w_call c.toCtx (H__law_bent) (sa_cons (w_v 2) (sa_cons (w_v 5) sa_nil)) ))
  (sb_one (ss_if (st_w (sw_or (st_not (st_val (w_call c.toCtx (H__law_both) (sa_cons (w_v 5) sa_nil) ))) (sw_or (st_not (st_val (w_call c.toCtx (H__law_both) (sa_cons (w_v 7) sa_nil) ))) (sw_or1 (st_not (st_val (w_call c.toCtx (H__law_both) (sa_cons (w_call c.toCtx (H__law_bent) (sa_cons (w_v 2) (sa_cons (w_v 7) sa_nil)) ) sa_nil) ))))))) (sb_one (ss_ret se_bl)) sb_nil))))))))))))
  (sb_cons (z_set c.toCtx 8 (w_add (w_add se_str (se_join se_str (w_mul (se_dat (sf_lst (sa_cons se_str sa_nil))) se_int))) se_str))
  (sb_cons (z_set c.toCtx 9 (w_add (w_add (w_mulS se_str se_int) se_str) (w_mulS se_str se_int)))
  (sb_cons (z_for c (si_v (se_dat (sf_lst (sa_cons (w_v 8) (sa_cons (w_v 9) sa_nil))))) (g_name c.toCtx 5) (sb_one (ss_if (st_w (sw_or (st_not (st_val (w_call c.toCtx (H__law_both) (sa_cons (w_v 5) sa_nil) ))) (sw_or1 (t_ne c.toCtx (w_call c.toCtx (H_tree_text) (sa_cons (w_call c.toCtx (H_read_tree) (sa_cons (w_v 5) sa_nil) ) sa_nil) ) (w_v 5))))) (sb_one (ss_ret se_bl)) sb_nil)))
  (sb_cons (z_set c.toCtx 10 (se_new (sf_lst (sa_cons se_str (sa_cons se_str (sa_cons se_str (sa_cons se_str (sa_cons se_str (sa_cons (w_mulS se_str se_int) (sa_cons (w_mulS se_str se_int) (sa_cons se_str (sa_cons se_str (sa_cons se_str (sa_cons se_str sa_nil))))))))))))))
  (sb_cons (z_set c.toCtx 10 (se_new (sf_cat (w_v 10) (se_dat (sf_lst (sa_cons se_str (sa_cons se_str sa_nil)))))))
  (sb_cons (z_set c.toCtx 10 (se_new (sf_cat (w_v 10) (se_dat (sf_lst (sa_cons se_str (sa_cons se_str (sa_cons se_str (sa_cons se_str (sa_cons se_str (sa_cons se_str sa_nil)))))))))))
  (sb_cons (z_set c.toCtx 10 (se_new (sf_cat (w_v 10) (se_dat (sf_lst (sa_cons se_str (sa_cons se_str (sa_cons se_str (sa_cons se_str sa_nil)))))))))
  (sb_cons (z_set c.toCtx 10 (se_new (sf_cat (w_v 10) (se_dat (sf_lst (sa_cons se_str (sa_cons se_str (sa_cons se_str (sa_cons se_str (sa_cons se_str sa_nil))))))))))
  (sb_cons (z_set c.toCtx 10 (se_new (sf_cat (w_v 10) (se_dat (sf_lst (sa_cons se_str sa_nil))))))
  (sb_cons (ss_expr (se_append (w_v 10) (sa_cons se_str sa_nil)))
  (sb_cons (z_for c (si_v (se_dat (sf_lst (sa_cons se_int (sa_cons se_int (sa_cons se_int sa_nil)))))) (g_name c.toCtx 11) (sb_cons (z_set c.toCtx 10 (se_new (sf_cat (w_v 10) (se_dat (sf_lst (sa_cons (w_add (w_add (w_mulS se_str (w_v 11)) se_str) (w_mulS se_str (w_v 11))) (sa_cons (w_mulS se_str (w_v 11)) (sa_cons (w_add (w_mulS se_str (w_v 11)) se_str) sa_nil))))))))
  (sb_one (ss_expr (se_append (w_v 10) (sa_cons (w_add (w_mulS se_str (w_v 11)) se_str) sa_nil))))))
  (sb_one (ss_ret (w_eq c.toCtx (se_dat (sf_comp c.toCtx.cm c.toCtx.nd (own := [("_law_text_here", 5)]) (si_v (w_v 10)) (blkOk_by (by rfl)) (by decide) (fun s1 Z1 D1 l1 p1 => (g_name (Ctx.bk c.toCtx s1 Z1 _ _ p1) 5)) (fun s1 Z1 D1 l1 p1 => (sts_one (st_not (st_val (w_call (Ctx.bk c.toCtx s1 Z1 _ _ p1) (H__law_both) (sa_cons (w_v 5) sa_nil) ))))) (fun s1 Z1 D1 l1 p1 => (w_v 5)))) (se_dat (sf_lst sa_nil)))))))))))))))))
theorem facts {h : Heap} (X : K.In h) (G : h.Ns mainGlobals mg) (c : He.SaysD fal fnl K) (cE : BB K = true) : Has P w K mg base "law" p_law 74 F_law_k57 := by
  obtain ⟨fd__law_mixed, U__law_mixed⟩ := c.def_ 0 (d := d__law_mixed) rfl
  have D__law_mixed : Def K mg "_law_mixed" (top 26) := ⟨_, fd__law_mixed, He.glo_ok X G (c.fact 0 (f := .glo "_law_mixed") rfl), U__law_mixed⟩
  obtain ⟨fd__law_pile, U__law_pile⟩ := c.def_ 1 (d := d__law_pile) rfl
  have D__law_pile : Def K mg "_law_pile" (top 27) := ⟨_, fd__law_pile, He.glo_ok X G (c.fact 1 (f := .glo "_law_pile") rfl), U__law_pile⟩
  obtain ⟨fd__law_take, U__law_take⟩ := c.def_ 2 (d := d__law_take) rfl
  have D__law_take : Def K mg "_law_take" (top 28) := ⟨_, fd__law_take, He.glo_ok X G (c.fact 2 (f := .glo "_law_take") rfl), U__law_take⟩
  obtain ⟨fd__law_drawn, U__law_drawn⟩ := c.def_ 3 (d := d__law_drawn) rfl
  have D__law_drawn : Def K mg "_law_drawn" (top 31) := ⟨_, fd__law_drawn, He.glo_ok X G (c.fact 3 (f := .glo "_law_drawn") rfl), U__law_drawn⟩
  obtain ⟨fd__law_text, U__law_text⟩ := c.def_ 4 (d := d__law_text) rfl
  have D__law_text : Def K mg "_law_text" (top 32) := ⟨_, fd__law_text, He.glo_ok X G (c.fact 4 (f := .glo "_law_text") rfl), U__law_text⟩
  obtain ⟨fd_is_whole, U_is_whole⟩ := c.def_ 5 (d := d_is_whole) rfl
  have D_is_whole : Def K mg "is_whole" (top 13) := ⟨_, fd_is_whole, He.glo_ok X G (c.fact 5 (f := .glo "is_whole") rfl), U_is_whole⟩
  obtain ⟨fd_is_form, U_is_form⟩ := c.def_ 6 (d := d_is_form) rfl
  have D_is_form : Def K mg "is_form" (top 15) := ⟨_, fd_is_form, He.glo_ok X G (c.fact 6 (f := .glo "is_form") rfl), U_is_form⟩
  obtain ⟨fd_look_at_form, U_look_at_form⟩ := c.def_ 7 (d := d_look_at_form) rfl
  have D_look_at_form : Def K mg "look_at_form" (top 16) := ⟨_, fd_look_at_form, He.glo_ok X G (c.fact 7 (f := .glo "look_at_form") rfl), U_look_at_form⟩
  obtain ⟨fd_form_text, U_form_text⟩ := c.def_ 8 (d := d_form_text) rfl
  have D_form_text : Def K mg "form_text" (top 21) := ⟨_, fd_form_text, He.glo_ok X G (c.fact 8 (f := .glo "form_text") rfl), U_form_text⟩
  obtain ⟨fd_tree_text, U_tree_text⟩ := c.def_ 9 (d := d_tree_text) rfl
  have D_tree_text : Def K mg "tree_text" (top 22) := ⟨_, fd_tree_text, He.glo_ok X G (c.fact 9 (f := .glo "tree_text") rfl), U_tree_text⟩
  obtain ⟨fd_Spelling_init, U_Spelling_init⟩ := c.def_ 10 (d := d_Spelling_init) rfl
  have D_Spelling_init : DefI K mg "Spelling" "Spelling.__init__" st_Spelling_init := ⟨_, _, fd_Spelling_init, He.glo_ok X G (c.fact 10 (f := .glo "Spelling") rfl), He.mkr_ok (c.fact 50 (f := .mkr "Spelling") rfl), U_Spelling_init⟩
  obtain ⟨fd_Spelling_take_figure, U_Spelling_take_figure⟩ := c.def_ 11 (d := d_Spelling_take_figure) rfl
  have D_Spelling_take_figure : DefM' K mg "Spelling" "take_figure" "Spelling.take_figure" st_Spelling_take_figure := ⟨_, _, fd_Spelling_take_figure, He.glo_ok X G (c.fact 10 (f := .glo "Spelling") rfl), He.cls_ok (c.fact 46 (f := .cls "Spelling") rfl), He.meth_ok (c.fact 51 (f := .meth "Spelling" "take_figure") rfl), U_Spelling_take_figure⟩
  obtain ⟨fd_Spelling_take_open, U_Spelling_take_open⟩ := c.def_ 12 (d := d_Spelling_take_open) rfl
  have D_Spelling_take_open : DefM' K mg "Spelling" "take_open" "Spelling.take_open" st_Spelling_take_open := ⟨_, _, fd_Spelling_take_open, He.glo_ok X G (c.fact 10 (f := .glo "Spelling") rfl), He.cls_ok (c.fact 46 (f := .cls "Spelling") rfl), He.meth_ok (c.fact 52 (f := .meth "Spelling" "take_open") rfl), U_Spelling_take_open⟩
  obtain ⟨fd_Spelling_closed, U_Spelling_closed⟩ := c.def_ 13 (d := d_Spelling_closed) rfl
  have D_Spelling_closed : DefM' K mg "Spelling" "closed" "Spelling.closed" st_Spelling_closed := ⟨_, _, fd_Spelling_closed, He.glo_ok X G (c.fact 10 (f := .glo "Spelling") rfl), He.cls_ok (c.fact 46 (f := .cls "Spelling") rfl), He.meth_ok (c.fact 53 (f := .meth "Spelling" "closed") rfl), U_Spelling_closed⟩
  obtain ⟨fd_Spelling_take_part, U_Spelling_take_part⟩ := c.def_ 14 (d := d_Spelling_take_part) rfl
  have D_Spelling_take_part : DefM' K mg "Spelling" "take_part" "Spelling.take_part" st_Spelling_take_part := ⟨_, _, fd_Spelling_take_part, He.glo_ok X G (c.fact 10 (f := .glo "Spelling") rfl), He.cls_ok (c.fact 46 (f := .cls "Spelling") rfl), He.meth_ok (c.fact 54 (f := .meth "Spelling" "take_part") rfl), U_Spelling_take_part⟩
  obtain ⟨fd_Spelling_take_letter, U_Spelling_take_letter⟩ := c.def_ 15 (d := d_Spelling_take_letter) rfl
  have D_Spelling_take_letter : DefM' K mg "Spelling" "take_letter" "Spelling.take_letter" st_Spelling_take_letter := ⟨_, _, fd_Spelling_take_letter, He.glo_ok X G (c.fact 10 (f := .glo "Spelling") rfl), He.cls_ok (c.fact 46 (f := .cls "Spelling") rfl), He.meth_ok (c.fact 55 (f := .meth "Spelling" "take_letter") rfl), U_Spelling_take_letter⟩
  obtain ⟨fd_Spelling_take, U_Spelling_take⟩ := c.def_ 16 (d := d_Spelling_take) rfl
  have D_Spelling_take : DefM' K mg "Spelling" "take" "Spelling.take" st_Spelling_take := ⟨_, _, fd_Spelling_take, He.glo_ok X G (c.fact 10 (f := .glo "Spelling") rfl), He.cls_ok (c.fact 46 (f := .cls "Spelling") rfl), He.meth_ok (c.fact 56 (f := .meth "Spelling" "take") rfl), U_Spelling_take⟩
  obtain ⟨fd_read_tree, U_read_tree⟩ := c.def_ 17 (d := d_read_tree) rfl
  have D_read_tree : Def K mg "read_tree" (top 24) := ⟨_, fd_read_tree, He.glo_ok X G (c.fact 17 (f := .glo "read_tree") rfl), U_read_tree⟩
  obtain ⟨fd__law_pick, U__law_pick⟩ := c.def_ 18 (d := d__law_pick) rfl
  have D__law_pick : Def K mg "_law_pick" (top 29) := ⟨_, fd__law_pick, He.glo_ok X G (c.fact 18 (f := .glo "_law_pick") rfl), U__law_pick⟩
  obtain ⟨fd__law_bent, U__law_bent⟩ := c.def_ 19 (d := d__law_bent) rfl
  have D__law_bent : Def K mg "_law_bent" (top 37) := ⟨_, fd__law_bent, He.glo_ok X G (c.fact 19 (f := .glo "_law_bent") rfl), U__law_bent⟩
  obtain ⟨fd__law_ended, U__law_ended⟩ := c.def_ 20 (d := d__law_ended) rfl
  have D__law_ended : Def K mg "_law_ended" (top 33) := ⟨_, fd__law_ended, He.glo_ok X G (c.fact 20 (f := .glo "_law_ended") rfl), U__law_ended⟩
  obtain ⟨fd__law_sign, U__law_sign⟩ := c.def_ 21 (d := d__law_sign) rfl
  have D__law_sign : Def K mg "_law_sign" (top 34) := ⟨_, fd__law_sign, He.glo_ok X G (c.fact 21 (f := .glo "_law_sign") rfl), U__law_sign⟩
  obtain ⟨fd__law_due, U__law_due⟩ := c.def_ 22 (d := d__law_due) rfl
  have D__law_due : Def K mg "_law_due" (top 35) := ⟨_, fd__law_due, He.glo_ok X G (c.fact 22 (f := .glo "_law_due") rfl), U__law_due⟩
  obtain ⟨fd__law_word_of, U__law_word_of⟩ := c.def_ 23 (d := d__law_word_of) rfl
  have D__law_word_of : Def K mg "_law_word_of" (top 30) := ⟨_, fd__law_word_of, He.glo_ok X G (c.fact 23 (f := .glo "_law_word_of") rfl), U__law_word_of⟩
  obtain ⟨fd__law_both, U__law_both⟩ := c.def_ 24 (d := d__law_both) rfl
  have D__law_both : Def K mg "_law_both" (top 36) := ⟨_, fd__law_both, He.glo_ok X G (c.fact 24 (f := .glo "_law_both") rfl), U__law_both⟩
  obtain ⟨fd_law, U_law⟩ := c.def_ 25 (d := d_law) rfl
  have D_law : Def K mg "law" (top 38) := ⟨_, fd_law, He.glo_ok X G (c.fact 25 (f := .glo "law") rfl), U_law⟩
  have m_ValueError : mg "ValueError" = none := He.free_ok X G (c.fact 26 (f := .free "ValueError") rfl)
  have m_all : mg "all" = none := He.free_ok X G (c.fact 27 (f := .free "all") rfl)
  have m_bool : mg "bool" = none := He.free_ok X G (c.fact 28 (f := .free "bool") rfl)
  have m_enumerate : mg "enumerate" = none := He.free_ok X G (c.fact 29 (f := .free "enumerate") rfl)
  have m_int : mg "int" = none := He.free_ok X G (c.fact 30 (f := .free "int") rfl)
  have m_isinstance : mg "isinstance" = none := He.free_ok X G (c.fact 31 (f := .free "isinstance") rfl)
  have m_len : mg "len" = none := He.free_ok X G (c.fact 32 (f := .free "len") rfl)
  have m_max : mg "max" = none := He.free_ok X G (c.fact 33 (f := .free "max") rfl)
  have m_min : mg "min" = none := He.free_ok X G (c.fact 34 (f := .free "min") rfl)
  have m_range : mg "range" = none := He.free_ok X G (c.fact 35 (f := .free "range") rfl)
  have m_repr : mg "repr" = none := He.free_ok X G (c.fact 36 (f := .free "repr") rfl)
  have m_str : mg "str" = none := He.free_ok X G (c.fact 37 (f := .free "str") rfl)
  have m_tuple : mg "tuple" = none := He.free_ok X G (c.fact 38 (f := .free "tuple") rfl)
  have m_zip : mg "zip" = none := He.free_ok X G (c.fact 39 (f := .free "zip") rfl)
  obtain ⟨t_FIGURES, g_FIGURES⟩ := He.str_ok X G (c.fact 40 (f := .str "FIGURES" "0123456789") rfl)
  obtain ⟨t_MOST_FIGURES, g_MOST_FIGURES⟩ := He.int_ok X G (c.fact 41 (f := .int "MOST_FIGURES" (30)) rfl)
  obtain ⟨t_MOST_OPEN, g_MOST_OPEN⟩ := He.int_ok X G (c.fact 42 (f := .int "MOST_OPEN" (40)) rfl)
  have E_NotTree : ExcF K mg "NotTree" := ⟨_, He.glo_ok X G (c.fact 43 (f := .glo "NotTree") rfl), He.exc_ok (c.fact 44 (f := .exc "NotTree") rfl)⟩
  have FD_Spelling_around : FldF K mg "Spelling" "around" := fld_of X G (c.fact 10 (f := .glo "Spelling") rfl) (c.fact 46 (f := .cls "Spelling") rfl) (c.fact 47 (f := .noat "Spelling" "around") rfl)
  have FD_Spelling_read : FldF K mg "Spelling" "read" := fld_of X G (c.fact 10 (f := .glo "Spelling") rfl) (c.fact 46 (f := .cls "Spelling") rfl) (c.fact 48 (f := .noat "Spelling" "read") rfl)
  have FD_Spelling_word : FldF K mg "Spelling" "word" := fld_of X G (c.fact 10 (f := .glo "Spelling") rfl) (c.fact 46 (f := .cls "Spelling") rfl) (c.fact 49 (f := .noat "Spelling" "word") rfl)
  have cE2 := Bool.and_eq_true_iff.mp cE
  have EA : ExcAll K mg := excAll_of X G cE2.1
  obtain ⟨fd_NoText, U_NoText⟩ := c.def_ 26 (d := d_NoText_init) rfl
  have TX : TxtF K mg := txt_of (st := st_NoText_init) X G cE2.2 U_NoText ⟨_, _, _, _, _, _, rfl, rfl, rfl⟩
  have h__law_mixed : Has P w K mg base "_law_mixed" p__law_mixed 1 F_l_mixed := H__law_mixed D__law_mixed m_int
  have h__law_pile : HasF P w K mg base "_law_pile" p__law_pile 2 F_l_pile := H__law_pile D__law_pile m_int m_len m_range h__law_mixed
  have h__law_take : Has P w K mg base "_law_take" p__law_take 1 F_l_take := H__law_take D__law_take m_int
  have h__law_drawn : Has P w K mg base "_law_drawn" p__law_drawn 71 (F_l_drawn_v3 70) := H__law_drawn D__law_drawn m_range m_tuple h__law_take 70
  have h__law_text : Has P w K mg base "_law_text" p__law_text 70 (F_l_text_v3 70) := H__law_text D__law_text m_isinstance m_str m_tuple 70
  have h_is_whole : Has P w K mg base "is_whole" p_is_whole 1 F_is_whole := H_is_whole D_is_whole m_bool m_int m_isinstance
  have h_is_form : Has P w K mg base "is_form" p_is_form 71 (F_is_form 70) := H_is_form D_is_form m_all m_isinstance m_len m_str m_tuple h_is_whole 70
  have h_look_at_form : Has P w K mg base "look_at_form" p_look_at_form 72 F_look_at_form := H_look_at_form D_look_at_form E_NotTree h_is_form
  have h_form_text : Has P w K mg base "form_text" p_form_text 70 (F_form_text 70) := H_form_text D_form_text m_int m_isinstance m_str 70
  have h_tree_text : Has P w K mg base "tree_text" p_tree_text 73 F_tree_text := H_tree_text D_tree_text h_look_at_form h_form_text
  have h_Spelling_init : HasI P w K mg base "Spelling" p_Spelling_init 1 F_Spelling_init := H_Spelling_init D_Spelling_init FD_Spelling_around FD_Spelling_read FD_Spelling_word
  have h_Spelling_take_figure : HasM P w K mg base "Spelling" "take_figure" p_Spelling_take_figure 1 F_Spelling_take_figure := H_Spelling_take_figure D_Spelling_take_figure m_len g_FIGURES g_MOST_FIGURES FD_Spelling_read FD_Spelling_word
  have h_Spelling_take_open : HasM P w K mg base "Spelling" "take_open" p_Spelling_take_open 1 F_Spelling_take_open := H_Spelling_take_open D_Spelling_take_open m_len g_MOST_OPEN FD_Spelling_around FD_Spelling_word
  have h_Spelling_closed : HasM P w K mg base "Spelling" "closed" p_Spelling_closed 1 F_Spelling_closed := H_Spelling_closed D_Spelling_closed m_int g_FIGURES FD_Spelling_read FD_Spelling_word
  have h_Spelling_take_part : HasM P w K mg base "Spelling" "take_part" p_Spelling_take_part 2 F_Spelling_take_part := H_Spelling_take_part D_Spelling_take_part m_tuple FD_Spelling_around FD_Spelling_read h_Spelling_closed
  have h_Spelling_take_letter : HasM P w K mg base "Spelling" "take_letter" p_Spelling_take_letter 1 F_Spelling_take_letter := H_Spelling_take_letter D_Spelling_take_letter m_len g_MOST_OPEN FD_Spelling_around FD_Spelling_read FD_Spelling_word
  have h_Spelling_take : HasM P w K mg base "Spelling" "take" p_Spelling_take 3 F_Spelling_take := H_Spelling_take D_Spelling_take g_FIGURES h_Spelling_take_figure h_Spelling_take_open h_Spelling_take_part h_Spelling_take_letter
  have h_read_tree : Has P w K mg base "read_tree" p_read_tree 5 F_read_tree := H_read_tree D_read_tree m_enumerate m_len TX FD_Spelling_around FD_Spelling_read h_Spelling_init h_Spelling_take h_Spelling_closed
  have h__law_pick : Has P w K mg base "_law_pick" p__law_pick 2 F_l_pick := H__law_pick D__law_pick m_len h__law_take
  have h__law_bent : Has P w K mg base "_law_bent" p__law_bent 3 F_l_bent_v6 := H__law_bent D__law_bent m_len h__law_take h__law_pick
  have h__law_ended : Has P w K mg base "_law_ended" p__law_ended 1 F_l_ended := H__law_ended D__law_ended m_int
  have h__law_sign : Has P w K mg base "_law_sign" p__law_sign 2 F_l_sign := H__law_sign D__law_sign m_len m_tuple h__law_ended
  have h__law_due : Has P w K mg base "_law_due" p__law_due 3 F_l_due_v9 := H__law_due D__law_due m_len m_range h__law_sign h__law_ended
  have h__law_word_of : Has P w K mg base "_law_word_of" p__law_word_of 1 F_l_word_of := H__law_word_of D__law_word_of m_ValueError m_int m_isinstance m_zip EA
  have h__law_both : Has P w K mg base "_law_both" p__law_both 6 F_l_both_v3 := H__law_both D__law_both m_repr EA TX h__law_due h_read_tree h__law_word_of
  exact H_law D_law m_len m_max m_min m_range m_repr h__law_pile h__law_drawn h__law_text h_tree_text h_read_tree h__law_bent h__law_both
end L2.HW.R_k57
set_option maxHeartbeats 200000
namespace L2.HW
open PySem PySem.Spec PyProof.Rows
@[simp] theorem openOut_nx (lk : Option Nat) (L0 L : LH) (env : En) : openOut lk L0 (.nx env L) = .nx env (openL lk L0 L) := (rfl)
@[simp] theorem openOut_rt (lk : Option Nat) (L0 L : LH) (w : Va) : openOut lk L0 (.rt w L) = .rt w (openL lk L0 L) := (rfl)
mutual
def fine : PyData → Bool
  | .none => true
  | .bool _ => true
  | .int i => decide (i.natAbs.log2 < 1920)
  | .str x => PyData.strOk x
  | .list xs => fineAll xs
  | .tuple xs => fineAll xs
  | .dict _ => false
def fineAll : List PyData → Bool
  | [] => true
  | x :: xs => fine x && fineAll xs
end
theorem fineAll_iff : ∀ {xs : List PyData}, fineAll xs = true ↔ ∀ x ∈ xs, fine x = true
  | [] => by simp [fineAll]
  | x :: xs => by simp [fineAll, fineAll_iff (xs := xs)]
mutual
theorem fine_show : ∀ x : PyData, fine x = true → x.showable = true ∧ x.canLay0 = true ∧ x.leavesShort 1921 = true
  | .none, _ => by simp [PyData.showable, PyData.canLay0, PyData.leavesShort]
  | .bool _, _ => by simp [PyData.showable, PyData.canLay0, PyData.leavesShort]
  | .int i, h => by
    have h : i.natAbs.log2 < 1920 := by simpa [fine] using h
    refine ⟨by simpa [PyData.showable] using h, by simp [PyData.canLay0], ?_⟩
    simp only [PyData.leavesShort, PyData.shown]
    exact decide_eq_true (int_text_len_1921 h)
  | .str x, h => by
    have h : PyData.strOk x = true := by simpa [fine] using h
    refine ⟨by simp [PyData.showable], by simpa [PyData.canLay0] using h, ?_⟩
    simp only [PyData.leavesShort, List.all_eq_true, decide_eq_true_eq]
    intro c hc
    unfold PyData.strOk at h
    rw [Array.all_eq_true_iff_forall_mem] at h
    have := h c (by simpa using hc)
    have : c < 0x110000 := by simpa using this
    omega
  | .list xs, h => by
    obtain ⟨h1, h2, h3⟩ := fines_show xs (by simpa [fine] using h)
    exact ⟨by simpa [PyData.showable] using h1, by simpa [PyData.canLay0] using h2, by simpa [PyData.leavesShort] using h3⟩
  | .tuple xs, h => by
    obtain ⟨h1, h2, h3⟩ := fines_show xs (by simpa [fine] using h)
    exact ⟨by simpa [PyData.showable] using h1, by simpa [PyData.canLay0] using h2, by simpa [PyData.leavesShort] using h3⟩
  | .dict _, h => by simp [fine] at h
theorem fines_show : ∀ x : List PyData, fineAll x = true → PyData.showableAll x = true ∧ PyData.canLayAll0 x = true ∧ PyData.leavesShortAll 1921 x = true
  | [], _ => by simp [PyData.showableAll, PyData.canLayAll0, PyData.leavesShortAll]
  | x :: xs, h => by
    have h : fine x = true ∧ fineAll xs = true := by simpa [fineAll] using h
    obtain ⟨h1, h2, h3⟩ := fine_show x h.1
    obtain ⟨k1, k2, k3⟩ := fines_show xs h.2
    simp [PyData.showableAll, PyData.canLayAll0, PyData.leavesShortAll, h1, h2, h3, k1, k2, k3]
end
theorem okShow_of {x : PyData} (h : fine x = true) (hd : x.depth < 180) (hb : x.bulk ≤ 8000) : okShow x := by
  obtain ⟨h1, h2, h3⟩ := fine_show x h
  refine ⟨h1, hd, ?_⟩
  have := PyData.shown_le_bulk 1921 (by decide) x h3
  rw [sizeLine_eq]
  omega
theorem shaped_of {x : PyData} (h : fine x = true) (hd : x.depth ≤ 64) : SeqAt.shaped x = true := by
  obtain ⟨h1, h2, h3⟩ := fine_show x h
  simp [SeqAt.shaped, h2, hd]
theorem len_bulk : ∀ xs : List PyData, xs.length ≤ PyData.bulkAll xs
  | [] => by simp [PyData.bulkAll]
  | x :: xs => by have := len_bulk xs; simp [PyData.bulkAll]; omega
theorem bulkAll_app : ∀ xs ys : List PyData, PyData.bulkAll (xs ++ ys) = PyData.bulkAll xs + PyData.bulkAll ys
  | [], ys => by simp [PyData.bulkAll]
  | x :: xs, ys => by simp [PyData.bulkAll, bulkAll_app xs ys]; omega
theorem depthAll_le {n : Nat} : ∀ {xs : List PyData}, PyData.depthAll xs ≤ n ↔ ∀ x ∈ xs, x.depth ≤ n
  | [] => by simp [PyData.depthAll]
  | x :: xs => by simp [PyData.depthAll, depthAll_le (xs := xs), Nat.max_le]
theorem eqv_int (i j : Int) : PyData.eqv (.int i) (.int j) = decide (i = j) := by
  by_cases h : i = j <;> simp [PyData.eqv, h]
@[simp] theorem dget_d (L : LH) (x : PyData) (u : Va) : Va.dget L (.d x) u = none := by
  unfold Va.dget
  split <;> first | rfl | (rename_i h; cases h) | (rename_i h _; cases h)
@[simp] theorem dget_scr (L : LH) (x : List Int) (u : Va) : Va.dget L (.scr x) u = none := by
  unfold Va.dget
  split <;> first | rfl | (rename_i h; cases h) | (rename_i h _; cases h)
@[simp] theorem seq_scr (L : LH) (ns : List Int) : (Va.scr ns).seq L = some (ns.map fun i => .d (.int i)) := (rfl)
theorem forL_inv {g : Va → En → LH → Res En} {body : SFn} {I : List Va → En → LH → Prop} : ∀ (ws : List Va) (env : En) (L : LH), I ws env L →
    (∀ w r env L, I (w :: r) env L → ∃ env1 L1, g w env L = .ok env1 L1 ∧ ∃ env2 L2, (body env1 L1 = .nx env2 L2 ∨ body env1 L1 = .ct env2 L2) ∧ I r env2 L2) → ∃ env' L', forL g body ws env L = .nx env' L' ∧ I [] env' L'
  | [], env, L, h, _ => ⟨env, L, rfl, h⟩
  | w :: ws, env, L, h, k => by
    obtain ⟨env1, L1, e1, env2, L2, e2, h2⟩ := k w ws env L h
    obtain ⟨env', L', e3, h3⟩ := forL_inv ws env2 L2 h2 k
    refine ⟨env', L', ?_, h3⟩
    unfold forL
    rw [e1]
    rcases e2 with e2 | e2 <;> simp only [e2] <;> exact e3
theorem compL_data {g : Va → En → LH → Res En} {t : En → LH → Res Bool} {f : EF} {env : En} {L : LH} (p : PyData → Bool) (h : PyData → PyData) : ∀ (xs : List PyData),
    (∀ x ∈ xs, ∃ env1, g (.d x) env L = .ok env1 L ∧ t env1 L = .ok (p x) L ∧ (p x = true → f env1 L = .ok (.d (h x)) L)) →
    compL g t f (xs.map Va.d) env L = .ok (((xs.filter p).map h).map Va.d) L
  | [], _ => rfl
  | x :: xs, k => by
    obtain ⟨env1, e1, e2, e3⟩ := k x List.mem_cons_self
    have ih := compL_data (g := g) (t := t) (f := f) (env := env) (L := L) p h xs fun y hy => k y (List.mem_cons_of_mem _ hy)
    rw [List.map_cons]
    unfold compL
    rw [e1]
    simp only [e2]
    cases hp : p x with
    | true => simp [e3 hp, ih, hp]
    | false => simp [ih, hp]
theorem fComp_data {s : Srcf} {g : Va → En → LH → Res En} {t : En → LH → Res Bool} {f : EF} {vs : List Nat} {env : En} {L : LH} {xs : List PyData} (p : PyData → Bool) (h : PyData → PyData)
    (hs : s env L = .ok (xs.map Va.d, none) L) (hz : xs.length ≤ sizeLine) (k : ∀ x ∈ xs, ∃ env1, g (.d x) (wipeE env vs) L = .ok env1 L ∧ t env1 L = .ok (p x) L ∧ (p x = true → f env1 L = .ok (.d (h x)) L)) :
    fComp s g t f vs env L = .ok (.lst (((xs.filter p).map h).map Va.d)) L := by
  unfold fComp
  rw [hs]
  simp only [Res.bind_ok, List.length_map, if_pos hz, lockL_none]
  rw [compL_data p h xs k]
  simp
@[simp] theorem va_comp {α : Type} (h : α → PyData) (xs : List α) : (Ob.lst (xs.map (Va.d ∘ h))).va = some (.d (.list (xs.map h))) := by
  rw [← List.map_map]; exact va_lst _
@[simp] theorem va_comp' {α : Type} (h : α → PyData) (xs : List α) : (Ob.lst (xs.map fun x => Va.d (h x))).va = some (.d (.list (xs.map h))) := va_comp h xs
theorem fComp_map {s : Srcf} {g : Va → En → LH → Res En} {f : EF} {vs : List Nat} {env : En} {L : LH} {xs : List PyData} (h : PyData → PyData)
    (hs : s env L = .ok (xs.map Va.d, none) L) (hz : xs.length ≤ sizeLine) (k : ∀ x ∈ xs, ∃ env1, g (.d x) (wipeE env vs) L = .ok env1 L ∧ f env1 L = .ok (.d (h x)) L) :
    fComp s g tTrue f vs env L = .ok (.lst ((xs.map h).map Va.d)) L := by
  have := fComp_data (s := s) (g := g) (t := tTrue) (f := f) (vs := vs) (env := env) (L := L) (xs := xs) (fun _ => true) h hs hz fun x hx => by
    obtain ⟨e, h1, h2⟩ := k x hx
    exact ⟨e, h1, rfl, fun _ => h2⟩
  rwa [List.filter_eq_self.mpr (fun _ _ => rfl)] at this
@[simp] theorem va_nil : (Ob.lst []).va = some (.d (.list [])) := (rfl)
abbrev P1 (p : Int) : Option Ob := some (.lst [.d (.int p)])
theorem kept_set {L g : LH} {n : Nat} {p p' : Int} (hn : n < L.length) : Kept (L.set n (P1 p)) ((L ++ g).set n (P1 p')) := by
  intro k hk
  rw [List.length_set] at hk
  by_cases h : k = n
  · subst h
    exact .inr ⟨_, List.getElem?_set_self (by simp; omega), by simp [Ob.low, lows]⟩
  · left
    rw [List.getElem?_set_ne (Ne.symm h), List.getElem?_set_ne (Ne.symm h), List.getElem?_append_left hk]
theorem outV_set {L g : LH} {n : Nat} {p p' : Int} (w : Va) (hn : n < L.length) : outV (L.set n (P1 p)) ((L ++ g).set n (P1 p')) (some w) = .ok w (L.set n (P1 p')) := by
  unfold outV
  simp only [if_pos (kept_set hn), List.length_set]
  rw [List.set_append_left _ _ hn, List.take_left' (by simp)]
theorem outV_set0 {L : LH} {n : Nat} {p p' : Int} (w : Va) (hn : n < L.length) : outV (L.set n (P1 p)) (L.set n (P1 p')) (some w) = .ok w (L.set n (P1 p')) := by
  have := outV_set (g := []) (p := p) (p' := p') w hn
  rwa [List.append_nil] at this
theorem get_pile {L : LH} {n : Nat} {p : Int} (hn : n < L.length) : (L.set n (P1 p))[n]? = some (P1 p) := List.getElem?_set_self hn
@[simp] theorem u_mkTup (ws : List Va) : mkTup ws = match datas ws with
  | some xs => .d (.tuple xs)
  | none => .tup ws := rfl
@[simp] theorem u_va (ws : List Va) : (Ob.lst ws).va = (datas ws).map fun xs => .d (.list xs) := (rfl)
@[simp] theorem datas_comp {α : Type} (h : α → PyData) (xs : List α) : datas (xs.map (Va.d ∘ h)) = some (xs.map h) := by
  rw [← List.map_map]; exact datas_map _
@[simp] theorem datas_comp' {α : Type} (h : α → PyData) (xs : List α) : datas (xs.map fun x => Va.d (h x)) = some (xs.map h) := datas_comp h xs
@[simp] theorem cmpOk_str (a b : Str) : cmpOk (.str a) (.str b) = true := (rfl)
theorem cmpOk_of {x y : PyData} (h : SeqAt.shaped x = true) (k : SeqAt.shaped y = true) : cmpOk x y = true := by simp [cmpOk, h, k]
@[simp] theorem cmpOk_int (a b : Int) : cmpOk (.int a) (.int b) = true := cmpOk_of (by simp [SeqAt.shaped, PyData.canLay0, PyData.depth]) (by simp [SeqAt.shaped, PyData.canLay0, PyData.depth])
@[simp] theorem cmpOk_bool (a b : Bool) : cmpOk (.bool a) (.bool b) = true := cmpOk_of (by simp [SeqAt.shaped, PyData.canLay0, PyData.depth]) (by simp [SeqAt.shaped, PyData.canLay0, PyData.depth])
@[simp] theorem outV_nil (L : LH) (w : Va) : outV [] L (some w) = .ok w [] := by
  have : Kept [] L := fun n h => by simp at h
  simp [outV, this]
theorem cMin2_eq (i j : Int) (L : LH) : cMin2 [.d (.int i), .d (.int j)] L = .ok (.d (.int (min i j))) L := by
  simp only [u_cMin2]
  congr 3
  by_cases h : j < i
  · rw [if_pos h]; omega
  · rw [if_neg h]; omega
theorem cMax2_eq (i j : Int) (L : LH) : cMax2 [.d (.int i), .d (.int j)] L = .ok (.d (.int (max i j))) L := by
  simp only [u_cMax2]
  congr 3
  by_cases h : j > i
  · rw [if_pos h]; omega
  · rw [if_neg h]; omega
@[simp] theorem outV_self (L : LH) (w : Va) : outV L L (some w) = .ok w L := by simp [outV]
@[simp] theorem outV_app (L g : LH) (w : Va) : outV L (L ++ g) (some w) = .ok w L := by simp [outV]
end L2.HW
namespace L2.HW
open PySem PySem.Spec PyProof.Rows
theorem take_ex {L : LH} {n : Nat} {p s : Int} (hn : n < L.length) (hs : 0 < s) (hl : s.natAbs.log2 < 9000 := by decide) :
    ∃ u p' : Int, 0 ≤ u ∧ u < s ∧ F_l_take [.loc n, .d (.int s)] (L.set n (P1 p)) = .ok (.d (.int u)) (L.set n (P1 p')) := by
  refine ⟨p % s, p / s, Int.emod_nonneg _ (by omega), Int.emod_lt_of_pos _ hs, ?_⟩
  have hg := get_pile (L := L) (p := p) hn
  simp [F_l_take, b_l_take, mkFn, Va.dget, Va.seq, hg, atI, ixN, modC, divC, hs, hl, outV_set0, hn]
theorem log_small {s : Int} (h : 0 ≤ s) (h2 : s ≤ 100000) : s.natAbs.log2 < 9000 := by
  have : s.natAbs < 2 ^ 9000 := by
    have : s.natAbs ≤ 100000 := by omega
    exact Nat.lt_of_le_of_lt this (by decide +kernel)
  by_cases h0 : s.natAbs = 0
  · rw [h0]; decide
  · exact (Nat.log2_lt h0).mpr this
theorem mixed_ex {c k : Int} {L : LH} (hk : 0 ≤ k) (hk2 : k ≤ 100000) : ∃ u : Int, 0 ≤ u ∧ u < 2147483579 ∧ F_l_mixed [.d (.int c), .d (.int k)] L = .ok (.d (.int u)) L := by
  have lg : ∀ i : Int, 0 ≤ i → i < 2 ^ 64 → i.natAbs.log2 < 64 := fun i h0 h1 => by
    have : i.natAbs < 2 ^ 64 := by omega
    by_cases z : i.natAbs = 0
    · rw [z]; decide
    · exact (Nat.log2_lt z).mpr this
  have a0 : 0 ≤ c % 2147483647 := Int.emod_nonneg _ (by omega)
  have a1 : c % 2147483647 < 2147483647 := Int.emod_lt_of_pos _ (by omega)
  have m1 : mulC (c % 2147483647) 48271 = true := by
    have := lg _ a0 (by omega)
    have h2 := lg 48271 (by omega) (by omega)
    exact decide_eq_true (by omega)
  have m2 : mulC k 69621 = true := by
    have := lg k hk (by omega)
    have h2 := lg 69621 (by omega) (by omega)
    exact decide_eq_true (by omega)
  generalize hn : (c % 2147483647 * 48271 + k * 69621 + 1048583) % 2147483629 = n
  have n0 : 0 ≤ n := by rw [← hn]; exact Int.emod_nonneg _ (by omega)
  have n1 : n < 2147483629 := by rw [← hn]; exact Int.emod_lt_of_pos _ (by omega)
  have m3 : mulC n n = true := by
    have := lg n n0 (by omega)
    exact decide_eq_true (by omega)
  generalize hn2 : (n * n) % 2147483587 = n2
  have p0 : 0 ≤ n2 := by rw [← hn2]; exact Int.emod_nonneg _ (by omega)
  have p1 : n2 < 2147483587 := by rw [← hn2]; exact Int.emod_lt_of_pos _ (by omega)
  have m4 : mulC n2 (n2 + 2) = true := by
    have := lg n2 p0 (by omega)
    have := lg (n2 + 2) (by omega) (by omega)
    exact decide_eq_true (by omega)
  refine ⟨(n2 * (n2 + 2)) % 2147483579, Int.emod_nonneg _ (by omega), Int.emod_lt_of_pos _ (by omega), ?_⟩
  simp [F_l_mixed, b_l_mixed, mkFn, modC, m1, m2, hn, m3, hn2, m4]
theorem log_pow {i : Int} {k : Nat} (h0 : 0 ≤ i) (h : i < 2 ^ k) (hk : 0 < k) : i.natAbs.log2 < k := by
  have : i.natAbs < 2 ^ k := by
    have : ((i.natAbs : Nat) : Int) < ((2 ^ k : Nat) : Int) := by rw [Int.natAbs_of_nonneg h0]; simpa using h
    exact_mod_cast this
  by_cases z : i.natAbs = 0
  · rw [z]; simpa using hk
  · exact (Nat.log2_lt z).mpr this
theorem pile_ex {ns : List Int} {k : Int} {L : LH} (hk : 0 ≤ k) (hk2 : k ≤ 10000) (hl : ns.length ≤ 63) : ∃ p : Int, F_l_pile [.scr ns, .d (.int k)] L = .ok (.lst [.d (.int p)]) L := by
  have cell : ∃ c : Int, (k < (ns.length : Int) → atI (ns.map fun i => Va.d (.int i)) k = some (.d (.int c))) ∧ (¬ k < (ns.length : Int) → c = 0) := by
    by_cases h : k < (ns.length : Int)
    · have hlt : k.toNat < ns.length := by omega
      refine ⟨ns[k.toNat], fun _ => ?_, fun z => absurd h z⟩
      simp [atI, ixN, hk, h, List.getElem?_eq_getElem hlt]
    · exact ⟨0, fun z => absurd z h, fun _ => rfl⟩
  obtain ⟨c, hc1, hc2⟩ := cell
  have loop := forL_inv (g := tN 4) (body := b_l_pile_1)
    (I := fun ws env M => M = L ∧ ∃ (f : Int) (j : Nat) (a : Option Va), env = [some (.scr ns), some (.d (.int k)), some (.d (.int c)), some (.d (.int f)), a] ∧ j + ws.length = 24 ∧ ws = (List.range' j ws.length).map (fun i => Va.d (.int (0 + (i : Nat)))) ∧ 0 ≤ f ∧ f < 2 ^ (31 * j))
    (rngV 0 24) [some (.scr ns), some (.d (.int k)), some (.d (.int c)), some (.d (.int 0)), none] L ⟨rfl, 0, 0, none, rfl, by simp [rngV], by simp [rngV, List.range_eq_range'], by omega, by simp⟩ ?_
  · obtain ⟨env', L', e1, rfl, f, j, a, rfl, h1, h2, h3, h4⟩ := loop
    by_cases hb : c < 10 ^ 18
    · refine ⟨f, ?_⟩
      have hb' : ¬ (1000000000000000000 ≤ c) := by omega
      by_cases h : k < (ns.length : Int)
      · simp [F_l_pile, b_l_pile, mkFnF, h, hc1 h, sFor, e1, powC, hb', sizeLine_eq, settleOb, mapO]
      · have := hc2 h
        subst this
        simp [F_l_pile, b_l_pile, mkFnF, h, sFor, e1, powC, sizeLine_eq, settleOb, mapO]
    · have hb' : 1000000000000000000 ≤ c := by omega
      have h : k < (ns.length : Int) := by
        by_cases h : k < (ns.length : Int)
        · exact h
        · have := hc2 h; omega
      have b1 : mulC (10 ^ 60) (10 ^ 60) = true := by decide +kernel
      have b2 : mulC (10 ^ 120) (10 ^ 60) = true := by decide +kernel
      have b3 : mulC (10 ^ 180) (10 ^ 60) = true := by decide +kernel
      simp only [Int.reducePow] at b1 b2 b3
      exact ⟨_, by simp [F_l_pile, b_l_pile, mkFnF, h, hc1 h, powC, hb', sizeLine_eq, settleOb, mapO, b1, b2, b3, modC]; rfl⟩
  · rintro w r env M ⟨rfl, f, j, a, rfl, h1, h2, h3, h4⟩
    simp only [List.length_cons] at h1 h2
    rw [List.range'_succ, List.map_cons, List.cons.injEq] at h2
    obtain ⟨rfl, h2⟩ := h2
    have hj : j < 24 := by omega
    obtain ⟨u, u0, u1, eu⟩ := mixed_ex (c := c) (k := 7 * k + 100 * (j : Int) + (j : Int) * (j : Int)) (L := M) (by
      have : (0 : Int) ≤ (j : Int) * j := Int.mul_nonneg (by omega) (by omega)
      omega) (by
      have : (j : Int) * j ≤ 24 * 24 := Int.mul_le_mul (by omega) (by omega) (by omega) (by omega)
      omega)
    have lg : ∀ i : Int, 0 ≤ i → i < 2 ^ 31 → i.natAbs.log2 < 31 := fun i h0 h1 => log_pow h0 h1 (by omega)
    have hp : (2 : Int) ^ (31 * j) ≤ 2 ^ 744 := by
      have : (2 : Nat) ^ (31 * j) ≤ 2 ^ 744 := Nat.pow_le_pow_right (by omega) (by omega)
      exact_mod_cast this
    have lf : f.natAbs.log2 < 744 := log_pow h3 (by omega) (by omega)
    have m1 : mulC f 2147483579 = true := by
      have := lg 2147483579 (by omega) (by omega)
      exact decide_eq_true (by omega)
    have m2 : mulC 7 k = true := by
      have := lg k (by omega) (by omega)
      have := lg 7 (by omega) (by omega)
      exact decide_eq_true (by omega)
    have m3 : mulC 100 (j : Int) = true := by
      have := lg j (by omega) (by omega)
      have := lg 100 (by omega) (by omega)
      exact decide_eq_true (by omega)
    have m4 : mulC (j : Int) (j : Int) = true := by
      have := lg j (by omega) (by omega)
      exact decide_eq_true (by omega)
    refine ⟨_, _, rfl, _, _, .inl ?_, rfl, f * 2147483579 + u, j + 1, some (.d (.int (0 + (j : Int)))), rfl, by omega, h2, ?_, ?_⟩
    · simp [b_l_pile_1, m1, m2, m3, m4, eu]
    · have : 0 ≤ f * 2147483579 := Int.mul_nonneg h3 (by omega)
      omega
    · have e : (2 : Int) ^ (31 * (j + 1)) = 2 ^ (31 * j) * 2147483648 := by
        rw [show 31 * (j + 1) = 31 * j + 31 by omega, Int.pow_add]; rfl
      rw [e]
      have : (f + 1) * 2147483579 ≤ 2 ^ (31 * j) * 2147483579 := Int.mul_le_mul_of_nonneg_right (by omega) (by omega)
      have h5 : (0 : Int) < 2 ^ (31 * j) := Int.pow_pos (by omega)
      omega
end L2.HW
namespace L2.HW
open PySem PySem.Spec PyProof.Rows
def Ok (d b : Nat) (x : PyData) : Prop := fine x = true ∧ x.depth ≤ d ∧ x.bulk ≤ b
theorem Ok.mono {d b d' b' : Nat} {x : PyData} (h : Ok d b x) (h1 : d ≤ d') (h2 : b ≤ b') : Ok d' b' x := ⟨h.1, by have := h.2.1; omega, by have := h.2.2; omega⟩
theorem Ok.tuple {d b : Nat} {xs : List PyData} (h : Ok d b (.tuple xs)) : ∀ x ∈ xs, fine x = true ∧ x.depth + 1 ≤ d := by
  intro x hx
  have h1 := h.1
  have h2 := h.2.1
  simp only [fine] at h1
  simp only [PyData.depth] at h2
  have h3 : PyData.depthAll xs ≤ d - 1 := by omega
  exact ⟨fineAll_iff.mp h1 x hx, by have := depthAll_le.mp h3 x hx; omega⟩
theorem atI_map (xs : List PyData) (i : Int) (h0 : 0 ≤ i) (h1 : i < xs.length) : ∃ x ∈ xs, atI (xs.map Va.d) i = some (.d x) := by
  have hlt : i.toNat < xs.length := by omega
  refine ⟨xs[i.toNat], List.getElem_mem hlt, ?_⟩
  simp [atI, ixN, h0, h1, List.getElem?_eq_getElem hlt]
end L2.HW
namespace L2.HW
open PySem PySem.Spec PyProof.Rows
theorem seq_nx {f g : SFn} {env env1 : En} {L L1 : LH} {r : Out} (h : f env L = .nx env1 L1) (k : g env1 L1 = r) : sSeq f g env L = r := by
  simp only [u_sSeq, h]; exact k
theorem seq_rt {f g : SFn} {env : En} {L L1 : LH} {w : Va} (h : f env L = .rt w L1) : sSeq f g env L = .rt w L1 := by
  simp only [u_sSeq, h]
theorem seq_exc {f g : SFn} {env env1 : En} {L L1 : LH} {c : Str} {x : Option PyData} (h : f env L = .exc c x env1 L1) : sSeq f g env L = .exc c x env1 L1 := by
  simp only [u_sSeq, h]
theorem for_nx {s : Srcf} {g : Va → En → LH → Res En} {body : SFn} {env env1 : En} {L L1 : LH} {ws : List Va} (hs : s env L = .ok (ws, none) L) (h : forL g body ws env L = .nx env1 L1) : sFor s g body env L = .nx env1 L1 := by
  simp only [sFor, hs, then_ok, lockL_none, h, openOut_nx, openL_none]
theorem for_rt {s : Srcf} {g : Va → En → LH → Res En} {body : SFn} {env : En} {L L1 : LH} {w : Va} {ws : List Va} (hs : s env L = .ok (ws, none) L) (h : forL g body ws env L = .rt w L1) : sFor s g body env L = .rt w L1 := by
  simp only [sFor, hs, then_ok, lockL_none, h, openOut_rt, openL_none]
theorem fn_rt {np nl : Nat} {body : SFn} {ws : List Va} {L L' : LH} {x : PyData} (hl : ws.length = np) (h : body (ws.map some ++ List.replicate (nl - ws.length) none) L = .rt (.d x) L') (hk : outV L L' (some (.d x)) = .ok (.d x) L := by simp) : mkFn np nl body ws L = .ok (.d x) L := by
  unfold mkFn
  rw [if_pos hl, h]
  simpa using hk
theorem fn_out {np nl : Nat} {body : SFn} {ws : List Va} {L L' L2 : LH} {w u : Va} (hl : ws.length = np) (h : body (ws.map some ++ List.replicate (nl - ws.length) none) L = .rt w L') (hs : settle L' L.length 9 w = some u) (hk : outV L L' (some u) = .ok u L2) : mkFn np nl body ws L = .ok u L2 := by
  unfold mkFn
  rw [if_pos hl, h]
  simp only [hs, hk]
def insK {κ : Type} [DecidableEq κ] (ks : List κ) (k : κ) : List κ := if k ∈ ks then ks else ks ++ [k]
theorem mem_insK {κ : Type} [DecidableEq κ] {ks : List κ} {k x : κ} : x ∈ insK ks k ↔ x ∈ ks ∨ x = k := by
  unfold insK
  split
  · constructor
    · exact .inl
    · rintro (h | rfl)
      · exact h
      · assumption
  · simp
theorem nodup_insK {κ : Type} [DecidableEq κ] {ks : List κ} {k : κ} (h : ks.Nodup) : (insK ks k).Nodup := by
  unfold insK
  split
  · exact h
  · rw [List.nodup_append]
    exact ⟨h, by simp, fun x hx y hy => by have : y = k := by simpa using hy
                                           rw [this]; rintro rfl; contradiction⟩
def once {κ : Type} [DecidableEq κ] (xs : List κ) : List κ := xs.foldl insK []
theorem mem_foldl_insK {κ : Type} [DecidableEq κ] {x : κ} : ∀ (xs ks : List κ), x ∈ xs.foldl insK ks ↔ x ∈ ks ∨ x ∈ xs
  | [], ks => by simp
  | a :: r, ks => by
    rw [List.foldl_cons, mem_foldl_insK r, mem_insK, List.mem_cons, or_assoc]
theorem mem_once {κ : Type} [DecidableEq κ] {x : κ} {xs : List κ} : x ∈ once xs ↔ x ∈ xs := by simp [once, mem_foldl_insK]
theorem len_foldl_insK {κ : Type} [DecidableEq κ] : ∀ (xs ks : List κ), (xs.foldl insK ks).length ≤ ks.length + xs.length
  | [], ks => by simp
  | a :: r, ks => by
    have := len_foldl_insK r (insK ks a)
    have h : (insK ks a).length ≤ ks.length + 1 := by unfold insK; split <;> simp
    simp only [List.foldl_cons, List.length_cons]
    omega
theorem len_once {κ : Type} [DecidableEq κ] (xs : List κ) : (once xs).length ≤ xs.length := by have := len_foldl_insK xs ([] : List κ); unfold once; simpa using this
theorem compL_ty {g : Va → En → LH → Res En} {t : En → LH → Res Bool} {f : EF} {env : En} {L : LH} {α : Type} (enc : α → Va) (p : α → Bool) (h : α → Va) : ∀ (xs : List α),
    (∀ x ∈ xs, ∃ env1, g (enc x) env L = .ok env1 L ∧ t env1 L = .ok (p x) L ∧ (p x = true → f env1 L = .ok (h x) L)) →
    compL g t f (xs.map enc) env L = .ok ((xs.filter p).map h) L
  | [], _ => rfl
  | x :: xs, k => by
    obtain ⟨env1, e1, e2, e3⟩ := k x List.mem_cons_self
    have ih := compL_ty (g := g) (t := t) (f := f) (env := env) (L := L) enc p h xs fun y hy => k y (List.mem_cons_of_mem _ hy)
    rw [List.map_cons]
    unfold compL
    rw [e1]
    simp only [e2]
    cases hp : p x with
    | true => simp [e3 hp, ih, hp]
    | false => simp [ih, hp]
theorem fComp_ty {s : Srcf} {g : Va → En → LH → Res En} {t : En → LH → Res Bool} {f : EF} {vs : List Nat} {env : En} {L : LH} {α : Type} (enc : α → Va) (p : α → Bool) (h : α → Va) (xs : List α)
    (hs : s env L = .ok (xs.map enc, none) L) (hz : xs.length ≤ sizeLine) (k : ∀ x ∈ xs, ∃ env1, g (enc x) (wipeE env vs) L = .ok env1 L ∧ t env1 L = .ok (p x) L ∧ (p x = true → f env1 L = .ok (h x) L)) :
    fComp s g t f vs env L = .ok (.lst ((xs.filter p).map h)) L := by
  unfold fComp
  rw [hs]
  simp only [Res.bind_ok, List.length_map, if_pos hz, lockL_none]
  rw [compL_ty enc p h xs k]
  simp
theorem fComp_tym {s : Srcf} {g : Va → En → LH → Res En} {f : EF} {vs : List Nat} {env : En} {L : LH} {α : Type} (enc : α → Va) (h : α → Va) (xs : List α)
    (hs : s env L = .ok (xs.map enc, none) L) (hz : xs.length ≤ sizeLine) (k : ∀ x ∈ xs, ∃ env1, g (enc x) (wipeE env vs) L = .ok env1 L ∧ f env1 L = .ok (h x) L) :
    fComp s g tTrue f vs env L = .ok (.lst (xs.map h)) L := by
  have := fComp_ty (s := s) (g := g) (t := tTrue) (f := f) (vs := vs) (env := env) (L := L) enc (fun _ => true) h xs hs hz fun x hx => by
    obtain ⟨e, h1, h2⟩ := k x hx
    exact ⟨e, h1, rfl, fun _ => h2⟩
  rwa [List.filter_eq_self.mpr (fun _ _ => rfl)] at this
theorem srcR1_int {fs : En → LH → Res (List Va)} {i : Int} {env : En} {L L1 : LH} (h : fs env L = .ok [.d (.int i)] L1) (rg : -4611686018427387904 ≤ i ∧ i < 4611686018427387904) : srcR1 fs env L = .ok (rngV 0 i.toNat, none) L1 := by
  simp [h, rg]
theorem srcR1_nat {fs : En → LH → Res (List Va)} {n : Nat} {env : En} {L L1 : LH} (h : fs env L = .ok [.d (.int (n : Int))] L1) (hn : n ≤ sizeLine + 1) : srcR1 fs env L = .ok (rngV 0 n, none) L1 := by
  have hs : sizeLine = 16777216 := sizeLine_eq
  have := srcR1_int h ⟨by omega, by omega⟩
  rwa [Int.toNat_natCast] at this
end L2.HW
namespace L2.HW.G
def Pth (E : Int → Int → Prop) : Int → List Int → Int → Prop
  | x, [], y => x = y
  | x, z :: l, y => E x z ∧ Pth E z l y
section
variable {E : Int → Int → Prop}
theorem pth_app : ∀ {l m : List Int} {x y z : Int}, Pth E x l y → Pth E y m z → Pth E x (l ++ m) z
  | [], _, _, _, _, h, k => by cases h; exact k
  | _ :: _, _, _, _, _, ⟨h1, h2⟩, k => ⟨h1, pth_app h2 k⟩
theorem pth_split : ∀ {l m : List Int} {x z : Int}, Pth E x (l ++ m) z → ∃ y, Pth E x l y ∧ Pth E y m z
  | [], _, x, _, h => ⟨x, rfl, h⟩
  | _ :: _, _, _, _, ⟨h1, h2⟩ => by
    obtain ⟨y, a, b⟩ := pth_split h2
    exact ⟨y, ⟨h1, a⟩, b⟩
theorem pth_last : ∀ {l : List Int} {x y : Int}, Pth E x l y → l ≠ [] → ∃ i, l = i ++ [y]
  | [], _, _, _, h => absurd rfl h
  | [z], _, _, ⟨_, h⟩, _ => by cases h; exact ⟨[], rfl⟩
  | z :: a :: l, _, _, ⟨_, h⟩, _ => by
    obtain ⟨i, e⟩ := pth_last h (by simp)
    exact ⟨z :: i, by rw [e]; rfl⟩
theorem pth_at {l : List Int} {x y q : Int} (h : Pth E x l y) (hq : q ∈ l) : ∃ l1 l2, l = l1 ++ l2 ∧ Pth E x l1 q ∧ Pth E q l2 y ∧ l1 ≠ [] := by
  obtain ⟨a, b, e⟩ := List.append_of_mem hq
  have e2 : l = (a ++ [q]) ++ b := by rw [e]; simp
  rw [e2] at h
  obtain ⟨q', h1, h2⟩ := pth_split h
  obtain ⟨i, e3⟩ := pth_last h1 (by simp)
  obtain ⟨_, e4⟩ := List.append_inj' e3 rfl
  have : q = q' := by simpa using e4
  subst this
  exact ⟨a ++ [q], b, e2, h1, h2, by simp⟩
theorem pth_mono {F : Int → Int → Prop} (k : ∀ x y, E x y → F x y) : ∀ {l : List Int} {x y : Int}, Pth E x l y → Pth F x l y
  | [], _, _, h => h
  | _ :: _, _, _, ⟨h1, h2⟩ => ⟨k _ _ h1, pth_mono k h2⟩
variable {ρ : Int → Nat} (hρ : ∀ x y, E x y → ρ x < ρ y)
include hρ
theorem rk_mem : ∀ {l : List Int} {x y : Int}, Pth E x l y → ∀ q ∈ l, ρ x < ρ q
  | [], _, _, _, _, hq => nomatch hq
  | z :: l, x, y, ⟨h1, h2⟩, q, hq => by
    have := hρ _ _ h1
    rcases List.mem_cons.mp hq with rfl | hq
    · exact this
    · have := rk_mem h2 q hq; omega
theorem rk_end {l : List Int} {x y : Int} (h : Pth E x l y) : ρ x ≤ ρ y ∧ (l ≠ [] → ρ x < ρ y) := by
  by_cases e : l = []
  · subst e; cases h; exact ⟨Nat.le_refl _, fun z => absurd rfl z⟩
  · obtain ⟨i, e2⟩ := pth_last h e
    have := rk_mem hρ h y (by rw [e2]; simp)
    exact ⟨by omega, fun _ => this⟩
theorem rk_le : ∀ {l : List Int} {x y : Int}, Pth E x l y → ∀ q ∈ l, ρ q ≤ ρ y
  | [], _, _, _, _, hq => nomatch hq
  | z :: l, x, y, ⟨h1, h2⟩, q, hq => by
    rcases List.mem_cons.mp hq with rfl | hq
    · exact (rk_end hρ h2).1
    · exact rk_le h2 q hq
theorem rk_lt {l : List Int} {x y : Int} (h : Pth E x l y) : ∀ q ∈ l.dropLast, ρ q < ρ y := fun q hq => by
  have hm := List.dropLast_subset l hq
  obtain ⟨l1, l2, e, h1, h2, n⟩ := pth_at h hm
  have := rk_end hρ h2
  refine this.2 fun e2 => ?_
  have : Pth E q l2 y := h2
  rw [e2] at this
  obtain rfl : q = y := this
  subst e2
  rw [List.append_nil] at e
  obtain ⟨i, e3⟩ := pth_last h (by rintro rfl; cases hm)
  rw [e3, List.dropLast_concat] at hq
  -- q twice
  obtain ⟨a, b, e4⟩ := List.append_of_mem hq
  have h5 : Pth E x (a ++ q :: (b ++ [q])) q := by rw [e3, e4] at h; simpa using h
  obtain ⟨q', h6, h7⟩ := pth_split h5
  have := rk_mem hρ h7.2 q (by simp)
  omega
theorem pth_nodup : ∀ {l : List Int} {x y : Int}, Pth E x l y → (x :: l).Nodup
  | [], _, _, _ => by simp
  | z :: l, x, y, h => by
    have ih := pth_nodup h.2
    refine List.nodup_cons.mpr ⟨fun hm => ?_, ih⟩
    have := rk_mem hρ h x hm
    omega
end
structure Cr (E : Int → Int → Prop) (b e : Int) (S A1 A2 R1 R2 B Q : List Int) (w x v z : Int) : Prop where
  s : Pth E b S w
  a1 : Pth E w A1 x
  a2 : Pth E x A2 v
  r1 : Pth E v R1 z
  r2 : Pth E z R2 e
  pb : Pth E w B v
  pq : Pth E x Q z
  n1 : A1 ≠ []
  n2 : A2 ≠ []
  n3 : R1 ≠ []
  nd : (b :: (S ++ A1 ++ A2 ++ R1 ++ R2 ++ B.dropLast ++ Q.dropLast)).Nodup
def Crosses (E : Int → Int → Prop) (b e : Int) : Prop := ∃ S A1 A2 R1 R2 B Q w x v z, Cr E b e S A1 A2 R1 R2 B Q w x v z
end L2.HW.G
namespace L2.HW.G
section
variable {E : Int → Int → Prop}
theorem last_mem {l : List Int} {x y : Int} (h : Pth E x l y) : y ∈ x :: l := by
  by_cases e : l = []
  · subst e; cases h; simp
  · obtain ⟨i, rfl⟩ := pth_last h e
    simp
variable {b e : Int} {ρ : Int → Nat} (hρ : ∀ x y, E x y → ρ x < ρ y) (reach : ∀ x y, E x y → (∃ l, Pth E b l x) ∧ ∃ l, Pth E y l e)
  (irr : ∀ x, x ≠ b → x ≠ e → ∀ a c, E a x → E x c → (∃ a', a' ≠ a ∧ E a' x) ∨ ∃ c', c' ≠ c ∧ E x c')
include hρ reach
include irr
end
end L2.HW.G
namespace L2.HW.G
structure Short (E E' : Int → Int → Prop) (p a c : Int) : Prop where
  inn : ∀ x, E x p → x = a
  out : ∀ y, E p y → y = c
  keep : ∀ x y, E x y → x ≠ p → y ≠ p → E' x y
  new : E' a c
  ea : E a p
  ec : E p c
section
variable {E E' : Int → Int → Prop} {p a c : Int} {ρ : Int → Nat} (hρ : ∀ x y, E x y → ρ x < ρ y) (sh : Short E E' p a c)
include hρ sh
theorem sh_ne : a ≠ p ∧ c ≠ p := by
  have h1 := hρ _ _ sh.ea
  have h2 := hρ _ _ sh.ec
  exact ⟨fun z => by rw [z] at h1; omega, fun z => by rw [z] at h2; omega⟩
theorem contract : ∀ (n : Nat) {l : List Int} {x y : Int}, l.length ≤ n → Pth E x l y → x ≠ p → y ≠ p → Pth E' x (l.filter (fun q => decide (q ≠ p))) y
  | 0, l, x, y, hn, h, _, _ => by
    have : l = [] := List.length_eq_zero_iff.mp (by omega)
    subst this
    exact h
  | n + 1, [], x, y, hn, h, _, _ => h
  | n + 1, z :: l, x, y, hn, ⟨h1, h2⟩, hx, hy => by
    obtain ⟨_, cp⟩ := sh_ne hρ sh
    simp only [List.length_cons] at hn
    by_cases zp : z = p
    · rw [zp] at h1 h2
      have xa := sh.inn x h1
      rw [List.filter_cons_of_neg (by simp [zp])]
      cases l with
      | nil => exact absurd (show p = y from h2).symm hy
      | cons z' l' =>
        have zc := sh.out z' h2.1
        have h3 := h2.2
        rw [zc] at h3
        simp only [List.length_cons] at hn
        rw [zc, List.filter_cons_of_pos (by simpa using cp), xa]
        exact ⟨sh.new, contract n (by omega) h3 cp hy⟩
    · rw [List.filter_cons_of_pos (by simpa using zp)]
      exact ⟨sh.keep x z h1 hx zp, contract n (by omega) h2 zp hy⟩
end
theorem head_step {E : Int → Int → Prop} {x y : Int} {l : List Int} (h : Pth E x l y) (n : l ≠ []) : ∃ d t, l = d :: t ∧ E x d := by
  cases l with
  | nil => exact absurd rfl n
  | cons d t => exact ⟨d, t, rfl, h.1⟩
theorem last_step {E : Int → Int → Prop} {x y : Int} {l : List Int} (h : Pth E x l y) (n : l ≠ []) : ∃ d, d ∈ x :: l.dropLast ∧ E d y := by
  obtain ⟨i, rfl⟩ := pth_last h n
  obtain ⟨d, h1, h2⟩ := pth_split h
  rw [List.dropLast_concat]
  exact ⟨d, last_mem h1, h2.1⟩
theorem last_in {E : Int → Int → Prop} {x y : Int} {l : List Int} (h : Pth E x l y) (n : l ≠ []) : y ∈ l := by
  obtain ⟨i, rfl⟩ := pth_last h n
  simp
theorem filter_last {p y : Int} {l : List Int} {E : Int → Int → Prop} {x : Int} (h : Pth E x l y) (hy : y ≠ p) : (l.filter fun q => decide (q ≠ p)).dropLast = l.dropLast.filter fun q => decide (q ≠ p) := by
  by_cases n : l = []
  · subst n; rfl
  · obtain ⟨i, rfl⟩ := pth_last h n
    rw [List.filter_append, List.dropLast_concat, List.filter_cons_of_pos (by simpa using hy)]
    simp
theorem nd_two {l m n : List Int} {q : Int} (h : (l ++ m ++ n).Nodup) (h1 : q ∈ l) (h2 : q ∈ n) : False := by
  rw [List.nodup_append] at h
  exact h.2.2 q (List.mem_append_left _ h1) q h2 rfl
theorem cr_contract {E E' : Int → Int → Prop} {p a c b e : Int} {ρ : Int → Nat} (hρ : ∀ x y, E x y → ρ x < ρ y) (sh : Short E E' p a c) (hb : b ≠ p) (he : e ≠ p) (h : Crosses E b e) : Crosses E' b e := by
  obtain ⟨S, A1, A2, R1, R2, B, Q, w, x, v, z, C⟩ := h
  have r1 := (rk_end hρ C.a1).2 C.n1
  have r2 := (rk_end hρ C.a2).2 C.n2
  have r3 := (rk_end hρ C.r1).2 C.n3
  have nB : B ≠ [] := by rintro rfl; have : w = v := C.pb; subst this; omega
  have nQ : Q ≠ [] := by rintro rfl; have : x = z := C.pq; subst this; omega
  have nd := (List.nodup_cons.mp C.nd).2
  have xA := last_in C.a1 C.n1
  have vA := last_in C.a2 C.n2
  have zR := last_in C.r1 C.n3
  -- pairs of parts
  have dA1A2 : ∀ q, q ∈ A1 → q ∈ A2 → False := fun q h1 h2 => by
    have : ((S ++ A1) ++ [] ++ A2).Nodup := by
      simp only [List.append_nil]
      exact List.Nodup.sublist (by simp only [List.append_assoc]; exact (List.Sublist.refl S).append ((List.Sublist.refl A1).append (List.sublist_append_left A2 _))) nd
    exact nd_two this (List.mem_append_right _ h1) h2
  have dP : ∀ q, q ∈ A1 ∨ q ∈ A2 ∨ q ∈ R1 → (q ∈ B.dropLast ∨ q ∈ Q.dropLast) → False := fun q h1 h2 => by
    have nd2 : ((S ++ A1 ++ A2 ++ R1 ++ R2) ++ [] ++ (B.dropLast ++ Q.dropLast)).Nodup := by simpa using nd
    refine nd_two (q := q) nd2 ?_ (List.mem_append.mpr h2)
    simp only [List.mem_append]
    rcases h1 with h | h | h
    · exact .inl (.inl (.inl (.inr h)))
    · exact .inl (.inl (.inr h))
    · exact .inl (.inr h)
  have dA2R1 : ∀ q, q ∈ A2 → q ∈ R1 → False := fun q h1 h2 => by
    have := rk_le hρ C.a2 q h1
    have := rk_mem hρ C.r1 q h2
    omega
  have inB : ∀ q, q ∈ B → q = v ∨ q ∈ B.dropLast := fun q hq => by
    obtain ⟨i, rfl⟩ := pth_last C.pb nB
    rw [List.dropLast_concat]
    rcases List.mem_append.mp hq with h | h
    · exact .inr h
    · exact .inl (by simpa using h)
  have inQ : ∀ q, q ∈ Q → q = z ∨ q ∈ Q.dropLast := fun q hq => by
    obtain ⟨i, rfl⟩ := pth_last C.pq nQ
    rw [List.dropLast_concat]
    rcases List.mem_append.mp hq with h | h
    · exact .inr h
    · exact .inl (by simpa using h)
  have wp : w ≠ p := by
    rintro rfl
    obtain ⟨d1, t1, e1, h1⟩ := head_step C.a1 C.n1
    obtain ⟨d2, t2, e2, h2⟩ := head_step C.pb nB
    have := sh.out _ h1
    have := sh.out _ h2
    have hd : d2 = d1 := by omega
    have m1 : d1 ∈ A1 := by rw [e1]; simp
    have m2 : d1 ∈ B := by rw [e2, hd]; simp
    rcases inB d1 m2 with h | h
    · exact dA1A2 d1 m1 (h ▸ vA)
    · exact dP d1 (.inl m1) (.inl h)
  have xp : x ≠ p := by
    rintro rfl
    obtain ⟨d1, t1, e1, h1⟩ := head_step C.a2 C.n2
    obtain ⟨d2, t2, e2, h2⟩ := head_step C.pq nQ
    have := sh.out _ h1
    have := sh.out _ h2
    have hd : d2 = d1 := by omega
    have m1 : d1 ∈ A2 := by rw [e1]; simp
    have m2 : d1 ∈ Q := by rw [e2, hd]; simp
    rcases inQ d1 m2 with h | h
    · exact dA2R1 d1 m1 (h ▸ zR)
    · exact dP d1 (.inr (.inl m1)) (.inr h)
  have vp : v ≠ p := by
    rintro rfl
    obtain ⟨d1, m1, h1⟩ := last_step C.a2 C.n2
    obtain ⟨d2, m2, h2⟩ := last_step C.pb nB
    have := sh.inn _ h1
    have := sh.inn _ h2
    have hd : d2 = d1 := by omega
    subst hd
    have rx : ρ x ≤ ρ d2 := by
      rcases List.mem_cons.mp m1 with h | h
      · rw [h]; exact Nat.le_refl _
      · exact Nat.le_of_lt (rk_mem hρ C.a2 d2 (List.dropLast_subset _ h))
    rcases List.mem_cons.mp m2 with h | h
    · rw [h] at rx; omega
    · rcases List.mem_cons.mp m1 with h' | h'
      · exact dP d2 (.inl (h' ▸ xA)) (.inl h)
      · exact dP d2 (.inr (.inl (List.dropLast_subset _ h'))) (.inl h)
  have zp : z ≠ p := by
    rintro rfl
    obtain ⟨d1, m1, h1⟩ := last_step C.r1 C.n3
    obtain ⟨d2, m2, h2⟩ := last_step C.pq nQ
    have := sh.inn _ h1
    have := sh.inn _ h2
    have hd : d2 = d1 := by omega
    subst hd
    have rx : ρ v ≤ ρ d2 := by
      rcases List.mem_cons.mp m1 with h | h
      · rw [h]; exact Nat.le_refl _
      · exact Nat.le_of_lt (rk_mem hρ C.r1 d2 (List.dropLast_subset _ h))
    rcases List.mem_cons.mp m2 with h | h
    · rw [h] at rx; omega
    · rcases List.mem_cons.mp m1 with h' | h'
      · exact dP d2 (.inr (.inl (h' ▸ vA))) (.inr h)
      · exact dP d2 (.inr (.inr (List.dropLast_subset _ h'))) (.inr h)
  have ne : ∀ {l : List Int} {q : Int}, q ∈ l → q ≠ p → (l.filter fun q => decide (q ≠ p)) ≠ [] := fun {l q} h n hh => by
    have : q ∈ l.filter fun q => decide (q ≠ p) := List.mem_filter.mpr ⟨h, by simpa using n⟩
    rw [hh] at this
    cases this
  have con := fun {l : List Int} {x y : Int} (h : Pth E x l y) (hx : x ≠ p) (hy : y ≠ p) => contract hρ sh l.length (Nat.le_refl _) h hx hy
  refine ⟨_, _, _, _, _, _, _, w, x, v, z, con C.s hb wp, con C.a1 wp xp, con C.a2 xp vp, con C.r1 vp zp, con C.r2 zp he, con C.pb wp vp, con C.pq xp zp, ne xA xp, ne vA vp, ne zR zp, ?_⟩
  rw [filter_last C.pb vp, filter_last C.pq zp]
  have : b :: ((S.filter fun q => decide (q ≠ p)) ++ (A1.filter fun q => decide (q ≠ p)) ++ (A2.filter fun q => decide (q ≠ p)) ++ (R1.filter fun q => decide (q ≠ p)) ++ (R2.filter fun q => decide (q ≠ p)) ++ (B.dropLast.filter fun q => decide (q ≠ p)) ++ (Q.dropLast.filter fun q => decide (q ≠ p))) = (b :: (S ++ A1 ++ A2 ++ R1 ++ R2 ++ B.dropLast ++ Q.dropLast)).filter fun q => decide (q ≠ p) := by
    rw [List.filter_cons_of_pos (by simpa using hb)]
    simp only [List.filter_append]
  rw [this]
  exact List.Nodup.sublist List.filter_sublist C.nd
end L2.HW.G
namespace L2.HW.G
def stp : Int → List Int → List (Int × Int)
  | _, [] => []
  | x, z :: l => (x, z) :: stp z l
end L2.HW.G
namespace L2.HW
open PySem PySem.Spec PyProof.Rows
structure BF (γ Arc : Type) where
  tl : Arc → Int
  hd : Arc → Int
  ext : γ → Arc → γ
  le : γ → γ → Bool
structure BF.Ok {γ Arc : Type} (B : BF γ Arc) : Prop where
  refl : ∀ x, B.le x x = true
  trans : ∀ {x y z}, B.le x y = true → B.le y z = true → B.le x z = true
  total : ∀ x y, B.le x y = true ∨ B.le y x = true
  mono : ∀ {x y} a, B.le x y = true → B.le (B.ext x a) (B.ext y a) = true
namespace BF
variable {γ Arc : Type} (B : BF γ Arc)
def rel (ks : List (Int × γ)) (a : Arc) : List (Int × γ) := match alook ks (B.tl a) with
  | none => ks
  | some x => match alook ks (B.hd a) with
    | none => aput ks (B.hd a) (B.ext x a)
    | some y => if B.le y (B.ext x a) then ks else aput ks (B.hd a) (B.ext x a)
def round (A : List Arc) (ks : List (Int × γ)) : List (Int × γ) := A.foldl B.rel ks
def run (A : List Arc) : Nat → List (Int × γ) → List (Int × γ)
  | 0, ks => ks
  | n + 1, ks => run A n (B.round A ks)
def Low (ks ks' : List (Int × γ)) : Prop := ∀ k y, alook ks k = some y → ∃ y', alook ks' k = some y' ∧ B.le y' y = true
def pth (A : List Arc) : Int → List Arc → Int → Prop
  | a, [], b => a = b
  | a, c :: p, b => c ∈ A ∧ B.tl c = a ∧ pth A (B.hd c) p b
def ev (z : γ) (p : List Arc) : γ := p.foldl B.ext z
variable {B}
theorem Low.refl (o : B.Ok) (ks : List (Int × γ)) : B.Low ks ks := fun _ y h => ⟨y, h, o.refl y⟩
theorem Low.trans (o : B.Ok) {a b c : List (Int × γ)} (h : B.Low a b) (k : B.Low b c) : B.Low a c := fun j y e => by
  obtain ⟨y1, e1, l1⟩ := h j y e
  obtain ⟨y2, e2, l2⟩ := k j y1 e1
  exact ⟨y2, e2, o.trans l2 l1⟩
theorem pth_app {A : List Arc} {b c : Int} {q : List Arc} : ∀ {p : List Arc} {a : Int}, B.pth A a p b → B.pth A b q c → B.pth A a (p ++ q) c
  | [], _, h, k => by cases h; exact k
  | x :: p, a, ⟨h1, h2, h3⟩, k => ⟨h1, h2, pth_app h3 k⟩
end BF
namespace BF
variable {γ Arc : Type} {B : BF γ Arc}
end BF
end L2.HW
namespace L2.HW
open PySem PySem.Spec PyProof.Rows
@[simp] theorem at_0 {α : Type} (a : α) (l : List α) : atI (a :: l) 0 = some a := by simp [atI, ixN]
@[simp] theorem at_1 {α : Type} (a b : α) (l : List α) : atI (a :: b :: l) 1 = some b := by
  have : (1 : Int) < l.length + 1 + 1 := by omega
  simp [atI, ixN, this]
@[simp] theorem at_2 {α : Type} (a b c : α) (l : List α) : atI (a :: b :: c :: l) 2 = some c := by
  have : (2 : Int) < l.length + 1 + 1 + 1 := by omega
  simp [atI, ixN, this]
@[simp] theorem at_3 {α : Type} (a b c d : α) (l : List α) : atI (a :: b :: c :: d :: l) 3 = some d := by
  have : (3 : Int) < l.length + 1 + 1 + 1 + 1 := by omega
  simp [atI, ixN, this]
structure Rd where
  u : Int
  v : Int
  l : Int
  w : Int
deriving DecidableEq, Repr
def Rd.d (r : Rd) : PyData := .tuple [.int r.u, .int r.v, .int r.l, .int r.w]
structure Wb where
  m : Int
  b : Int
  e : Int
  rs : List Rd
deriving DecidableEq, Repr
def Wb.d (W : Wb) : PyData := .tuple [.int W.m, .int W.b, .int W.e, .tuple (W.rs.map Rd.d)]
theorem keys_aput {γ : Type} (s : List (Int × γ)) (k : Int) (v : γ) : (aput s k v).map (·.1) = insK (s.map (·.1)) k := by
  unfold aput tIx.aput insK
  by_cases h : s.any (fun kv => decide (kv.1 = k)) = true
  · rw [if_pos h, if_pos (by
      obtain ⟨x, hx, hk⟩ := List.any_eq_true.mp h
      exact List.mem_map.mpr ⟨x, hx, of_decide_eq_true hk⟩), List.map_map]
    refine List.map_congr_left fun p _ => ?_
    simp only [Function.comp]
    split <;> rfl
  · rw [if_neg h, if_neg (by
      intro hm
      obtain ⟨x, hx, hk⟩ := List.mem_map.mp hm
      exact h (List.any_eq_true.mpr ⟨x, hx, decide_eq_true hk⟩)), List.map_append]
    rfl
def PlKeys {γ : Type} (m : Int) (s : List (Int × γ)) : Prop := (s.map (·.1)).Nodup ∧ ∀ k ∈ s.map (·.1), 0 ≤ k ∧ k < m
theorem PlKeys.put {γ : Type} {m : Int} {s : List (Int × γ)} (h : PlKeys m s) {k : Int} (h0 : 0 ≤ k) (h1 : k < m) (v : γ) : PlKeys m (aput s k v) := by
  unfold PlKeys
  rw [keys_aput]
  refine ⟨nodup_insK h.1, fun x hx => ?_⟩
  rcases mem_insK.mp hx with hx | rfl
  · exact h.2 x hx
  · exact ⟨h0, h1⟩
def frO (fr : List Int) : Ob := .lst (fr.map fun x => Va.d (.int x))
end L2.HW
namespace L2.HW
open PySem PySem.Spec PyProof.Rows
end L2.HW
namespace L2.HW
open PySem PySem.Spec PyProof.Rows
abbrev nI (p : List Nat) : List PyData := p.map fun i : Nat => .int (i : Int)
end L2.HW
namespace L2.HW
open PySem PySem.Spec PyProof.Rows
abbrev Hw := Int × Int × List Nat
def Hw.d (h : Hw) : PyData := .tuple [.int h.1, .int h.2.1, .tuple (nI h.2.2)]
end L2.HW
namespace L2.HW
open PySem PySem.Spec PyProof.Rows
end L2.HW
namespace L2.HW
open PySem PySem.Spec PyProof.Rows
abbrev Row := Int × Int
def Row.d (r : Row) : PyData := .tuple [.int r.1, .int r.2]
theorem log_of {x : Int} {k : Nat} (hk : 0 < k) (h : x.natAbs < 2 ^ k) : x.natAbs.log2 < k := by
  by_cases z : x.natAbs = 0
  · rw [z]; exact hk
  · exact (Nat.log2_lt z).mpr h
end L2.HW
namespace L2.HW.G
open PySem
inductive Tr where
  | rd (i : Nat)
  | nd (w : Bool) (ts : List Tr)
mutual
def Tr.d : Tr → PyData
  | .rd i => .int i
  | .nd w ts => .tuple [.str (if w then "behind" else "beside"), .tuple (Tr.ds ts)]
def Tr.ds : List Tr → List PyData
  | [] => []
  | t :: ts => t.d :: Tr.ds ts
end
mutual
/-- the roads of one way through a tree -/
def rin : Tr → List Nat
  | .rd i => [i]
  | .nd w ts => if w then rins ts else rin1 ts
def rins : List Tr → List Nat
  | [] => []
  | t :: ts => rin t ++ rins ts
def rin1 : List Tr → List Nat
  | [] => []
  | t :: _ => rin t
end
theorem ds_map : ∀ ts : List Tr, Tr.ds ts = ts.map Tr.d
  | [] => by simp [Tr.ds]
  | t :: ts => by rw [Tr.ds, ds_map ts]; rfl
structure Ed where
  u : Int
  v : Int
  t : Tr
def Ed.k (d : Ed) : Int × Int := (d.u, d.v)
abbrev Grp := List ((Int × Int) × List Tr)
def addG (g : Grp) (d : Ed) : Grp := if g.any (fun x => decide (x.1 = d.k)) then g.map (fun x => if x.1 = d.k then (x.1, x.2 ++ [d.t]) else x) else g ++ [(d.k, [d.t])]
def besT : List Tr → Tr
  | [t] => t
  | ts => .nd false ts
def mkE (x : (Int × Int) × List Tr) : Ed := ⟨x.1.1, x.1.2, besT x.2⟩
def mergeE (es : List Ed) : List Ed := (es.foldl addG []).map mkE
def inE (es : List Ed) (p : Int) : List Ed := es.filter fun d => decide (d.v = p)
def outE (es : List Ed) (p : Int) : List Ed := es.filter fun d => decide (d.u = p)
def shortAt (es : List Ed) (p : Int) : Option (List Ed) := match inE es p, outE es p with
  | [x], [y] => some ((es.filter fun d => decide (d.v ≠ p) && decide (d.u ≠ p)) ++ [⟨x.u, y.v, .nd true [x.t, y.t]⟩])
  | _, _ => none
end L2.HW.G
namespace L2.HW.G
open PySem
abbrev Prs := List (Int × Int)
def vsR (ps : Prs) (is : List Nat) : List Int := is.map fun i => ((ps[i]?).map Prod.snd).getD 0
def adjP (ps : Prs) (x y : Int) : Prop := (x, y) ∈ ps
def inn (ps : Prs) (t : Tr) : List Int := (vsR ps (rin t)).dropLast
end L2.HW.G
namespace L2.HW.G
open PySem
end L2.HW.G
namespace L2.HW
abbrev Pr := Int × Int
inductive Rch (ps : List Pr) : Int → Int → Prop
  | refl (x : Int) : Rch ps x x
  | step {x y z : Int} : Rch ps x y → (y, z) ∈ ps → Rch ps x z
theorem Rch.trans {ps : List Pr} {x y z : Int} (h : Rch ps x y) (k : Rch ps y z) : Rch ps x z := by
  induction k with
  | refl => exact h
  | step _ e ih => exact .step ih e
theorem Rch.one {ps : List Pr} {x y : Int} (h : (x, y) ∈ ps) : Rch ps x y := .step (.refl x) h
theorem Rch.mono {ps qs : List Pr} (hs : ∀ p ∈ ps, p ∈ qs) {x y : Int} (h : Rch ps x y) : Rch qs x y := by
  induction h with
  | refl => exact .refl _
  | step _ e ih => exact .step ih (hs _ e)
def reach1 (ps : List Pr) (ks : List Int) : List Int := ps.foldl (fun ks p => if p.1 ∈ ks then insK ks p.2 else ks) ks
theorem reach1_sub {ps : List Pr} : ∀ {ks : List Int} {x : Int}, x ∈ ks → x ∈ reach1 ps ks := by
  induction ps with
  | nil => intro ks x h; exact h
  | cons p r ih =>
    intro ks x h
    unfold reach1
    rw [List.foldl_cons]
    refine ih ?_
    split
    · exact mem_insK.mpr (.inl h)
    · exact h
theorem reach1_len {ps : List Pr} : ∀ {ks : List Int}, ks.length ≤ (reach1 ps ks).length := by
  induction ps with
  | nil => intro ks; exact Nat.le_refl _
  | cons p r ih =>
    intro ks
    unfold reach1
    rw [List.foldl_cons]
    refine Nat.le_trans ?_ ih
    split
    · unfold insK; split <;> simp
    · exact Nat.le_refl _
theorem reach1_nodup {ps : List Pr} : ∀ {ks : List Int}, ks.Nodup → (reach1 ps ks).Nodup := by
  induction ps with
  | nil => intro ks h; exact h
  | cons p r ih =>
    intro ks h
    unfold reach1
    rw [List.foldl_cons]
    refine ih ?_
    split
    · exact nodup_insK h
    · exact h
theorem reach1_eq {ps : List Pr} : ∀ {ks : List Int}, (reach1 ps ks).length = ks.length → (reach1 ps ks = ks ∧ ∀ p ∈ ps, p.1 ∈ ks → p.2 ∈ ks) := by
  induction ps with
  | nil => intro ks _; exact ⟨rfl, fun _ h => nomatch h⟩
  | cons p r ih =>
    intro ks h
    unfold reach1 at h ⊢
    rw [List.foldl_cons] at h ⊢
    have l1 := reach1_len (ps := r) (ks := if p.1 ∈ ks then insK ks p.2 else ks)
    unfold reach1 at l1
    by_cases h1 : p.1 ∈ ks
    · rw [if_pos h1] at h l1 ⊢
      by_cases h2 : p.2 ∈ ks
      · have e : insK ks p.2 = ks := by unfold insK; rw [if_pos h2]
        rw [e] at h ⊢
        obtain ⟨e1, e2⟩ := ih h
        refine ⟨e1, fun q hq => ?_⟩
        rcases List.mem_cons.mp hq with rfl | hq
        · exact fun _ => h2
        · exact e2 q hq
      · have e : (insK ks p.2).length = ks.length + 1 := by unfold insK; rw [if_neg h2]; simp
        omega
    · rw [if_neg h1] at h ⊢
      obtain ⟨e1, e2⟩ := ih h
      refine ⟨e1, fun q hq => ?_⟩
      rcases List.mem_cons.mp hq with rfl | hq
      · exact fun z => absurd z h1
      · exact e2 q hq
theorem reach1_from {ps qs : List Pr} (hs : ∀ p ∈ ps, p ∈ qs) (S : Int → Prop) (hS : ∀ x y, S x → (x, y) ∈ qs → S y) : ∀ {ks : List Int}, (∀ x ∈ ks, S x) → ∀ x ∈ reach1 ps ks, S x := by
  induction ps with
  | nil => intro ks h; exact h
  | cons p r ih =>
    intro ks h
    unfold reach1
    rw [List.foldl_cons]
    refine ih (fun q hq => hs q (List.mem_cons_of_mem _ hq)) fun x hx => ?_
    split at hx
    · rcases mem_insK.mp hx with hx | rfl
      · exact h x hx
      · exact hS _ _ (h _ (by assumption)) (hs p List.mem_cons_self)
    · exact h x hx
def reachN (ps : List Pr) : Nat → List Int → List Int
  | 0, ks => ks
  | n + 1, ks => if (reach1 ps ks).length = ks.length then ks else reachN ps n (reach1 ps ks)
def room (ps : List Pr) (ks : List Int) : Nat := ((once (ps.map (·.2))).filter fun x => decide (x ∉ ks)).length
theorem filter_len_le {α : Type} {p q : α → Bool} : ∀ {xs : List α}, (∀ x ∈ xs, q x = true → p x = true) → (xs.filter q).length ≤ (xs.filter p).length
  | [], _ => Nat.le_refl _
  | x :: xs, h => by
    have ih := filter_len_le (p := p) (q := q) (xs := xs) fun y hy => h y (List.mem_cons_of_mem _ hy)
    have h0 := h x List.mem_cons_self
    cases hq : q x <;> cases hp : p x <;> simp [hq, hp] <;> first | omega | (rw [hq] at h0; simp [hp] at h0)
theorem filter_len_lt {α : Type} {p q : α → Bool} {a : α} : ∀ {xs : List α}, a ∈ xs → p a = true → q a = false → (∀ x ∈ xs, q x = true → p x = true) → (xs.filter q).length < (xs.filter p).length
  | x :: xs, ha, hp, hq, h => by
    rcases List.mem_cons.mp ha with rfl | ha
    · have := filter_len_le (p := p) (q := q) (xs := xs) fun y hy => h y (List.mem_cons_of_mem _ hy)
      simp [hp, hq]; omega
    · have ih := filter_len_lt ha hp hq fun y hy => h y (List.mem_cons_of_mem _ hy)
      have h0 := h x List.mem_cons_self
      cases hq' : q x <;> cases hp' : p x <;> simp [hq', hp'] <;> first | omega | (rw [hq'] at h0; simp [hp'] at h0)
theorem reach1_new {ps qs : List Pr} (hs : ∀ p ∈ ps, p ∈ qs) : ∀ {ks : List Int}, (reach1 ps ks).length ≠ ks.length → ∃ p ∈ ps, p.2 ∉ ks ∧ p.2 ∈ reach1 ps ks := by
  induction ps with
  | nil => intro ks h; exact absurd rfl h
  | cons p r ih =>
    intro ks h
    unfold reach1 at h ⊢
    rw [List.foldl_cons] at h ⊢
    by_cases h1 : p.1 ∈ ks
    · rw [if_pos h1] at h ⊢
      by_cases h2 : p.2 ∈ ks
      · have e : insK ks p.2 = ks := by unfold insK; rw [if_pos h2]
        rw [e] at h ⊢
        obtain ⟨q, hq, h3, h4⟩ := ih (fun q hq => hs q (List.mem_cons_of_mem _ hq)) h
        exact ⟨q, List.mem_cons_of_mem _ hq, h3, h4⟩
      · exact ⟨p, List.mem_cons_self, h2, reach1_sub (mem_insK.mpr (.inr rfl))⟩
    · rw [if_neg h1] at h ⊢
      obtain ⟨q, hq, h3, h4⟩ := ih (fun q hq => hs q (List.mem_cons_of_mem _ hq)) h
      exact ⟨q, List.mem_cons_of_mem _ hq, h3, h4⟩
theorem room_lt {ps : List Pr} {ks : List Int} (h : (reach1 ps ks).length ≠ ks.length) : room ps (reach1 ps ks) < room ps ks := by
  obtain ⟨p, hp, h1, h2⟩ := reach1_new (fun _ h => h) h
  refine filter_len_lt (a := p.2) (mem_once.mpr (List.mem_map_of_mem hp)) (decide_eq_true h1) (by simpa using h2) fun x _ hx => ?_
  simp only [decide_eq_true_eq] at hx ⊢
  exact fun z => hx (reach1_sub z)
theorem room_le (ps : List Pr) (ks : List Int) : room ps ks ≤ ps.length := by
  have h1 := List.length_filter_le (fun x => decide (x ∉ ks)) (once (ps.map (·.2)))
  have h2 := len_once (ps.map (·.2))
  simp only [List.length_map] at h2
  unfold room
  omega
def reach (ps : List Pr) (ks : List Int) : List Int := reachN ps ps.length ks
theorem reachN_closed {ps : List Pr} : ∀ {n : Nat} {ks : List Int}, room ps ks ≤ n → (∀ x ∈ ks, x ∈ reachN ps n ks) ∧ (∀ p ∈ ps, p.1 ∈ reachN ps n ks → p.2 ∈ reachN ps n ks) ∧ (ks.Nodup → (reachN ps n ks).Nodup) ∧ (reach1 ps (reachN ps n ks)).length = (reachN ps n ks).length
  | 0, ks, h => by
    have e : (reach1 ps ks).length = ks.length := by
      by_cases z : (reach1 ps ks).length = ks.length
      · exact z
      · have := room_lt z; omega
    exact ⟨fun x h => h, (reach1_eq e).2, fun h => h, e⟩
  | n + 1, ks, h => by
    unfold reachN
    by_cases z : (reach1 ps ks).length = ks.length
    · rw [if_pos z]
      exact ⟨fun x h => h, (reach1_eq z).2, fun h => h, z⟩
    · rw [if_neg z]
      have hz := room_lt z
      obtain ⟨h1, h2, h3, h4⟩ := reachN_closed (ps := ps) (n := n) (ks := reach1 ps ks) (by omega)
      exact ⟨fun x hx => h1 x (reach1_sub hx), h2, fun hn => h3 (reach1_nodup hn), h4⟩
theorem reachN_from {ps : List Pr} (S : Int → Prop) (hS : ∀ x y, S x → (x, y) ∈ ps → S y) : ∀ {n : Nat} {ks : List Int}, (∀ x ∈ ks, S x) → ∀ x ∈ reachN ps n ks, S x
  | 0, ks, h => h
  | n + 1, ks, h => by
    unfold reachN
    split
    · exact h
    · exact reachN_from S hS (reach1_from (fun _ h => h) S hS h)
theorem mem_reach {ps : List Pr} {ks : List Int} {y : Int} : y ∈ reach ps ks ↔ ∃ x ∈ ks, Rch ps x y := by
  obtain ⟨h1, h2, _⟩ := reachN_closed (ps := ps) (n := ps.length) (ks := ks) (room_le ps ks)
  constructor
  · exact reachN_from (fun y => ∃ x ∈ ks, Rch ps x y) (fun x y ⟨a, ha, r⟩ e => ⟨a, ha, .step r e⟩) (fun x hx => ⟨x, hx, .refl x⟩) y
  · rintro ⟨x, hx, r⟩
    induction r with
    | refl => exact h1 x hx
    | step _ e ih => exact h2 _ e ih
def Rnd (ps : List Pr) : Prop := ∃ p ∈ ps, Rch ps p.2 p.1
def roundB (ps : List Pr) : Bool := ps.any fun p => decide (p.1 ∈ reach ps [p.2])
theorem roundB_iff {ps : List Pr} : roundB ps = true ↔ Rnd ps := by
  unfold roundB Rnd
  simp [List.any_eq_true, mem_reach]
def Acy (ps : List Pr) : Prop := ∃ r : Int → Int, ∀ p ∈ ps, r p.1 < r p.2
theorem Acy.noRnd {ps : List Pr} (h : Acy ps) : ¬ Rnd ps := by
  obtain ⟨r, hr⟩ := h
  have le : ∀ x y, Rch ps x y → r x ≤ r y := fun x y h => by
    induction h with
    | refl => exact Int.le_refl _
    | step _ e ih => have := hr _ e; exact Int.le_trans ih (Int.le_of_lt this)
  rintro ⟨p, hp, k⟩
  have h1 := le _ _ k
  have h2 := hr p hp
  omega
def ends (ps : List Pr) : List Int := once (ps.map (·.1) ++ ps.map (·.2))
theorem mem_ends {ps : List Pr} {p : Pr} (h : p ∈ ps) : p.1 ∈ ends ps ∧ p.2 ∈ ends ps := by
  unfold ends
  rw [mem_once, mem_once]
  exact ⟨List.mem_append_left _ (List.mem_map_of_mem (f := (·.1)) h), List.mem_append_right _ (List.mem_map_of_mem (f := (·.2)) h)⟩
def later (ps : List Pr) (x : Int) : Nat := ((ends ps).filter fun z => decide (z ∈ reach ps [x])).length
theorem later_lt {ps : List Pr} (h : ¬ Rnd ps) {x y : Int} (e : (x, y) ∈ ps) : later ps y < later ps x := by
  refine filter_len_lt (xs := ends ps) (a := x) (p := fun z => decide (z ∈ reach ps [x])) (q := fun z => decide (z ∈ reach ps [y])) (mem_ends e).1 (decide_eq_true (mem_reach.mpr ⟨x, by simp, .refl x⟩)) (decide_eq_false fun z => ?_) fun z _ hz => ?_
  · obtain ⟨a, ha, r⟩ := mem_reach.mp z
    have : a = y := by simpa using ha
    subst this
    exact h ⟨_, e, r⟩
  · obtain ⟨a, ha, r⟩ := mem_reach.mp (of_decide_eq_true hz)
    have : a = y := by simpa using ha
    subst this
    exact decide_eq_true (mem_reach.mpr ⟨x, by simp, (Rch.one e).trans r⟩)
theorem acy_iff {ps : List Pr} : Acy ps ↔ ¬ Rnd ps :=
  ⟨Acy.noRnd, fun h => ⟨fun x => - (later ps x : Int), fun p hp => by have := later_lt h (show (p.1, p.2) ∈ ps from hp); show - (later ps p.1 : Int) < - (later ps p.2 : Int); omega⟩⟩
theorem roundB_acy {ps : List Pr} : roundB ps = false ↔ Acy ps := by
  rw [acy_iff, ← roundB_iff, Bool.not_eq_true]
end L2.HW
namespace L2.HW
open PySem PySem.Spec PyProof.Rows
def wholeB : PyData → Bool
  | .int i => decide (0 ≤ i)
  | _ => false
def fromB (l : Int) : PyData → Bool
  | .int i => decide (l ≤ i)
  | _ => false
def placeB (m : Int) : PyData → Bool
  | .int i => decide (0 ≤ i) && decide (i < m)
  | _ => false
@[simp] theorem F_is_whole_eq (x : PyData) (L : LH) : F_is_whole [.d x] L = .ok (.d (.bool (wholeB x))) L := by
  cases x <;> simp [F_is_whole, b_is_whole, mkFn, Va.kind, isKind, opGe, wholeB]
@[simp] theorem F_l_whole_eq (x : PyData) (L : LH) : F_l_whole [.d x] L = .ok (.d (.bool (match x with | .int _ => true | _ => false))) L := by
  cases x <;> simp [F_l_whole, b_l_whole, mkFn, Va.kind, isKind]
@[simp] theorem F_is_more_eq (x : PyData) (L : LH) : F_is_more [.d x] L = .ok (.d (.bool (fromB 1 x))) L := by
  cases x with
  | int i =>
    simp [F_is_more, b_is_more, mkFn, wholeB, opGt, fromB]
    by_cases h : 0 ≤ i
    · simp [h]; omega
    · simp [h]; omega
  | _ => simp [F_is_more, b_is_more, mkFn, wholeB, fromB]
@[simp] theorem F_is_place_eq (m : Int) (x : PyData) (L : LH) : F_is_place [.d (.int m), .d x] L = .ok (.d (.bool (placeB m x))) L := by
  cases x with
  | int i =>
    simp [F_is_place, b_is_place, mkFn, wholeB, placeB]
    by_cases h : 0 ≤ i <;> simp [h]
  | _ => simp [F_is_place, b_is_place, mkFn, wholeB, placeB]
@[simp] theorem F_l_is_from_eq (l : Int) (x : PyData) (L : LH) : F_l_is_from [.d x, .d (.int l)] L = .ok (.d (.bool (fromB l x))) L := by
  cases x <;> simp [F_l_is_from, b_l_is_from, mkFn, fromB, opGe]
@[simp] theorem F_l_is_place_eq (m : Int) (x : PyData) (L : LH) : F_l_is_place [.d (.int m), .d x] L = .ok (.d (.bool (placeB m x))) L := by
  cases x with
  | int i =>
    simp [F_l_is_place, b_l_is_place, mkFn, fromB, placeB]
    by_cases h : 0 ≤ i <;> simp [h]
  | _ => simp [F_l_is_place, b_l_is_place, mkFn, fromB, placeB]
def roadB (m e : Int) : PyData → Bool
  | .tuple [.int u, .int v, .int l, .int w] => decide (0 ≤ u) && decide (u < m) && (decide (0 ≤ v) && decide (v < m)) && !decide (u = v) && !decide (u = e) && decide (1 ≤ l) && decide (1 ≤ w)
  | _ => false
theorem placeB_int {m : Int} {x : PyData} (h : placeB m x = true) : ∃ i, x = .int i := by
  cases x <;> simp [placeB] at h ⊢
theorem shaped_int (i : Int) : SeqAt.shaped (.int i) = true := by simp [SeqAt.shaped, PyData.canLay0, PyData.depth]
theorem four_some {xs : List PyData} (h : xs.length = 4) : ∃ a b c d, xs = [a, b, c, d] := by
  match xs, h with
  | [a, b, c, d], _ => exact ⟨a, b, c, d, rfl⟩
theorem roadB_tup {m e : Int} {xs : List PyData} (h : xs.length ≠ 4) : roadB m e (.tuple xs) = false := by
  unfold roadB
  split
  · rename_i h2; cases h2; simp at h
  · rfl
theorem roadB_4 {m e : Int} (u v l w : PyData) : roadB m e (.tuple [u, v, l, w]) = (placeB m u && placeB m v && !PyData.eqv u v && !PyData.eqv u (.int e) && fromB 1 l && fromB 1 w) := by
  cases u <;> first | rfl | skip
  cases v <;> first | simp [roadB, placeB]
  cases l <;> first | simp [roadB, fromB]
  cases w <;> first | simp [roadB, fromB]
  rename_i u v l w
  simp [roadB, placeB, fromB, eqv_int]
@[simp] theorem F_is_road_eq (m e : Int) (x : PyData) (L : LH) : F_is_road [.d (.int m), .d (.int e), .d x] L = .ok (.d (.bool (roadB m e x))) L := by
  cases x with
  | tuple xs =>
    by_cases h : xs.length = 4
    · obtain ⟨u, v, l, w, rfl⟩ := four_some h
      rw [roadB_4]
      simp [F_is_road, b_is_road, mkFn, Va.kind, isKind, shaped_int, eqv_int]
      by_cases h1 : placeB m u
      · obtain ⟨u, rfl⟩ := placeB_int h1
        by_cases h2 : placeB m v
        · obtain ⟨v, rfl⟩ := placeB_int h2
          by_cases h3 : u = v <;> by_cases h4 : u = e <;> by_cases h5 : fromB 1 l <;> simp [h1, h2, shaped_int, eqv_int, h3, h4, h5]
          all_goals (try subst h3) <;> simp_all
        · simp [h1, h2]
      · simp [h1]
    · rw [roadB_tup h]
      have h' : ¬ ((xs.length : Int) = 4) := by omega
      simp [F_is_road, b_is_road, mkFn, Va.kind, isKind, shaped_int, eqv_int, h, h']
  | _ => simp [F_is_road, b_is_road, mkFn, Va.kind, isKind, roadB]
@[simp] theorem F_l_is_road_eq (m e : Int) (x : PyData) (L : LH) : F_l_is_road [.d (.int m), .d (.int e), .d x] L = .ok (.d (.bool (roadB m e x))) L := by
  cases x with
  | tuple xs =>
    by_cases h : xs.length = 4
    · obtain ⟨u, v, l, w, rfl⟩ := four_some h
      rw [roadB_4]
      simp [F_l_is_road, b_l_is_road, mkFn, Va.kind, isKind, shaped_int, eqv_int]
      by_cases h1 : placeB m u
      · obtain ⟨u, rfl⟩ := placeB_int h1
        by_cases h2 : placeB m v
        · obtain ⟨v, rfl⟩ := placeB_int h2
          by_cases h3 : u = v <;> by_cases h4 : u = e <;> by_cases h5 : fromB 1 l <;> simp [h1, h2, shaped_int, eqv_int, h3, h4, h5]
          all_goals (try subst h3) <;> simp_all
        · simp [h1, h2]
      · simp [h1]
    · rw [roadB_tup h]
      have h' : ¬ ((xs.length : Int) = 4) := by omega
      simp [F_l_is_road, b_l_is_road, mkFn, Va.kind, isKind, shaped_int, eqv_int, h, h']
  | _ => simp [F_l_is_road, b_l_is_road, mkFn, Va.kind, isKind, roadB]
def webB : PyData → Bool
  | .tuple [.int m, b, e, .tuple rs] => decide (2 ≤ m) && placeB m b && placeB m e && !PyData.eqv b e && match e with
    | .int e => rs.all (roadB m e)
    | _ => false
  | _ => false
theorem cAll_map (rs : List PyData) (p : PyData → Bool) (L : LH) : cAll [.d (.list (rs.map fun x => .bool (p x)))] L = .ok (.d (.bool (rs.all p))) L := by
  have e : boolsOf ((rs.map fun x => PyData.bool (p x)).map Va.d) = some (rs.map p) := by
    induction rs with
    | nil => rfl
    | cons a r ih => simp only [List.map_cons, boolsOf, ih]; rfl
  have e2 : Va.items L (.d (.list (rs.map fun x => .bool (p x)))) = some ((rs.map fun x => PyData.bool (p x)).map Va.d) := rfl
  simp only [cAll, one, e2, e]
  congr 3
  rw [List.all_map]
  rfl
end L2.HW
namespace L2.HW
open PySem PySem.Spec PyProof.Rows
abbrev dP (p : Pr) : PyData := .tuple [.int p.1, .int p.2]
abbrev tt : Va := .d (.bool true)
theorem app_get {L : LH} {o : Option Ob} : (L ++ [o])[L.length]? = some o := by simp
end L2.HW
namespace L2.HW
open PySem PySem.Spec PyProof.Rows
def pairB (m e : Int) : PyData → Bool
  | .tuple [.int u, .int v] => decide (0 ≤ u) && decide (u < m) && (decide (0 ≤ v) && decide (v < m)) && !decide (u = v) && !decide (u = e)
  | _ => false
def prOf : PyData → Pr
  | .tuple [.int u, .int v] => (u, v)
  | _ => (0, 0)
theorem pairB_tup {m e : Int} {xs : List PyData} (h : xs.length ≠ 2) : pairB m e (.tuple xs) = false := by
  unfold pairB
  split
  · rename_i h2; cases h2; simp at h
  · rfl
theorem two_some {xs : List PyData} (h : xs.length = 2) : ∃ a b, xs = [a, b] := by
  match xs, h with
  | [a, b], _ => exact ⟨a, b, rfl⟩
theorem pairB_2 {m e : Int} (u v : PyData) : pairB m e (.tuple [u, v]) = (placeB m u && placeB m v && !PyData.eqv u v && !PyData.eqv u (.int e)) := by
  cases u <;> first | rfl | skip
  cases v <;> first | simp [pairB, placeB]
  rename_i u v
  simp [pairB, placeB, eqv_int]
@[simp] theorem F_is_pair_eq (m e : Int) (x : PyData) (L : LH) : F_is_pair [.d (.int m), .d (.int e), .d x] L = .ok (.d (.bool (pairB m e x))) L := by
  cases x with
  | tuple xs =>
    by_cases h : xs.length = 2
    · obtain ⟨u, v, rfl⟩ := two_some h
      rw [pairB_2]
      have hc : fComp (srcV (eVar 2)) (tN 3) tTrue (eCall F_is_place (aCons (eVar 0) (aCons (eVar 3) aNil))) [3] [some (.d (.int m)), some (.d (.int e)), some (.d (.tuple [u, v])), none] L = .ok (.lst [.d (.bool (placeB m u)), .d (.bool (placeB m v))]) L := by
        rw [fComp_map (xs := [u, v]) (h := fun x => .bool (placeB m x)) (by simp [srcOf]) (by simp [sizeLine_eq]) (fun x _ => ⟨_, rfl, by simp [wipeE]⟩)]
        rfl
      have ha := cAll_map [u, v] (placeB m) L
      simp only [List.map_cons, List.map_nil] at ha
      simp [F_is_pair, b_is_pair, mkFn, Va.kind, isKind, shaped_int, eqv_int, hc, ha]
      by_cases h1 : placeB m u
      · obtain ⟨u, rfl⟩ := placeB_int h1
        by_cases h2 : placeB m v
        · obtain ⟨v, rfl⟩ := placeB_int h2
          simp [h1, h2, shaped_int, eqv_int, Va.seq, atI, ixN]
          by_cases h3 : u = v <;> simp [h3]
        · simp [h1, h2]
      · simp [h1]
    · rw [pairB_tup h]
      have h' : ¬ ((xs.length : Int) = 2) := by omega
      simp [F_is_pair, b_is_pair, mkFn, Va.kind, isKind, shaped_int, eqv_int, h, h']
  | _ => simp [F_is_pair, b_is_pair, mkFn, Va.kind, isKind, pairB]
def shapeB : PyData → Bool
  | .tuple [.int m, b, e, .tuple rs] => decide (2 ≤ m) && placeB m b && placeB m e && !PyData.eqv b e && match e with
    | .int e => rs.all (pairB m e) && !roundB (rs.map prOf)
    | _ => false
  | _ => false
theorem shapeB_4 {m b e r : PyData} : shapeB (.tuple [m, b, e, r]) = (match m, e, r with | .int m, .int e, .tuple rs => decide (2 ≤ m) && placeB m b && placeB m (.int e) && !PyData.eqv b (.int e) && (rs.all (pairB m e) && !roundB (rs.map prOf)) | _, _, _ => false) := by
  cases m <;> try rfl
  cases r <;> try (cases e <;> rfl)
  cases e <;> simp [shapeB]
end L2.HW
namespace L2.HW
open PySem PySem.Spec PyProof.Rows
structure GoodS (top cnt : Int) (m b e : Int) (ps : List Pr) : Prop where
  m2 : 2 ≤ m
  mt : m ≤ top
  b0 : 0 ≤ b
  b1 : b < m
  e0 : 0 ≤ e
  e1 : e < m
  be : b ≠ e
  rd : ∀ p ∈ ps, 0 ≤ p.1 ∧ p.1 < m ∧ 0 ≤ p.2 ∧ p.2 < m ∧ p.1 ≠ e
  len : (ps.length : Int) ≤ cnt
  acy : Acy ps
theorem Acy.ne {ps : List Pr} (h : Acy ps) : ∀ p ∈ ps, p.1 ≠ p.2 := fun p hp e => by
  obtain ⟨r, hr⟩ := h
  have := hr p hp
  rw [e] at this
  exact Int.lt_irrefl _ this
abbrev encS (m b e : Int) (ps : List Pr) : PyData := .tuple [.int m, .int b, .int e, .tuple (ps.map dP)]
theorem GoodS.shapeB {top cnt m b e : Int} {ps : List Pr} (h : GoodS top cnt m b e ps) : shapeB (encS m b e ps) = true := by
  rw [encS, shapeB_4]
  have hp : (ps.map dP).all (pairB m e) = true := by
    rw [List.all_eq_true]
    intro x hx
    obtain ⟨p, hp, rfl⟩ := List.mem_map.mp hx
    have := h.rd p hp
    have hn := h.acy.ne p hp
    simp [pairB, this, hn]
  have hr : (ps.map dP).map prOf = ps := by
    rw [List.map_map]
    exact List.map_id' ps
  simp only [hp, hr, roundB_acy.mpr h.acy]
  simp [placeB, eqv_int, h.m2, h.b0, h.b1, h.e0, h.e1, h.be]
end L2.HW
namespace L2.HW
open PySem PySem.Spec PyProof.Rows
end L2.HW
namespace L2.HW
open PySem PySem.Spec PyProof.Rows
theorem eqv_nil (xs : List PyData) : PyData.eqv (.list xs) (.list []) = xs.isEmpty := by
  cases xs <;> simp [PyData.eqv, PyData.eqvAll]
end L2.HW
namespace L2.HW
open PySem PySem.Spec PyProof.Rows
def GoodRoad (m e : Int) (r : PyData) : Prop := ∃ u v l w : Int, r = .tuple [.int u, .int v, .int l, .int w] ∧ 0 ≤ u ∧ u < m ∧ u ≠ e ∧ 0 ≤ v ∧ v < m ∧ v ≠ u ∧ 1 ≤ l ∧ l ≤ 5 ∧ 1 ≤ w ∧ w ≤ 3
def GoodWeb (top : Int) (w : PyData) : Prop := ∃ (m b e : Int) (rs : List PyData), w = .tuple [.int m, .int b, .int e, .tuple rs] ∧ 2 ≤ m ∧ m ≤ top ∧ 0 ≤ b ∧ b < m ∧ 0 ≤ e ∧ e < m ∧ b ≠ e ∧ rs.length ≤ (2 * m + 1).toNat ∧ ∀ r ∈ rs, GoodRoad m e r
end L2.HW
namespace L2.HW
open PySem PySem.Spec PyProof.Rows
theorem GoodRoad.ok {m e : Int} {r : PyData} (h : GoodRoad m e r) (hm : m ≤ 1000) : fine r = true ∧ r.depth ≤ 1 ∧ r.bulk ≤ 4 ∧ roadB m e r = true := by
  obtain ⟨u, v, l, w, rfl, h⟩ := h
  have lg : ∀ i : Int, 0 ≤ i → i ≤ 1000 → i.natAbs.log2 < 1920 := fun i h0 h1 => by
    have : i.natAbs < 2 ^ 1920 := by
      have : i.natAbs ≤ 1000 := by omega
      exact Nat.lt_of_le_of_lt this (by decide +kernel)
    by_cases z : i.natAbs = 0
    · rw [z]; decide
    · exact (Nat.log2_lt z).mpr this
  have h1 := lg u (by omega) (by omega)
  have h2 := lg v (by omega) (by omega)
  have h3 := lg l (by omega) (by omega)
  have h4 := lg w (by omega) (by omega)
  refine ⟨by simp [fine, fineAll, h1, h2, h3, h4], by simp [PyData.depth, PyData.depthAll], by simp [PyData.bulk, PyData.bulkAll], ?_⟩
  have : ¬ u = v := by omega
  simp [roadB, this]
  omega
theorem GoodWeb.ok {t : Int} {w : PyData} (h : GoodWeb t w) (ht : t ≤ 1000) : Ok 3 (4 + 5 * (2 * t + 1).toNat) w ∧ webB w = true := by
  obtain ⟨m, b, e, rs, rfl, h0, h1, h2, h3, h4, h5, h6, h7, h8⟩ := h
  have lg : ∀ i : Int, 0 ≤ i → i ≤ 1000 → i.natAbs.log2 < 1920 := fun i h0 h1 => by
    have : i.natAbs < 2 ^ 1920 := by
      have : i.natAbs ≤ 1000 := by omega
      exact Nat.lt_of_le_of_lt this (by decide +kernel)
    by_cases z : i.natAbs = 0
    · rw [z]; decide
    · exact (Nat.log2_lt z).mpr this
  have a1 := lg m (by omega) (by omega)
  have a2 := lg b (by omega) (by omega)
  have a3 := lg e (by omega) (by omega)
  have f : fineAll rs = true := fineAll_iff.mpr fun r hr => ((h8 r hr).ok (by omega)).1
  have d : PyData.depthAll rs ≤ 1 := depthAll_le.mpr fun r hr => ((h8 r hr).ok (by omega)).2.1
  have bk : ∀ rs : List PyData, (∀ r ∈ rs, r.bulk ≤ 4) → PyData.bulkAll rs ≤ 5 * rs.length := by
    intro rs
    induction rs with
    | nil => intro _; simp [PyData.bulkAll]
    | cons r rs ih =>
      intro h
      have := h r List.mem_cons_self
      have := ih fun x hx => h x (List.mem_cons_of_mem _ hx)
      simp [PyData.bulkAll]
      omega
  have b1 := bk rs fun r hr => ((h8 r hr).ok (by omega)).2.2.1
  refine ⟨⟨by simp [fine, fineAll, a1, a2, a3, f], by simp [PyData.depth, PyData.depthAll]; omega, by simp [PyData.bulk, PyData.bulkAll]; omega⟩, ?_⟩
  have : rs.all (roadB m e) = true := List.all_eq_true.mpr fun r hr => ((h8 r hr).ok (by omega)).2.2.2
  simp [webB, placeB, eqv_int, this]
  omega
end L2.HW
namespace L2.HW
open PySem PySem.Spec PyProof.Rows
end L2.HW
namespace L2.HW
open PySem PySem.Spec PyProof.Rows
structure Ar where
  u : Int
  v : Int
  c : Int
  i : Nat
  cap : Int
deriving DecidableEq, Repr
def sumW (W : Wb) (h : Rd → Int → Int) (g : List Int) : Int := (List.zipWith h W.rs g).sum
end L2.HW
namespace L2.HW
open PySem PySem.Spec PyProof.Rows
def Pot (W : Wb) (g : List Int) (f : Int → Int) : Prop := ∀ i r, W.rs[i]? = some r → (g.getD i 0 < r.w → f r.v ≤ f r.u + r.l) ∧ (0 < g.getD i 0 → f r.u ≤ f r.v - r.l)
def Wth (W : Wb) (g : List Int) : Prop := g.length = W.rs.length ∧ ∀ i r, W.rs[i]? = some r → 0 ≤ g.getD i 0 ∧ g.getD i 0 ≤ r.w
end L2.HW
namespace L2.HW
open PySem PySem.Spec PyProof.Rows
end L2.HW
namespace L2.HW
open PySem PySem.Spec PyProof.Rows
structure St (W : Wb) (g : List Int) (val last : Int) (f : Int → Int) : Prop where
  wd : Wth W g
  fl : ∀ h : Int → Int, sumW W (fun r x => x * (h r.v - h r.u)) g = val * (h W.e - h W.b)
  pt : Pot W g f
  fb : f W.b = 0
  fe : f W.e = last
  nn : ∀ x, 0 ≤ f x
end L2.HW
namespace L2.HW
open PySem PySem.Spec PyProof.Rows
end L2.HW
namespace L2.HW
open PySem PySem.Spec PyProof.Rows
end L2.HW
namespace L2.HW
open PySem PySem.Spec PyProof.Rows
end L2.HW
namespace L2.HW
open PySem PySem.Spec PyProof.Rows
end L2.HW
namespace L2.HW
open PySem PySem.Spec PyProof.Rows
end L2.HW
namespace L2.HW
open PySem PySem.Spec PyProof.Rows
end L2.HW
namespace L2.HW
open PySem PySem.Spec PyProof.Rows
end L2.HW
namespace L2.HW
open PySem PySem.Spec PyProof.Rows
end L2.HW
namespace L2.HW
open PySem PySem.Spec PyProof.Rows
end L2.HW
namespace L2.HW
open PySem PySem.Spec PyProof.Rows
def wayB (rs : List Rd) (goal : Int) (sub : Int → List Int → List (List Nat)) (here : Int) (bar : List Int) (a : Rd × Nat) : List (List Nat) :=
  if a.1.u = here ∧ a.1.v = goal then [[a.2]] else if a.1.u = here ∧ a.1.v ∉ bar then (sub a.1.v (bar ++ [a.1.v])).map (a.2 :: ·) else []
def wayL (rs : List Rd) (goal : Int) : Nat → Int → List Int → List (List Nat)
  | 0, _, _ => []
  | k + 1, here, bar => rs.zipIdx.flatMap (wayB rs goal (wayL rs goal k) here bar)
end L2.HW
namespace L2.HW
open PySem PySem.Spec PyProof.Rows
def Ar.d (a : Ar) : PyData := .tuple [.int a.u, .int a.v, .int a.c, .int a.i, .int a.cap]
def UsV (L : LH) (u : Va) (g : List Int) : Prop := ∀ e : LH, (∀ i : Int, Va.dget (L ++ e) u (.d (.int i)) = none) ∧ Va.seq (L ++ e) u = some (g.map fun x => Va.d (.int x))
theorem UsV.app {L : LH} {u : Va} {g : List Int} (h : UsV L u g) (x : LH) : UsV (L ++ x) u g := fun e => by rw [List.append_assoc]; exact h _
end L2.HW
namespace L2.HW
open PySem PySem.Spec PyProof.Rows
namespace BF
variable {γ Arc : Type} {B : BF γ Arc}
end BF
structure Lb where
  x : Int
  k : Int
  a : Option Ar
deriving DecidableEq
end L2.HW
namespace L2.HW
open PySem PySem.Spec PyProof.Rows
def arO : Option Ar → PyData
  | none => .none
  | some a => a.d
def Lb.d (l : Lb) : PyData := .tuple [.int l.x, .int l.k, arO l.a]
end L2.HW
namespace L2.HW
open PySem PySem.Spec PyProof.Rows
end L2.HW
namespace L2.HW
open PySem PySem.Spec PyProof.Rows
end L2.HW
namespace L2.HW
open PySem PySem.Spec PyProof.Rows
end L2.HW
namespace L2.HW
open PySem PySem.Spec PyProof.Rows
end L2.HW
namespace L2.HW
open PySem PySem.Spec PyProof.Rows
def Ar.d4 (a : Ar) : PyData := .tuple [.int a.u, .int a.v, .int a.c, .int a.i]
end L2.HW
namespace L2.HW
open PySem PySem.Spec PyProof.Rows
end L2.HW
namespace L2.HW
open PySem PySem.Spec PyProof.Rows
def LM (L : LH) (fr : List Int) (E : List PyData) (pre : List Hw) : LH := L ++ [some (frO fr), some (.lst (E.map Va.d)), some (.lst ((pre.map Hw.d).map Va.d))]
end L2.HW
namespace L2.HW
open PySem PySem.Spec PyProof.Rows
def insA (l : List Int) (x : Int) : List Int := l.take (l.filter fun y => decide (y < x)).length ++ [x] ++ l.drop (l.filter fun y => decide (y < x)).length
def ascA (ns : List Int) : List Int := ns.foldl insA []
end L2.HW
namespace L2.HW
open PySem PySem.Spec PyProof.Rows
def cf (C : List Int) (x : Int) : Int := C.getD x.toNat 0
end L2.HW
namespace L2.HW
open PySem PySem.Spec PyProof.Rows
end L2.HW
namespace L2.HW
open PySem PySem.Spec PyProof.Rows
end L2.HW
namespace L2.HW
open PySem PySem.Spec PyProof.Rows
end L2.HW
namespace L2.HW
open PySem PySem.Spec PyProof.Rows
end L2.HW
namespace L2.HW
open PySem PySem.Spec PyProof.Rows
end L2.HW
namespace L2.HW
open PySem PySem.Spec PyProof.Rows
end L2.HW
namespace L2.HW
open PySem PySem.Spec PyProof.Rows
end L2.HW
namespace L2.HW
open PySem PySem.Spec PyProof.Rows
end L2.HW
namespace L2.HW
open PySem PySem.Spec PyProof.Rows
end L2.HW
namespace L2.HW
open PySem PySem.Spec PyProof.Rows
end L2.HW
namespace L2.HW
open PySem PySem.Spec PyProof.Rows
end L2.HW
namespace L2.HW
open PySem PySem.Spec PyProof.Rows
end L2.HW
namespace L2.HW
open PySem PySem.Spec PyProof.Rows
end L2.HW
namespace L2.HW
open PySem PySem.Spec PyProof.Rows
end L2.HW
namespace L2.HW
open PySem PySem.Spec PyProof.Rows
end L2.HW
namespace L2.HW
open PySem PySem.Spec PyProof.Rows
abbrev Sp1 := Int × Option Int
def GoodA (acc : List Sp1) (b : Int) : Prop := (∀ s ∈ acc, 1 ≤ s.1 ∧ ∃ y, s.2 = some y ∧ s.1 ≤ y ∧ y < b) ∧ acc.Pairwise fun s u => ∃ y, s.2 = some y ∧ y + 2 ≤ u.1
def GoodE (acc : List Sp1) : Prop := (∀ s ∈ acc, 1 ≤ s.1 ∧ ∀ y, s.2 = some y → s.1 ≤ y) ∧ acc.Pairwise fun s u => ∃ y, s.2 = some y ∧ y + 2 ≤ u.1
theorem GoodA.e {acc : List Sp1} {b : Int} (g : GoodA acc b) : GoodE acc := ⟨fun s hs => ⟨(g.1 s hs).1, fun y hy => by
  obtain ⟨_, y', e, h, _⟩ := g.1 s hs
  rw [e] at hy; cases hy; exact h⟩, g.2⟩
end L2.HW
namespace L2.HW
open PySem PySem.Spec PyProof.Rows
end L2.HW
namespace L2.HW
open PySem PySem.Spec PyProof.Rows
end L2.HW
namespace L2.HW
open PySem PySem.Spec PyProof.Rows
end L2.HW
namespace L2.HW
open PySem PySem.Spec PyProof.Rows
def words12 : List Str := ["web", "moment", "number", "road", "cut", "shape", "tree", "notroad", "text", "unlike", "value", "error"]
def ten12 : List Str := ["NoWeb", "NoMoment", "NoNumber", "NoRoad", "NoCut", "NoShape", "NotTree", "NotRoad", "NoText", "Unlike", "ValueError", "HasteError"]
def chosenS (F : Str → Bool) : List Str := ((List.zip words12 (ten12.map F)).filter fun p => p.2).map fun p => p.1
def chosen (F : Str → Bool) : List PyData := (chosenS F).map PyData.str
theorem word_gen {w : Va} {F : Str → Bool} (L : LH) (h : ∀ y ∈ ten12, ∀ env : En, env[0]? = some (some w) → eIsE y (eVar 0) env L = .ok (.d (.bool (F y))) L) {W : Str}
    (hw : (chosen F = [] ∧ W = "") ∨ (chosen F = [.str W, .str "value", .str "error"] ∧ cmpOk (.list [.str W, .str "value", .str "error"]) (.list []) = true)) : F_l_word_of [w] L = .ok (.d (.str W)) L := by
  have hz := sizeLine_eq
  have z6 : 3 + 3 ≤ sizeLine := by omega
  have z9 : 6 + 3 ≤ sizeLine := by omega
  have z12 : 9 + 3 ≤ sizeLine := by omega
  have g1 := fun env he => h "NoWeb" (by decide) env he
  have g2 := fun env he => h "NoMoment" (by decide) env he
  have g3 := fun env he => h "NoNumber" (by decide) env he
  have g4 := fun env he => h "NoRoad" (by decide) env he
  have g5 := fun env he => h "NoCut" (by decide) env he
  have g6 := fun env he => h "NoShape" (by decide) env he
  have g7 := fun env he => h "NotTree" (by decide) env he
  have g8 := fun env he => h "NotRoad" (by decide) env he
  have g9 := fun env he => h "NoText" (by decide) env he
  have g10 := fun env he => h "Unlike" (by decide) env he
  have g11 := fun env he => h "ValueError" (by decide) env he
  have g12 := fun env he => h "HasteError" (by decide) env he
  obtain ⟨S, hS⟩ : ∃ S, S = chosen F := ⟨_, rfl⟩
  rw [← hS] at hw
  obtain ⟨ws, hws⟩ : ∃ ws : List PyData, ws = words12.map PyData.str := ⟨_, rfl⟩
  obtain ⟨fs, hfs⟩ : ∃ fs : List PyData, fs = (ten12.map F).map PyData.bool := ⟨_, rfl⟩
  have hfs' : fs = [.bool (F "NoWeb"), .bool (F "NoMoment"), .bool (F "NoNumber"), .bool (F "NoRoad"), .bool (F "NoCut"), .bool (F "NoShape"), .bool (F "NotTree"), .bool (F "NotRoad"), .bool (F "NoText"), .bool (F "Unlike"), .bool (F "ValueError"), .bool (F "HasteError")] := hfs
  have hws' : ws = [.str "web", .str "moment", .str "number", .str "road", .str "cut", .str "shape", .str "tree", .str "notroad", .str "text", .str "unlike", .str "value", .str "error"] := hws
  have cp := fComp_ty (s := srcZ (aCons (eVar 2) (aCons (eVar 1) aNil))) (g := tTupT 2 (tgCons (tN 4) (tgCons (tN 5) tgNil))) (t := tVal (eVar 5)) (f := eVar 4) (vs := [4, 5]) (env := [some w, some (.d (.list fs)), some (.d (.list ws)), none, none, none]) (L := L) (fun p : Str × Bool => Va.d (.tuple [.str p.1, .bool p.2])) (fun p => p.2) (fun p => Va.d (.str p.1)) (List.zip words12 (ten12.map F))
    (by
      simp [srcZ, srcOf, Va.items]
      rw [hws', hfs']
      rfl) (by rw [List.length_zip]; simp [words12, ten12]; omega)
    (fun p _ => ⟨[some w, some (.d (.list fs)), some (.d (.list ws)), none, some (.d (.str p.1)), some (.d (.bool p.2))], by simp [wipeE], by simp, fun _ => by simp⟩)
  have cS : ((List.zip words12 (ten12.map F)).filter (fun p => p.2)).map (fun p => Va.d (.str p.1)) = S.map Va.d := by rw [hS, chosen, chosenS, List.map_map, List.map_map]; rfl
  rw [cS] at cp
  refine fn_rt (L' := L) rfl ?_
  refine seq_nx (env1 := [some w, some (.d (.list (fs.take 3))), none, none, none, none]) (L1 := L) (by simp [-u_eIsE, g1, g2, g3, hfs', sizeLine_eq]) ?_
  refine seq_nx (env1 := [some w, some (.d (.list (fs.take 6))), none, none, none, none]) (L1 := L) (by simp [-u_eIsE, g4, g5, g6, hfs', sizeLine_eq]) ?_
  refine seq_nx (env1 := [some w, some (.d (.list (fs.take 9))), none, none, none, none]) (L1 := L) (by simp [-u_eIsE, g7, g8, g9, hfs', sizeLine_eq]) ?_
  refine seq_nx (env1 := [some w, some (.d (.list fs)), none, none, none, none]) (L1 := L) (by simp [-u_eIsE, g10, g11, g12, hfs', sizeLine_eq]) ?_
  refine seq_nx (env1 := [some w, some (.d (.list fs)), some (.d (.list ws)), none, none, none]) (L1 := L) (by simp [hws', sizeLine_eq]) ?_
  refine seq_nx (env1 := [some w, some (.d (.list fs)), some (.d (.list ws)), some (.d (.list S)), none, none]) (L1 := L) (by
    rw [u_sSet, u_eDat, cp]
    simp) ?_
  have c0 : cmpOk (.list []) (.list []) = true := by decide
  rcases hw with ⟨rfl, rfl⟩ | ⟨rfl, c2⟩
  · simp [eqv_nil, sizeLine_eq, c0]
  · have q : PyData.eqv (.list [.str "value", .str "error"]) (.list [.str "value", .str "error"]) = true := by decide
    have c1 : cmpOk (.list [.str "value", .str "error"]) (.list [.str "value", .str "error"]) = true := cmpOk_of (by decide +kernel) (by decide +kernel)
    have cu : cutA [Va.d (.str W), Va.d (.str "value"), Va.d (.str "error")] (some 1) none = [Va.d (.str "value"), Va.d (.str "error")] := rfl
    simp [eqv_nil, q, c1, c2, cu, sizeLine_eq]
end L2.HW
namespace L2.HW
open PySem PySem.Spec PyProof.Rows
theorem str_same (s : Str) : PyData.eqv (.str s) (.str s) = true := by simp [PyData.eqv]
theorem str_ok (s t : Str) : cmpOk (.str s) (.str t) = true := by simp [cmpOk, twoStr]
end L2.HW
namespace L2.HW
open PySem PySem.Spec PyProof.Rows
end L2.HW
namespace L2.HW
open PySem PySem.Spec PyProof.Rows
def badOne (x : PyData) : Prop := fine x = true ∧ x.depth ≤ 6 ∧ x.bulk ≤ 100 ∧ webB x = false
instance (x : PyData) : Decidable (badOne x) := by unfold badOne; infer_instance
def rd (a b c d : PyData) : PyData := .tuple [a, b, c, d]
end L2.HW
namespace L2.HW
open PySem PySem.Spec PyProof.Rows
theorem int_ok (i : Int) (h : i.natAbs < 1000) : Ok 0 1 (.int i) := by
  have := log_of (x := i) (k := 10) (by omega) (by omega)
  exact ⟨by simp [fine]; omega, by simp [PyData.depth], by simp [PyData.bulk]⟩
end L2.HW
namespace L2.HW
open PySem PySem.Spec PyProof.Rows
def ext (f : Nat → Bool) (acc : List Row) (w : Nat) : List Row :=
  if f w then (match acc.getLast? with
    | some (a, b) => if b = (w : Int) - 1 then acc.dropLast ++ [(a, (w : Int))] else acc ++ [((w : Int), (w : Int))]
    | none => acc ++ [((w : Int), (w : Int))])
  else acc
end L2.HW
namespace L2.HW
open PySem PySem.Spec PyProof.Rows
def inB (t : Int) : PyData → Bool
  | .int i => decide (0 ≤ i) && decide (i ≤ t + 1)
  | _ => false
end L2.HW
namespace L2.HW
open PySem PySem.Spec PyProof.Rows
end L2.HW
namespace L2.HW
open PySem PySem.Spec PyProof.Rows
end L2.HW
namespace L2.HW
open PySem PySem.Spec PyProof.Rows
end L2.HW
namespace L2.HW
open PySem PySem.Spec PyProof.Rows
end L2.HW
namespace L2.HW
open PySem PySem.Spec PyProof.Rows L2.HW.G
def G.Ed.d (x : Ed) : PyData := .tuple [.int x.u, .int x.v, x.t.d]
end L2.HW
namespace L2.HW
open PySem PySem.Spec PyProof.Rows L2.HW.G
end L2.HW
namespace L2.HW
open PySem PySem.Spec PyProof.Rows L2.HW.G
def wt (es : List Ed) : Nat := (es.map fun d => d.t.d.depth + 2).sum
structure WE (es : List Ed) : Prop where
  fin : ∀ d ∈ es, fine d.d = true
  wt : wt es ≤ 58
theorem wt_mem {es : List Ed} {d : Ed} (h : d ∈ es) : d.t.d.depth + 2 ≤ wt es := by
  unfold wt
  induction es with
  | nil => cases h
  | cons a r ih =>
    rw [List.map_cons, List.sum_cons]
    rcases List.mem_cons.mp h with rfl | h
    · omega
    · have := ih h; omega
theorem ed_depth (d : Ed) : d.d.depth = d.t.d.depth + 1 := by
  simp [Ed.d, PyData.depth, PyData.depthAll]
theorem WE.dep {es : List Ed} (h : WE es) : ∀ d ∈ es, d.d.depth ≤ 57 := fun d hd => by
  have := wt_mem hd
  have := h.wt
  rw [ed_depth]
  omega
theorem WE.sh {es : List Ed} (h : WE es) : ∀ d ∈ es, SeqAt.shaped d.d = true := fun d hd => shaped_of (h.fin d hd) (by have := h.dep d hd; omega)
end L2.HW
namespace L2.HW
open PySem PySem.Spec PyProof.Rows L2.HW.G
end L2.HW
namespace L2.HW
open PySem PySem.Spec PyProof.Rows L2.HW.G
end L2.HW
namespace L2.HW
open PySem PySem.Spec PyProof.Rows L2.HW.G
def cnt1 (ps : List Pr) (b e : Int) (p : Pr) : Bool := decide (p.1 ∈ reach ps [b]) && decide (p.2 ∈ reach (ps.map Prod.swap) [e])
def cntL (ps : List Pr) (b e : Int) : List Nat := (ps.zipIdx.filter fun a => cnt1 ps b e a.1).map (·.2)
end L2.HW
namespace L2.HW
open PySem PySem.Spec PyProof.Rows L2.HW.G
theorem rank_ex {ps : List Pr} (h : Acy ps) : ∃ ρ : Int → Nat, ∀ x y, (x, y) ∈ ps → ρ x < ρ y := by
  obtain ⟨r, hr⟩ := h
  obtain ⟨B, hB⟩ : ∃ B : Int, ∀ p ∈ ps, B ≤ r p.1 := by
    clear hr
    induction ps with
    | nil => exact ⟨0, by simp⟩
    | cons p ps ih =>
      obtain ⟨B, hB⟩ := ih
      refine ⟨min B (r p.1), fun q hq => ?_⟩
      rcases List.mem_cons.mp hq with rfl | hq
      · omega
      · have := hB q hq; omega
  refine ⟨fun x => (r x - B).toNat, fun x y h => ?_⟩
  have h1 : r x < r y := hr (x, y) h
  have h2 : B ≤ r x := hB (x, y) h
  show (r x - B).toNat < (r y - B).toNat
  omega
def ed0 (ps : List Pr) (i : Nat) : Ed := match ps[i]? with
  | some p => ⟨p.1, p.2, .rd i⟩
  | none => ⟨0, 0, .rd i⟩
def es0 (ps : List Pr) (b e : Int) : List Ed := (cntL ps b e).map (ed0 ps)
end L2.HW
namespace L2.HW
open PySem PySem.Spec PyProof.Rows L2.HW.G
end L2.HW
namespace L2.HW
open PySem PySem.Spec PyProof.Rows L2.HW.G
def wo (ps : List Pr) (C : List Nat) : List Pr := (ps.zipIdx.filter fun a => decide (a.2 ∉ C)).map (·.1)
abbrev tN' (l : List Nat) : PyData := .tuple (l.map fun i : Nat => PyData.int (i : Int))
theorem mem_wo {ps : List Pr} {C : List Nat} {p : Pr} : p ∈ wo ps C ↔ ∃ i, ps[i]? = some p ∧ i ∉ C := by
  unfold wo
  simp only [List.mem_map, List.mem_filter, decide_eq_true_eq]
  constructor
  · rintro ⟨a, ⟨h1, h2⟩, rfl⟩
    exact ⟨a.2, List.mem_zipIdx_iff_getElem?.mp h1, h2⟩
  · rintro ⟨i, h1, h2⟩
    exact ⟨(p, i), ⟨List.mem_zipIdx_iff_getElem?.mpr h1, h2⟩, rfl⟩
theorem wo_sub {ps : List Pr} {C : List Nat} : ∀ p ∈ wo ps C, p ∈ ps := fun p h => by
  obtain ⟨i, h1, _⟩ := mem_wo.mp h
  exact List.mem_of_getElem? h1
theorem wo_len (ps : List Pr) (C : List Nat) : (wo ps C).length ≤ ps.length := by
  unfold wo
  rw [List.length_map]
  exact Nat.le_trans (List.length_filter_le _ _) (by rw [List.length_zipIdx]; exact Nat.le_refl _)
theorem wo_acy {ps : List Pr} (h : Acy ps) (C : List Nat) : Acy (wo ps C) := by
  obtain ⟨r, hr⟩ := h
  exact ⟨r, fun p hp => hr p (wo_sub p hp)⟩
end L2.HW
namespace L2.HW
open PySem PySem.Spec PyProof.Rows L2.HW.G
def chs : Nat → List Nat → List (List Nat)
  | 0, _ => [[]]
  | _ + 1, [] => []
  | n + 1, x :: l => (chs n l).map (x :: ·) ++ chs (n + 1) l
abbrev cell (F : List (List Nat)) : Option Ob := some (.lst ((F.map tN').map Va.d))
end L2.HW
namespace L2.HW
open PySem PySem.Spec PyProof.Rows L2.HW.G
structure Sh (m b e : Int) (ps : List Pr) : Prop where
  top : ∃ t c, GoodS t c m b e ps
  m1 : m ≤ 1000000
  len : ps.length ≤ 20
theorem Sh.be {m b e : Int} {ps : List Pr} (h : Sh m b e ps) : b ≠ e := by obtain ⟨t, c, g⟩ := h.top; exact g.be
theorem Sh.ac {m b e : Int} {ps : List Pr} (h : Sh m b e ps) : Acy ps := by obtain ⟨t, c, g⟩ := h.top; exact g.acy
theorem fine_small {i : Int} (h0 : 0 ≤ i) (h1 : i ≤ 1000000) : fine (.int i) = true := by
  have : i.natAbs.log2 < 1920 := by
    by_cases z : i.natAbs = 0
    · rw [z]; decide
    · rw [Nat.log2_lt z]
      exact Nat.lt_of_le_of_lt (show i.natAbs ≤ 1000000 by omega) (by decide +kernel)
  simpa [fine] using this
theorem Sh.fin {m b e : Int} {ps : List Pr} (h : Sh m b e ps) : ∀ p ∈ ps, fine (.int p.1) = true ∧ fine (.int p.2) = true := fun p hp => by
  obtain ⟨t, c, g⟩ := h.top
  have := g.rd p hp
  have := h.m1
  exact ⟨fine_small (by omega) (by omega), fine_small (by omega) (by omega)⟩
end L2.HW
namespace L2.HW
open PySem PySem.Spec PyProof.Rows L2.HW.G
end L2.HW
namespace L2.HW
open PySem PySem.Spec PyProof.Rows L2.HW.G
abbrev rD (r : List Ed) : PyData := .list (r.map Ed.d)
end L2.HW
namespace L2.HW
open PySem PySem.Spec PyProof.Rows
end L2.HW
namespace L2.HW
open PySem PySem.Spec PyProof.Rows L2.HW.G
end L2.HW
namespace L2.HW
open PySem PySem.Spec PyProof.Rows L2.HW.G
def rdP (p : Pr) : Rd := ⟨p.1, p.2, 1, 1⟩
end L2.HW
namespace L2.HW
open PySem PySem.Spec PyProof.Rows L2.HW.G
structure ShL (m b e : Int) (ps : List Pr) : Prop where
  sh : Sh m b e ps
  len : ps.length ≤ 16
  m1 : m ≤ 60
abbrev wy (ps : List Pr) (x y : Int) (bar : List Int) : List (List Nat) := wayL (ps.map rdP) y 70 x bar
end L2.HW
namespace L2.HW
open PySem PySem.Spec PyProof.Rows L2.HW.G
end L2.HW
namespace L2.HW
open PySem PySem.Spec PyProof.Rows L2.HW.G
theorem cut_last {α : Type} (xs : List α) : cutA xs none (some (-1)) = xs.dropLast := by
  unfold cutA
  rw [HT.sIx_none, Nat.sub_zero, List.drop_zero, List.dropLast_eq_take]
  congr 1
  show (if (-1 : Int) < 0 then (-1 + (xs.length : Int)).toNat else min (-1 : Int).toNat xs.length) = xs.length - 1
  rw [if_pos (by omega)]
  omega
def apart (xs ys : List Int) : Bool := xs.all fun x => decide (x ∉ ys)
def brB (ps : List Pr) (pl : List Int) (w v x z : Int) : Bool := (wy ps w v pl).any fun p => (wy ps x z pl).any fun q => apart (vsR ps p).dropLast (vsR ps q).dropLast
end L2.HW
namespace L2.HW
open PySem PySem.Spec PyProof.Rows L2.HW.G
def inV (r : List Ed) : List Int := (r.map Ed.v).dropLast
def DtR : Type := List Ed × List Ed × Nat × Nat
def DtR.d (r : DtR) : PyData := .tuple [rD r.1, rD r.2.1, .int (r.2.2.1 : Nat), .int (r.2.2.2 : Nat)]
end L2.HW
namespace L2.HW
open PySem PySem.Spec PyProof.Rows L2.HW.G
end L2.HW
namespace L2.HW
open PySem PySem.Spec PyProof.Rows L2.HW.G
abbrev CrR := List Ed × DtR
def CrR.d (c : CrR) : PyData := .tuple [rD c.1, rD c.2.1, rD c.2.2.1, .int (c.2.2.2.1 : Nat), .int (c.2.2.2.2 : Nat)]
mutual
def tok : Tr → Bool
  | .rd _ => true
  | .nd _ ts => !ts.isEmpty && toks ts
def toks : List Tr → Bool
  | [] => true
  | t :: ts => tok t && toks ts
end
end L2.HW
namespace L2.HW
open PySem PySem.Spec PyProof.Rows L2.HW.G
def c4 (ps : List Pr) (pl : List Int) (j k i l : Nat) : Bool := brB ps pl (pl.getD i 0) (pl.getD k 0) (pl.getD j 0) (pl.getD l 0)
def c3 (ps : List Pr) (pl : List Int) (j k i : Nat) : Bool := (List.range' (k + 1) (pl.length - (k + 1))).any (c4 ps pl j k i)
def c2 (ps : List Pr) (pl : List Int) (j k : Nat) : Bool := (List.range' 0 (j - 0)).any (c3 ps pl j k)
def c1 (ps : List Pr) (pl : List Int) (j : Nat) : Bool := (List.range' (j + 1) ((pl.length - 1) - (j + 1))).any (c2 ps pl j)
def c0 (ps : List Pr) (pl : List Int) : Bool := (List.range' 1 (pl.length - 1)).any (c1 ps pl)
end L2.HW
namespace L2.HW
open PySem PySem.Spec PyProof.Rows L2.HW.G
end L2.HW
namespace L2.HW
open PySem PySem.Spec PyProof.Rows L2.HW.G
def EP (es : List Ed) : Int → List Ed → Int → Prop
  | x, [], y => x = y
  | x, d :: r, y => d ∈ es ∧ d.u = x ∧ EP es d.v r y
end L2.HW
namespace L2.HW
open PySem PySem.Spec PyProof.Rows L2.HW.G
def ra (row : List Ed) : List Nat := row.flatMap fun d => rin d.t
end L2.HW
namespace L2.HW
open PySem PySem.Spec PyProof.Rows L2.HW.G
end L2.HW
namespace L2.HW
open PySem PySem.Spec PyProof.Rows L2.HW.G
end L2.HW
namespace L2.HW
open PySem PySem.Spec PyProof.Rows L2.HW.G
end L2.HW
namespace L2.HW
open PySem PySem.Spec PyProof.Rows L2.HW.G
end L2.HW
namespace L2.HW
open PySem PySem.Spec PyProof.Rows L2.HW.G
end L2.HW
namespace L2.HW
open PySem PySem.Spec PyProof.Rows L2.HW.G
theorem ShL.wo {m b e : Int} {ps : List Pr} (h : ShL m b e ps) (C : List Nat) : ShL m b e (wo ps C) := by
  obtain ⟨t, c, g⟩ := h.sh.top
  have wl := wo_len ps C
  have len := h.len
  refine ⟨⟨⟨t, c, ⟨g.m2, g.mt, g.b0, g.b1, g.e0, g.e1, g.be, fun p hp => g.rd p (wo_sub p hp), by have := g.len; omega, wo_acy g.acy C⟩⟩, h.sh.m1, by omega⟩, by omega, h.m1⟩
end L2.HW
namespace L2.HW
open PySem PySem.Spec PyProof.Rows L2.HW.G
end L2.HW
namespace L2.HW
open PySem PySem.Spec PyProof.Rows L2.HW.G
def joinB (ps : List Pr) : List Nat → Bool
  | i :: j :: r => decide ((ps.getD i (0, 0)).2 = (ps.getD j (0, 0)).1) && joinB ps (j :: r)
  | _ => true
def mid (xs : List Int) : List Int := (xs.drop 1).dropLast
end L2.HW
namespace L2.HW
open PySem PySem.Spec PyProof.Rows L2.HW.G
def gtP (ps : List Pr) (k : Nat) : Pr := ps.getD k (0, 0)
def joinQ (Q : List Pr) : Bool := (Q.zip (Q.drop 1)).all fun p => decide (p.1.2 = p.2.1)
theorem join_eq (ps : List Pr) : ∀ is : List Nat, joinB ps is = joinQ (is.map (gtP ps))
  | [] => rfl
  | [i] => rfl
  | i :: j :: r => by
    have ih := join_eq ps (j :: r)
    unfold joinB
    rw [ih]
    unfold joinQ
    simp [gtP]
end L2.HW
namespace L2.HW
open PySem PySem.Spec PyProof.Rows L2.HW.G
end L2.HW
namespace L2.HW
open PySem PySem.Spec PyProof.Rows L2.HW.G
theorem cAll_ty {α : Type} (xs : List α) (p : α → Bool) (L : LH) : cAll [.d (.list (xs.map fun x => PyData.bool (p x)))] L = .ok (.d (.bool (xs.all p))) L := by
  have e : boolsOf ((xs.map fun x => PyData.bool (p x)).map Va.d) = some (xs.map p) := by
    induction xs with
    | nil => rfl
    | cons a r ih => simp only [List.map_cons, boolsOf]; rw [ih]; rfl
  have e2 : Va.items L (.d (.list (xs.map fun x => .bool (p x)))) = some ((xs.map fun x => PyData.bool (p x)).map Va.d) := rfl
  simp only [cAll, one, e2, e]
  congr 3
  rw [List.all_map]
  rfl
end L2.HW
namespace L2.HW
open PySem PySem.Spec PyProof.Rows L2.HW.G
end L2.HW
namespace L2.HW
open PySem PySem.Spec PyProof.Rows L2.HW.G
end L2.HW
namespace L2.HW
open PySem PySem.Spec PyProof.Rows L2.HW.G
structure Ld where
  u : Int
  v : Int
  inn : List Int
  rds : List Nat
deriving DecidableEq, Inhabited
def Ld.d (f : Ld) : PyData := .tuple [.int f.u, .int f.v, .list (f.inn.map PyData.int), .list (f.rds.map fun i : Nat => PyData.int (i : Int))]
abbrev T3 := Int × Int × List Int
def joinLd (fs : List Ld) : Bool := (fs.zip (fs.drop 1)).all fun p => decide (p.1.v = p.2.u)
def sameLd (fs : List Ld) : Bool := fs.all fun f => decide (f.u = (fs.headD default).u) && decide (f.v = (fs.headD default).v)
def alongL (fs : List Ld) : Option T3 := if joinLd fs = true then some ((fs.headD default).u, (fs.getLast?.getD default).v, (fs.map Ld.v).dropLast ++ fs.flatMap Ld.inn) else none
def abreastL (fs : List Ld) : Option T3 := if sameLd fs = true then some ((fs.headD default).u, (fs.headD default).v, fs.flatMap Ld.inn) else none
theorem Ld.dd (f : Ld) : f.d = .tuple [.int f.u, .int f.v, .list (f.inn.map PyData.int), .list (f.rds.map fun i : Nat => PyData.int (i : Int))] := rfl
end L2.HW
namespace L2.HW
open PySem PySem.Spec PyProof.Rows L2.HW.G
end L2.HW
namespace L2.HW
open PySem PySem.Spec PyProof.Rows L2.HW.G
def allO {α : Type} : List (Option α) → Option (List α)
  | [] => some []
  | x :: r => match x, allO r with
    | some a, some l => some (a :: l)
    | _, _ => none
def closeL (t : T3) (fs : List Ld) : Option Ld := if (t.2.2 ++ [t.1, t.2.1]).Nodup then some ⟨t.1, t.2.1, t.2.2, fs.flatMap Ld.rds⟩ else none
def joinT (w : Str) (fs : List Ld) : Option Ld := match (if w = "behind" then alongL fs else abreastL fs) with
  | some t => closeL t fs
  | none => none
def lead1 (ps : List Pr) (g : PyData → Option Ld) : PyData → Option Ld
  | .int i => if 0 ≤ i ∧ i < ps.length then some ⟨(gtP ps i.toNat).1, (gtP ps i.toNat).2, [], [i.toNat]⟩ else none
  | .tuple [.str w, .tuple ts] => if (w = "behind" ∨ w = "beside") ∧ 2 ≤ ts.length then (match allO (ts.map g) with
    | some fs => joinT w fs
    | none => none) else none
  | _ => none
def leadK (ps : List Pr) : Nat → PyData → Option Ld
  | 0, _ => none
  | k + 1, x => lead1 ps (leadK ps k) x
theorem eqv_strD (a b : Str) : PyData.eqv (.str a) (.str b) = decide (a = b) := by
  by_cases h : a = b
  · subst h; simp [PyData.eqv]
  · simp [PyData.eqv, h]
end L2.HW
namespace L2.HW
open PySem PySem.Spec PyProof.Rows L2.HW.G
theorem bulk_mem : ∀ {ts : List PyData} {t : PyData}, t ∈ ts → t.bulk ≤ PyData.bulkAll ts
  | a :: r, t, h => by
    simp only [PyData.bulkAll]
    rcases List.mem_cons.mp h with rfl | h
    · omega
    · have := bulk_mem h; omega
end L2.HW
namespace L2.HW
open PySem PySem.Spec PyProof.Rows L2.HW.G
abbrev nL (R : List Nat) : PyData := .list (R.map fun i : Nat => PyData.int (i : Int))
end L2.HW
namespace L2.HW
open PySem PySem.Spec PyProof.Rows L2.HW.G
end L2.HW
namespace L2.HW
open PySem PySem.Spec PyProof.Rows L2.HW.G
end L2.HW
namespace L2.HW
open PySem PySem.Spec PyProof.Rows L2.HW.G
end L2.HW
namespace L2.HW
open PySem PySem.Spec PyProof.Rows L2.HW.G
end L2.HW
namespace L2.HW
open PySem PySem.Spec PyProof.Rows L2.HW.G
def Led (ps : List Pr) (t : Tr) (f : Ld) : Prop := ∀ k, t.d.depth < k → leadK ps k t.d = some f
def ldT (ps : List Pr) (t : Tr) : Ld := (leadK ps (t.d.depth + 1) t.d).getD default
theorem Led.eq {ps : List Pr} {t : Tr} {f : Ld} (h : Led ps t f) : ldT ps t = f := by
  unfold ldT
  rw [h _ (Nat.lt_succ_self _)]
  rfl
def wS (w : Bool) : Str := if w then "behind" else "beside"
theorem nd_d (w : Bool) (ts : List Tr) : (Tr.nd w ts).d = .tuple [.str (wS w), .tuple (ts.map Tr.d)] := by
  rw [Tr.d, ds_map]
  cases w <;> rfl
end L2.HW
namespace L2.HW
open PySem PySem.Spec PyProof.Rows L2.HW.G
end L2.HW
namespace L2.HW.G
open PySem
mutual
/-- the roads of a tree -/
def allR : Tr → List Nat
  | .rd i => [i]
  | .nd _ ts => allRs ts
def allRs : List Tr → List Nat
  | [] => []
  | t :: ts => allR t ++ allRs ts
end
mutual
/-- a way through a tree -/
def wayT : Tr → List Nat → Prop
  | .rd i, p => p = [i]
  | .nd w ts, p => if w then wayB ts p else wayS ts p
def wayB : List Tr → List Nat → Prop
  | [], p => p = []
  | t :: ts, p => ∃ p1 p2, p = p1 ++ p2 ∧ wayT t p1 ∧ wayB ts p2
def wayS : List Tr → List Nat → Prop
  | [], _ => False
  | t :: ts, p => wayT t p ∨ wayS ts p
end
end L2.HW.G
namespace L2.HW.G
open PySem
def sub (n : Nat) (p : List Nat) (fr : Nat → Nat) : Nat → Nat := fun i => if i ∈ p then fr i - n else fr i
end L2.HW.G
namespace L2.HW.G
open PySem
end L2.HW.G
namespace L2.HW
open PySem L2.HW.G
end L2.HW
namespace L2.HW
open PySem PySem.Spec PyProof.Rows L2.HW.G
end L2.HW
namespace L2.HW
open PySem PySem.Spec PyProof.Rows L2.HW.G
end L2.HW
namespace L2.HW
open PySem PySem.Spec PyProof.Rows L2.HW.G
end L2.HW
namespace L2.HW
open PySem PySem.Spec PyProof.Rows L2.HW.G
end L2.HW
namespace L2.HW
open PySem PySem.Spec PyProof.Rows L2.HW.G
end L2.HW
namespace L2.HW
open PySem L2.HW.G
end L2.HW
namespace L2.HW
open PySem L2.HW.G
end L2.HW
namespace L2.HW
open PySem L2.HW.G
end L2.HW
namespace L2.HW
open PySem L2.HW.G
end L2.HW
namespace L2.HW
open PySem L2.HW.G
end L2.HW
namespace L2.HW
open PySem L2.HW.G
end L2.HW
namespace L2.HW
open PySem L2.HW.G
end L2.HW
namespace L2.HW
open PySem L2.HW.G
end L2.HW
namespace L2.HW
open PySem L2.HW.G
end L2.HW
namespace L2.HW.G
open PySem
theorem rk_down {E : Int → Int → Prop} {ρ : Int → Nat} (hρ : ∀ x y, E x y → ρ x < ρ y) {l : List Int} {x y : Int} (h : Pth E x l y) : ∀ q ∈ x :: l, ρ q ≤ ρ y := fun q hq => by
  rcases List.mem_cons.mp hq with rfl | hq
  · exact (rk_end hρ h).1
  · exact rk_le hρ h q hq
theorem cr_ext {E E' : Int → Int → Prop} {ρ : Int → Nat} (hρ : ∀ x y, E' x y → ρ x < ρ y) (k : ∀ x y, E x y → E' x y) {b e b' e' : Int} {P P2 : List Int} (p1 : Pth E' b' P b) (p2 : Pth E' e P2 e') (h : Crosses E b e) : Crosses E' b' e' := by
  obtain ⟨S, A1, A2, R1, R2, B, Q, w, x, v, z, C⟩ := h
  have s := pth_mono k C.s
  have a1 := pth_mono k C.a1
  have a2 := pth_mono k C.a2
  have r1 := pth_mono k C.r1
  have r2 := pth_mono k C.r2
  have pb := pth_mono k C.pb
  have pq := pth_mono k C.pq
  have S' := pth_app p1 s
  have R' := pth_app r2 p2
  refine ⟨P ++ S, A1, A2, R1, R2 ++ P2, B, Q, w, x, v, z, S', a1, a2, r1, R', pb, pq, C.n1, C.n2, C.n3, ?_⟩
  have main := pth_nodup hρ (pth_app S' (pth_app a1 (pth_app a2 (pth_app r1 R'))))
  have wx := (rk_end hρ a1).2 C.n1
  have xv := (rk_end hρ a2).2 C.n2
  have vz := (rk_end hρ r1).2 C.n3
  have nd := C.nd
  have hB : ∀ q ∈ B.dropLast, ρ w < ρ q ∧ ρ q < ρ v := fun q hq => ⟨rk_mem hρ pb q ((List.dropLast_subset _ hq)), rk_lt hρ pb q hq⟩
  have hQ : ∀ q ∈ Q.dropLast, ρ x < ρ q ∧ ρ q < ρ z := fun q hq => ⟨rk_mem hρ pq q ((List.dropLast_subset _ hq)), rk_lt hρ pq q hq⟩
  have e1 : (b :: (S ++ A1 ++ A2 ++ R1 ++ R2 ++ B.dropLast ++ Q.dropLast)) = (b :: S) ++ ((A1 ++ A2 ++ R1) ++ (R2 ++ (B.dropLast ++ Q.dropLast))) := by simp
  rw [e1] at nd
  obtain ⟨_, n2, _⟩ := List.nodup_append.mp nd
  obtain ⟨_, n3, d1⟩ := List.nodup_append.mp n2
  obtain ⟨_, n4, _⟩ := List.nodup_append.mp n3
  have e2 : (b' :: (P ++ S ++ A1 ++ A2 ++ R1 ++ (R2 ++ P2) ++ B.dropLast ++ Q.dropLast)) = (b' :: (P ++ S ++ (A1 ++ (A2 ++ (R1 ++ (R2 ++ P2)))))) ++ (B.dropLast ++ Q.dropLast) := by simp
  rw [e2, List.nodup_append]
  refine ⟨main, n4, fun p hp q hq e => ?_⟩
  subst e
  have hq2 : ρ w < ρ p ∧ ρ p < ρ z := by
    rcases List.mem_append.mp hq with h | h
    · have := hB p h; omega
    · have := hQ p h; omega
  have : p ∈ (b' :: (P ++ S)) ∨ p ∈ A1 ++ A2 ++ R1 ∨ p ∈ R2 ++ P2 := by
    simp only [List.mem_cons, List.mem_append] at hp ⊢
    rcases hp with h | (h | h) | h | h | h | h | h
    · exact .inl (.inl h)
    · exact .inl (.inr (.inl h))
    · exact .inl (.inr (.inr h))
    · exact .inr (.inl (.inl (.inl h)))
    · exact .inr (.inl (.inl (.inr h)))
    · exact .inr (.inl (.inr h))
    · exact .inr (.inr (.inl h))
    · exact .inr (.inr (.inr h))
  rcases this with h | h | h
  · have := rk_down hρ S' p h
    omega
  · exact d1 p h p (List.mem_append_right _ hq) rfl
  · have := rk_mem hρ R' p h
    omega
theorem cr_mono {E E' : Int → Int → Prop} {ρ : Int → Nat} (hρ : ∀ x y, E' x y → ρ x < ρ y) (k : ∀ x y, E x y → E' x y) {b e : Int} (h : Crosses E b e) : Crosses E' b e := cr_ext hρ k (P := []) (P2 := []) rfl rfl h
end L2.HW.G
namespace L2.HW.G
open PySem
structure Core (E : Int → Int → Prop) (A1 A2 R1 B Q : List Int) (w x v z : Int) : Prop where
  a1 : Pth E w A1 x
  a2 : Pth E x A2 v
  r1 : Pth E v R1 z
  pb : Pth E w B v
  pq : Pth E x Q z
  n1 : A1 ≠ []
  n2 : A2 ≠ []
  n3 : R1 ≠ []
  nd : (A1 ++ A2 ++ R1 ++ (B.dropLast ++ Q.dropLast)).Nodup
theorem Cr.core {E : Int → Int → Prop} {b e : Int} {S A1 A2 R1 R2 B Q : List Int} {w x v z : Int} (C : Cr E b e S A1 A2 R1 R2 B Q w x v z) : Core E A1 A2 R1 B Q w x v z := by
  refine ⟨C.a1, C.a2, C.r1, C.pb, C.pq, C.n1, C.n2, C.n3, ?_⟩
  have nd := C.nd
  have e1 : (b :: (S ++ A1 ++ A2 ++ R1 ++ R2 ++ B.dropLast ++ Q.dropLast)) = (b :: S) ++ ((A1 ++ A2 ++ R1) ++ (R2 ++ (B.dropLast ++ Q.dropLast))) := by simp
  rw [e1] at nd
  obtain ⟨_, n2, _⟩ := List.nodup_append.mp nd
  refine List.Sublist.nodup (List.Sublist.append (List.Sublist.refl _) (List.sublist_append_right _ _)) n2
end L2.HW.G
namespace L2.HW
open PySem PySem.Spec PyProof.Rows
structure Gr (m : Int) (es : List Pr) : Prop where
  m2 : 2 ≤ m
  m7 : m ≤ 7
  rd : ∀ p ∈ es, 0 ≤ p.1 ∧ p.1 < m ∧ 0 ≤ p.2 ∧ p.2 < m ∧ p.1 ≠ 1
  acy : Acy es
theorem Acy.sub {ps qs : List Pr} (h : Acy qs) (hs : ∀ p ∈ ps, p ∈ qs) : Acy ps := let ⟨r, hr⟩ := h; ⟨r, fun p hp => hr p (hs p hp)⟩
theorem Gr.split {m : Int} {es : List Pr} (h : Gr m es) (h7 : m < 7) (i : Nat) (hi : i < es.length) : Gr (m + 1) (es.take i ++ [(es[i].1, m), (m, es[i].2)] ++ es.drop (i + 1)) := by
  have hr := h.rd _ (List.getElem_mem hi)
  have m2 := h.m2
  refine ⟨by omega, by omega, fun p hp => ?_, ?_⟩
  · simp only [List.mem_append, List.mem_cons, List.not_mem_nil, or_false] at hp
    rcases hp with (hp | rfl | rfl) | hp
    · have := h.rd p (List.mem_of_mem_take hp); exact ⟨this.1, by omega, this.2.2.1, by omega, this.2.2.2.2⟩
    · exact ⟨hr.1, by show es[i].1 < m + 1; omega, by show 0 ≤ m; omega, by show m < m + 1; omega, hr.2.2.2.2⟩
    · exact ⟨by show 0 ≤ m; omega, by show m < m + 1; omega, hr.2.2.1, by show es[i].2 < m + 1; omega, by show m ≠ 1; omega⟩
    · have := h.rd p (List.mem_of_mem_drop hp); exact ⟨this.1, by omega, this.2.2.1, by omega, this.2.2.2.2⟩
  · obtain ⟨r, hr'⟩ := h.acy
    have old : ∀ x, x < m → (if x = m then 2 * r es[i].1 + 1 else 2 * r x) = 2 * r x := fun x hx => if_neg (by omega)
    refine ⟨fun x => if x = m then 2 * r es[i].1 + 1 else 2 * r x, fun p hp => ?_⟩
    simp only [List.mem_append, List.mem_cons, List.not_mem_nil, or_false] at hp
    rcases hp with (hp | rfl | rfl) | hp
    · have h1 := h.rd p (List.mem_of_mem_take hp); have h2 := hr' p (List.mem_of_mem_take hp)
      simp only [old _ h1.2.1, old _ h1.2.2.2.1]; omega
    · simp only [old _ hr.2.1, if_true]; omega
    · have := hr' _ (List.getElem_mem hi)
      simp only [old _ hr.2.2.2.1, if_true]; omega
    · have h1 := h.rd p (List.mem_of_mem_drop hp); have h2 := hr' p (List.mem_of_mem_drop hp)
      simp only [old _ h1.2.1, old _ h1.2.2.2.1]; omega
theorem Gr.twice {m : Int} {es : List Pr} (h : Gr m es) (i : Nat) (hi : i < es.length) : Gr m (es.take i ++ [(es[i].1, es[i].2)] ++ es.drop i) := by
  have sub : ∀ p ∈ es.take i ++ [(es[i].1, es[i].2)] ++ es.drop i, p ∈ es := fun p hp => by
    simp only [List.mem_append, List.mem_cons, List.not_mem_nil, or_false] at hp
    rcases hp with (hp | rfl) | hp
    · exact List.mem_of_mem_take hp
    · exact List.getElem_mem hi
    · exact List.mem_of_mem_drop hp
  exact ⟨h.m2, h.m7, fun p hp => h.rd p (sub p hp), h.acy.sub sub⟩
end L2.HW
namespace L2.HW
open PySem PySem.Spec PyProof.Rows L2.HW.G
theorem Rch.map {ps qs : List Pr} {φ : Int → Int} (k : ∀ p ∈ ps, Rch qs (φ p.1) (φ p.2)) {x y : Int} (h : Rch ps x y) : Rch qs (φ x) (φ y) := by
  induction h with
  | refl => exact .refl _
  | step _ m ih => exact ih.trans (k _ m)
theorem mem_cut3 {es : List Pr} {i : Nat} (hi : i < es.length) (p : Pr) : p ∈ es ↔ p ∈ es.take i ∨ p = es[i] ∨ p ∈ es.drop (i + 1) := by
  have e : es = es.take i ++ (es[i] :: es.drop (i + 1)) := by
    rw [← List.drop_eq_getElem_cons hi, List.take_append_drop]
  have h : p ∈ es.take i ++ (es[i] :: es.drop (i + 1)) ↔ p ∈ es.take i ∨ p = es[i] ∨ p ∈ es.drop (i + 1) := by rw [List.mem_append, List.mem_cons]
  rw [← e] at h
  exact h
structure Gn (m : Int) (es : List Pr) : Prop where
  gr : Gr m es
  nc : ¬ Crosses (adjP es) 0 1
  rc : Rch es 0 1
theorem Gn.split {m : Int} {es : List Pr} (h : Gn m es) (h7 : m < 7) (i : Nat) (hi : i < es.length) : Gn (m + 1) (es.take i ++ [(es[i].1, m), (m, es[i].2)] ++ es.drop (i + 1)) := by
  have g := h.gr.split h7 i hi
  have m2 := h.gr.m2
  have hr := h.gr.rd _ (List.getElem_mem hi)
  have mem : ∀ p, p ∈ es.take i ++ [(es[i].1, m), (m, es[i].2)] ++ es.drop (i + 1) ↔ (p ∈ es.take i ∨ p = (es[i].1, m) ∨ p = (m, es[i].2) ∨ p ∈ es.drop (i + 1)) := fun p => by
    simp only [List.mem_append, List.mem_cons, List.not_mem_nil, or_false]
    constructor
    · rintro ((h | h | h) | h)
      · exact .inl h
      · exact .inr (.inl h)
      · exact .inr (.inr (.inl h))
      · exact .inr (.inr (.inr h))
    · rintro (h | h | h | h)
      · exact .inl (.inl h)
      · exact .inl (.inr (.inl h))
      · exact .inl (.inr (.inr h))
      · exact .inr h
  have old : ∀ p, p ∈ es.take i ∨ p ∈ es.drop (i + 1) → p.1 ≠ m ∧ p.2 ≠ m := fun p hp => by
    have : p ∈ es := by
      rcases hp with hp | hp
      · exact List.mem_of_mem_take hp
      · exact List.mem_of_mem_drop hp
    have := h.gr.rd p this
    exact ⟨by omega, by omega⟩
  refine ⟨g, fun hc => h.nc ?_, ?_⟩
  · obtain ⟨ρ, hρ⟩ := rank_ex g.acy
    refine cr_contract (p := m) (a := es[i].1) (c := es[i].2) hρ ⟨fun x hx => ?_, fun y hy => ?_, fun x y hx h1 h2 => ?_, List.getElem_mem hi, (mem _).mpr (.inr (.inl rfl)), (mem _).mpr (.inr (.inr (.inl rfl)))⟩ (by omega) (by omega) hc
    · rcases (mem _).mp hx with k | k | k | k
      · exact absurd rfl (old _ (.inl k)).2
      · exact congrArg Prod.fst k
      · have : m = es[i].2 := congrArg Prod.snd k
        omega
      · exact absurd rfl (old _ (.inr k)).2
    · rcases (mem _).mp hy with k | k | k | k
      · exact absurd rfl (old _ (.inl k)).1
      · have : m = es[i].1 := congrArg Prod.fst k
        omega
      · exact congrArg Prod.snd k
      · exact absurd rfl (old _ (.inr k)).1
    · rcases (mem _).mp hx with k | k | k | k
      · exact List.mem_of_mem_take k
      · exact absurd (congrArg Prod.snd k) h2
      · exact absurd (congrArg Prod.fst k) h1
      · exact List.mem_of_mem_drop k
  · refine Rch.map (φ := fun x => x) (fun p hp => ?_) h.rc
    rcases (mem_cut3 hi p).mp hp with k | k | k
    · exact .step (.refl _) ((mem _).mpr (.inl k))
    · rw [k]
      exact .step (.step (.refl _) ((mem _).mpr (.inr (.inl rfl)))) ((mem _).mpr (.inr (.inr (.inl rfl))))
    · exact .step (.refl _) ((mem _).mpr (.inr (.inr (.inr k))))
theorem Gn.twice {m : Int} {es : List Pr} (h : Gn m es) (i : Nat) (hi : i < es.length) : Gn m (es.take i ++ [(es[i].1, es[i].2)] ++ es.drop i) := by
  have sub : ∀ p ∈ es.take i ++ [(es[i].1, es[i].2)] ++ es.drop i, p ∈ es := fun p hp => by
    simp only [List.mem_append, List.mem_cons, List.not_mem_nil, or_false] at hp
    rcases hp with (hp | rfl) | hp
    · exact List.mem_of_mem_take hp
    · exact List.getElem_mem hi
    · exact List.mem_of_mem_drop hp
  have sup : ∀ p ∈ es, p ∈ es.take i ++ [(es[i].1, es[i].2)] ++ es.drop i := fun p hp => by
    rw [← List.take_append_drop i es] at hp
    rcases List.mem_append.mp hp with k | k
    · exact List.mem_append_left _ (List.mem_append_left _ k)
    · exact List.mem_append_right _ k
  obtain ⟨ρ, hρ⟩ := rank_ex h.gr.acy
  exact ⟨h.gr.twice i hi, fun hc => h.nc (cr_mono hρ (fun x y k => sub _ k) hc), Rch.map (φ := fun x => x) (fun p hp => .step (.refl _) (sup p hp)) h.rc⟩
end L2.HW
namespace L2.HW
open PySem PySem.Spec PyProof.Rows L2.HW.G
end L2.HW
namespace L2.HW
open PySem PySem.Spec PyProof.Rows L2.HW.G
end L2.HW
namespace L2.HW
open PySem PySem.Spec PyProof.Rows L2.HW.G
end L2.HW
namespace L2.HW
open PySem PySem.Spec PyProof.Rows L2.HW.G
abbrev putF (f : Nat → Int) (k : Nat) (v : Int) : Nat → Int := fun i => if i = k then v else f i
end L2.HW
namespace L2.HW
open PySem PySem.Spec PyProof.Rows L2.HW.G
end L2.HW
namespace L2.HW
open PySem PySem.Spec PyProof.Rows L2.HW.G
end L2.HW
namespace L2.HW
open PySem PySem.Spec PyProof.Rows L2.HW.G
theorem fine_nat {i : Nat} (h : i ≤ 1000000) : fine (.int (i : Int)) = true := fine_small (by omega) (by omega)
theorem fine_tN {C : List Nat} (h : ∀ i ∈ C, i ≤ 1000000) : fine (tN' C) = true := by
  have : fineAll (C.map fun i : Nat => PyData.int (i : Int)) = true := fineAll_iff.mpr fun x hx => by
    obtain ⟨i, hi, rfl⟩ := List.mem_map.mp hx
    exact fine_nat (h i hi)
  simpa [fine] using this
theorem dep_tN (C : List Nat) : (tN' C).depth ≤ 1 := by
  have : PyData.depthAll (C.map fun i : Nat => PyData.int (i : Int)) ≤ 0 := depthAll_le.mpr fun x hx => by
    obtain ⟨i, hi, rfl⟩ := List.mem_map.mp hx
    simp [PyData.depth]
  simp only [PyData.depth]
  omega
end L2.HW
namespace L2.HW
open PySem PySem.Spec PyProof.Rows L2.HW.G
def shortE' (es : List Ed) (b e : Int) : Option (List Ed) := (ascA (once ((es.filter fun d => decide (d.v ≠ b) && decide (d.v ≠ e)).map (·.v)))).findSome? (shortAt es)
def redE' (b e : Int) : Nat → List Ed → List Ed
  | 0, es => es
  | n + 1, es => match shortE' es b e with
    | some es' => redE' b e n (mergeE es')
    | none => es
def treeX (ps : List Pr) (b e : Int) (C : List Nat) : Bool := (redE' b e (es0 (wo ps C) b e).length (mergeE (es0 (wo ps C) b e))).length == 1
def fewX (ps : List Pr) (b e : Int) : Option (List Nat) := (List.range (cntL ps b e).length).findSome? fun n => (chs n (cntL ps b e)).find? (treeX ps b e)
def s12 : List Pr := [(1,4),(0,1),(0,2),(0,3),(2,3),(2,4),(3,4),(1,2)]
def s13 : List Pr := [(0,1),(0,2),(0,3),(0,4),(1,2),(2,3),(3,4),(1,5),(2,5),(3,5),(4,5)]
def s14 : List Pr := [(1,2),(1,3),(1,4),(2,3),(3,4),(2,5),(3,5),(4,5)]
def s15 : List Pr := [(0,1)] ++ s14 ++ [(0,5)]
def s16 : List Pr := s14.map fun p => (p.1 - 1, p.2 - 1)
theorem f0 : fewX [] 0 1 = none := by decide +kernel
end L2.HW
namespace L2.HW
open PySem PySem.Spec PyProof.Rows L2.HW.G
end L2.HW
namespace L2.HW
open PySem PySem.Spec PyProof.Rows L2.HW.G
end L2.HW
namespace L2.HW
open PySem PySem.Spec PyProof.Rows L2.HW.G
end L2.HW
namespace L2.HW
open PySem PySem.Spec PyProof.Rows L2.HW.G
end L2.HW
namespace L2.HW
open PySem PySem.Spec PyProof.Rows L2.HW.G
theorem pick_ex {R : List PyData} {L : LH} {n : Nat} {p : Int} (hn : n < L.length) (h0 : 0 < R.length) (h1 : R.length ≤ 100000) : ∃ y ∈ R, ∃ p', F_l_pick [.loc n, .d (.list R)] (L.set n (P1 p)) = .ok (.d y) (L.set n (P1 p')) := by
  obtain ⟨t, p1, t0, t1, et⟩ := take_ex (p := p) (s := (R.length : Int)) hn (by omega) (log_small (by omega) (by omega))
  obtain ⟨y, hy, ha⟩ := atI_map R t t0 t1
  refine ⟨y, hy, p1, ?_⟩
  have lr : (R.map Va.d).length = R.length := List.length_map ..
  simp [F_l_pick, b_l_pick, mkFn, Va.seq, et, ha, outV_set0, hn]
def RowN (x : PyData) : Prop := ∃ p : List Nat, x = tN' p ∧ p.length ≤ 20 ∧ ∀ i ∈ p, i ≤ 1000
theorem bulk_tN (C : List Nat) : PyData.bulkAll (C.map fun i : Nat => PyData.int (i : Int)) = C.length := by
  induction C with
  | nil => rfl
  | cons a r ih => rw [List.map_cons, List.length_cons, ← ih]; simp [PyData.bulkAll, PyData.bulk]; omega
theorem RowN.ok {x : PyData} (h : RowN x) : Ok 1 30 x := by
  obtain ⟨p, rfl, h1, h2⟩ := h
  refine ⟨fine_tN fun i hi => by have := h2 i hi; omega, dep_tN p, ?_⟩
  have := bulk_tN p
  simp only [PyData.bulk]
  omega
end L2.HW
namespace L2.HW
open PySem PySem.Spec PyProof.Rows L2.HW.G
theorem Ok.tup {d b : Nat} {xs : List PyData} (h : ∀ x ∈ xs, Ok d b x) : Ok (d + 1) (xs.length * (b + 1)) (.tuple xs) := by
  refine ⟨?_, ?_, ?_⟩
  · simp only [fine]
    exact fineAll_iff.mpr fun x hx => (h x hx).1
  · simp only [PyData.depth]
    have : PyData.depthAll xs ≤ d := depthAll_le.mpr fun x hx => (h x hx).2.1
    omega
  · simp only [PyData.bulk]
    induction xs with
    | nil => simp [PyData.bulkAll]
    | cons a r ih =>
      have h1 := (h a List.mem_cons_self).2.2
      have h2 := ih fun x hx => h x (List.mem_cons_of_mem _ hx)
      simp only [PyData.bulkAll, List.length_cons]
      rw [Nat.add_mul]
      omega
theorem Ok.lst {d b : Nat} {xs : List PyData} (h : Ok d b (.tuple xs)) : Ok d b (.list xs) := by
  obtain ⟨h1, h2, h3⟩ := h
  exact ⟨by simpa [fine] using h1, by simpa [PyData.depth] using h2, by simpa [PyData.bulk] using h3⟩
end L2.HW
namespace L2.HW
open PySem PySem.Spec PyProof.Rows L2.HW.G
end L2.HW
namespace L2.HW
open PySem PySem.Spec PyProof.Rows L2.HW.G
theorem Ok.int {i : Int} (h0 : 0 ≤ i) (h1 : i ≤ 1000000) {d b : Nat} : Ok d b (.int i) := ⟨fine_small h0 h1, by simp [PyData.depth], by simp [PyData.bulk]⟩
end L2.HW
namespace L2.HW
open PySem PySem.Spec PyProof.Rows L2.HW.G
end L2.HW
namespace L2.HW
open PySem PySem.Spec PyProof.Rows L2.HW.G
abbrev dep : List Pr := [(0, 1), (1, 2), (2, 3), (0, 4), (4, 5), (5, 2), (1, 5), (5, 3)]
abbrev loo : List Pr := [(0, 1), (1, 2), (2, 3), (0, 2), (1, 4), (4, 3), (1, 5), (5, 3)]
abbrev t3 (p q r : List Nat) : PyData := .tuple [tN' p, tN' q, tN' r]
end L2.HW
namespace L2.HW
open PySem PySem.Spec PyProof.Rows L2.HW.G
theorem Gr.drop {m : Int} {es : List Pr} (h : Gr m es) : Gr m (es.drop 1) := ⟨h.m2, h.m7, fun p hp => h.rd p (List.mem_of_mem_drop hp), Acy.sub h.acy fun p hp => List.mem_of_mem_drop hp⟩
end L2.HW
namespace L2.HW
open PySem PySem.Spec PyProof.Rows L2.HW.G
abbrev Sq := Int × Int × Int × List Pr
abbrev qa : Sq := (7, 0, 3, [(0, 1), (0, 2), (1, 2), (1, 3), (2, 3), (0, 3)])
end L2.HW
namespace L2.HW
open PySem PySem.Spec PyProof.Rows L2.HW.G
end L2.HW
namespace L2.HW
open PySem PySem.Spec PyProof.Rows L2.HW.G
end L2.HW
namespace L2.HW
open PySem PySem.Spec PyProof.Rows L2.HW.G
end L2.HW
namespace L2.HW
open PySem PySem.Spec PyProof.Rows L2.HW.G
end L2.HW
namespace L2.HW
open PySem PySem.Spec PyProof.Rows L2.HW.G
end L2.HW
namespace L2.HW
open PySem PySem.Spec PyProof.Rows L2.HW.G
theorem Rch.up {qs ps : List Pr} (h : ∀ p ∈ qs, p ∈ ps) {x y : Int} (r : Rch qs x y) : Rch ps x y := Rch.map (φ := fun x => x) (fun p hp => .step (.refl _) (h p hp)) r
theorem Crosses.up {qs ps : List Pr} (ac : Acy ps) (h : ∀ p ∈ qs, p ∈ ps) {b e : Int} (r : Crosses (adjP qs) b e) : Crosses (adjP ps) b e := by
  obtain ⟨ρ, hρ⟩ := rank_ex ac
  exact cr_mono hρ (fun x y k => h _ k) r
end L2.HW
namespace L2.HW.G
open PySem
end L2.HW.G
namespace L2.HW
open PySem PySem.Spec PyProof.Rows L2.HW.G
theorem Acy.sl {qs ps : List Pr} (ac : Acy ps) (h : qs.Sublist ps) : Acy qs := ac.sub fun p hp => h.subset hp
end L2.HW
namespace L2.HW
open PySem PySem.Spec PyProof.Rows L2.HW.G
theorem GoodS.sl {t c m b e : Int} {ps qs : List Pr} (g : GoodS t c m b e ps) (h : qs.Sublist ps) : GoodS t c m b e qs := ⟨g.m2, g.mt, g.b0, g.b1, g.e0, g.e1, g.be, fun p hp => g.rd p (h.subset hp), by have := h.length_le; have := g.len; omega, g.acy.sl h⟩
end L2.HW
namespace L2.HW
open PySem PySem.Spec PyProof.Rows L2.HW.G
end L2.HW
namespace L2.HW
open PySem PySem.Spec PyProof.Rows L2.HW.G
end L2.HW
namespace L2.HW
open PySem L2.HW.G
mutual
theorem Tr.ind {P : Tr → Prop} (h1 : ∀ i, P (.rd i)) (h2 : ∀ w ts, (∀ t ∈ ts, P t) → P (.nd w ts)) : ∀ t, P t
  | .rd i => h1 i
  | .nd w ts => h2 w ts (Tr.inds h1 h2 ts)
theorem Tr.inds {P : Tr → Prop} (h1 : ∀ i, P (.rd i)) (h2 : ∀ w ts, (∀ t ∈ ts, P t) → P (.nd w ts)) : ∀ ts : List Tr, ∀ t ∈ ts, P t
  | [], _, h => nomatch h
  | s :: ts, t, h => (List.mem_cons.mp h).elim (fun e => e ▸ Tr.ind h1 h2 s) (Tr.inds h1 h2 ts t)
end
mutual
/-- two parts or more everywhere -/
def wf2 : Tr → Prop
  | .rd _ => True
  | .nd _ ts => 2 ≤ ts.length ∧ wf2s ts
def wf2s : List Tr → Prop
  | [] => True
  | t :: ts => wf2 t ∧ wf2s ts
end
theorem wf2s_iff : ∀ ts : List Tr, wf2s ts ↔ ∀ t ∈ ts, wf2 t
  | [] => by simp [wf2s]
  | t :: ts => by simp [wf2s, wf2s_iff ts]
theorem wf2_nd (w : Bool) (ts : List Tr) : wf2 (.nd w ts) ↔ 2 ≤ ts.length ∧ ∀ t ∈ ts, wf2 t := by
  conv => lhs; unfold wf2
  rw [wf2s_iff]
theorem allRs_flat : ∀ ts : List Tr, allRs ts = ts.flatMap allR
  | [] => rfl
  | t :: ts => by rw [List.flatMap_cons, ← allRs_flat ts]; conv => lhs; unfold allRs
theorem allR_nd (w : Bool) (ts : List Tr) : allR (.nd w ts) = ts.flatMap allR := by
  rw [← allRs_flat]; conv => lhs; unfold allR
theorem allR_rd (i : Nat) : allR (.rd i) = [i] := by conv => lhs; unfold allR
theorem allR_ne : ∀ t, wf2 t → allR t ≠ [] := by
  refine Tr.ind (fun i _ => by rw [allR_rd]; simp) fun w ts ih h => ?_
  rw [wf2_nd] at h
  rw [allR_nd]
  cases ts with
  | nil => simp at h
  | cons t ts =>
    rw [List.flatMap_cons]
    intro e
    exact ih t List.mem_cons_self (h.2 t List.mem_cons_self) (List.append_eq_nil_iff.mp e).1
def lsT (t : Tr) : Int := (minI ((allR t).map fun i : Nat => (i : Int))).getD 0
def flat1 (w : Bool) : Tr → List Tr
  | .rd i => [.rd i]
  | .nd w' us => if w' = w then us else [.nd w' us]
def byL (l : List Tr) : List Tr := (sortKy ((l.map lsT).zip l)).map (·.2)
def ordW (w : Bool) (l : List Tr) : List Tr := if w then l else byL l
mutual
def plnT : Tr → Tr
  | .rd i => .rd i
  | .nd w ts => .nd w (ordW w ((plnTs ts).flatMap (flat1 w)))
def plnTs : List Tr → List Tr
  | [] => []
  | t :: ts => plnT t :: plnTs ts
end
end L2.HW
namespace L2.HW
open PySem L2.HW.G
structure LdE (f g : Ld) : Prop where
  u : f.u = g.u
  v : f.v = g.v
  inn : f.inn.Perm g.inn
  rds : f.rds.Perm g.rds
theorem LdE.refl (f : Ld) : LdE f f := ⟨rfl, rfl, .refl _, .refl _⟩
theorem LdE.symm {f g : Ld} (h : LdE f g) : LdE g f := ⟨h.u.symm, h.v.symm, h.inn.symm, h.rds.symm⟩
theorem LdE.trans {f g k : Ld} (h : LdE f g) (j : LdE g k) : LdE f k := ⟨h.u.trans j.u, h.v.trans j.v, h.inn.trans j.inn, h.rds.trans j.rds⟩
theorem paired_mem {α β : Type} {F : α → β → Prop} {xs : List α} {ys : List β} (h : Paired F xs ys) : ∀ y ∈ ys, ∃ x ∈ xs, F x y := by
  induction h with
  | nil => exact fun y hy => nomatch hy
  | @cons a b l m h1 _ ih =>
    intro y hy
    rcases List.mem_cons.mp hy with rfl | hy
    · exact ⟨a, List.mem_cons_self, h1⟩
    · obtain ⟨x, hx, r⟩ := ih y hy
      exact ⟨x, List.mem_cons_of_mem _ hx, r⟩
def LqT (ps : List Pr) (t : Tr) (f : Ld) : Prop := ∃ f', Led ps t f' ∧ LdE f' f
end L2.HW
namespace L2.HW
open PySem L2.HW.G
theorem paired_len {α β : Type} {F : α → β → Prop} {xs : List α} {ys : List β} (h : Paired F xs ys) : xs.length = ys.length := by
  induction h with
  | nil => rfl
  | cons _ _ ih => rw [List.length_cons, List.length_cons, ih]
structure Rgd (t t' : Tr) : Prop where
  wf : wf2 t'
  all : (allR t').Perm (allR t)
  lq : ∀ (ps : List Pr) (f : Ld), LqT ps t f → LqT ps t' f
  pl : (allR t).Nodup → plnT t' = plnT t
theorem Rgd.refl {t : Tr} (h : wf2 t) : Rgd t t := ⟨h, .refl _, fun _ _ h => h, fun _ => rfl⟩
theorem Rgd.trans {a b c : Tr} (h : Rgd a b) (k : Rgd b c) : Rgd a c :=
  ⟨k.wf, k.all.trans h.all, fun ps f x => k.lq ps f (h.lq ps f x), fun nd => (k.pl (h.all.nodup_iff.mpr nd)).trans (h.pl nd)⟩
end L2.HW
namespace L2.HW
open PySem PySem.Spec PyProof.Rows L2.HW.G
end L2.HW
namespace L2.HW
open PySem PySem.Spec PyProof.Rows L2.HW.G
end L2.HW
namespace L2.HW
open PySem PySem.Spec PyProof.Rows L2.HW.G
end L2.HW
namespace L2.HW
open PySem PySem.Spec PyProof.Rows L2.HW.G
end L2.HW
namespace L2.HW
open PySem PySem.Spec PyProof.Rows L2.HW.G
end L2.HW
namespace L2.HW
open PySem PySem.Spec PyProof.Rows L2.HW.G
end L2.HW
namespace L2.HW
open PySem PySem.Spec PyProof.Rows L2.HW.G
end L2.HW
namespace L2.HW
open PySem PySem.Spec PyProof.Rows L2.HW.G
theorem part_lt {w : Bool} {ts : List Tr} (h : wf2 (.nd w ts)) : ts.length ≤ (allR (.nd w ts)).length ∧ ∀ t ∈ ts, wf2 t ∧ (allR t).length < (allR (.nd w ts)).length := by
  obtain ⟨h2, hw⟩ := (wf2_nd w ts).mp h
  rw [allR_nd]
  have go : ∀ ts : List Tr, (∀ t ∈ ts, wf2 t) → ts.length ≤ (ts.flatMap allR).length ∧ ∀ t ∈ ts, (allR t).length + ts.length ≤ (ts.flatMap allR).length + 1 := by
    intro ts
    induction ts with
    | nil => exact fun _ => ⟨by simp, fun t ht => nomatch ht⟩
    | cons a ts ih =>
      intro hw
      obtain ⟨i1, i2⟩ := ih fun t ht => hw t (List.mem_cons_of_mem _ ht)
      have pos : 0 < (allR a).length := List.length_pos_iff.mpr (allR_ne a (hw a List.mem_cons_self))
      simp only [List.flatMap_cons, List.length_append, List.length_cons]
      refine ⟨by omega, fun t ht => ?_⟩
      rcases List.mem_cons.mp ht with rfl | ht
      · omega
      · have := i2 t ht; omega
  obtain ⟨g1, g2⟩ := go ts hw
  exact ⟨g1, fun t ht => ⟨hw t ht, by have := g2 t ht; omega⟩⟩
theorem ds_va (ts : List Tr) : (ts.map Tr.d).map Va.d = ts.map fun t => Va.d t.d := by rw [List.map_map]; rfl
theorem rd_d (i : Nat) : (Tr.rd i).d = .int (i : Int) := by conv => lhs; unfold Tr.d
theorem is_form_run : ∀ (k : Nat) (t : Tr), wf2 t → (allR t).length ≤ k → k ≤ 100 → ∀ L, F_is_form k [.d t.d] L = .ok (.d (.bool true)) L
  | 0, t, h, hk, _, L => absurd (List.length_eq_zero_iff.mp (Nat.le_zero.mp hk)) (allR_ne t h)
  | k + 1, .rd i, h, hk, hz, L => by
    rw [rd_d]
    refine fn_out (w := .d (.bool true)) (L' := L) rfl ?_ (settle_d _ _ _ _) (outV_self _ _)
    simp [b_is_form, wholeB]
  | k + 1, .nd w ts, h, hk, hz, L => by
    have zs := sizeLine_eq
    obtain ⟨p1, p2⟩ := part_lt h
    have h2 := ((wf2_nd w ts).mp h).1
    have cm : fComp (srcV (eOp opIx (eVar 0) (eC (.int 1)))) (tN 1) tTrue (eCall (F_is_form k) (aCons (eVar 1) aNil)) [1] [some (.d (Tr.nd w ts).d), none] L = .ok (.lst ((ts.map fun _ => PyData.bool true).map Va.d)) L := by
      have hs : srcV (eOp opIx (eVar 0) (eC (.int 1))) [some (.d (Tr.nd w ts).d), none] L = .ok (ts.map (fun t => Va.d t.d), none) L := by
        rw [nd_d]
        have := ds_va ts
        generalize ts.map Tr.d = E at *
        simp [srcV, srcOf, this]
      rw [fComp_tym (enc := fun t : Tr => Va.d t.d) (h := fun t : Tr => Va.d (.bool true)) (xs := ts) hs (by rw [zs]; omega) (fun t ht => ⟨[some (.d (Tr.nd w ts).d), some (.d t.d)], rfl, by
        have ih := is_form_run k t (p2 t ht).1 (by have := (p2 t ht).2; omega) (by omega) L
        generalize (Tr.nd w ts).d = X
        generalize t.d = Y at *
        simp [ih]⟩)]
      rw [List.map_map]
      rfl
    refine fn_out (w := .d (.bool true)) (L' := L) rfl ?_ (settle_d _ _ _ _) (outV_self _ _)
    show b_is_form (F_is_form k) [some (.d (Tr.nd w ts).d), none] L = _
    have i5 : eCallB cAll (aCons (eDat (fComp (srcV (eOp opIx (eVar 0) (eC (.int 1)))) (tN 1) tTrue (eCall (F_is_form k) (aCons (eVar 1) aNil)) [1])) aNil) [some (.d (Tr.nd w ts).d), none] L = .ok (.d (.bool true)) L := by
      simp only [u_eCallB, u_aCons, u_aNil, u_eDat, cm, Res.bind_ok, va_lst]
      have := cAll_ty ts (fun _ => true) L
      rw [List.all_eq_true.mpr (fun _ _ => rfl)] at this
      exact this
    have len : (ts.map Tr.d).length = ts.length := List.length_map _
    unfold b_is_form
    have w1 : ∀ K, tVal (eCall F_is_whole (aCons (eVar 0) aNil)) [some (.d (Tr.nd w ts).d), none] K = .ok false K := fun K => by
      rw [nd_d]
      generalize ts.map Tr.d = E
      simp [wholeB]
    refine seq_nx (env1 := [some (.d (Tr.nd w ts).d), none]) (L1 := L) (by rw [u_sIf, w1]; simp) ?_
    refine seq_nx (env1 := [some (.d (Tr.nd w ts).d), none]) (L1 := L) (by
      rw [nd_d]
      generalize ts.map Tr.d = E
      simp [Va.kind, isKind, shaped_int, eqv_int]) ?_
    have tin : tVal (eOp (opIn true) (eOp opIx (eVar 0) (eC (.int 0))) (eTup (aCons (eC (.str "behind")) (aCons (eC (.str "beside")) aNil)))) [some (.d (Tr.nd w ts).d), none] L = .ok false L := by
      have k2 : 0 + 1 + 1 ≤ sizeLine := by omega
      have e0 : eOp opIx (eVar 0) (eC (.int 0)) [some (.d (Tr.nd w ts).d), none] L = .ok (.d (.str (wS w))) L := by
        rw [nd_d]
        generalize ts.map Tr.d = E
        simp
      have m2 : mkTup [Va.d (.str "behind"), .d (.str "beside")] = .d (.tuple [.str "behind", .str "beside"]) := rfl
      have fl : (flatD (.str (wS w)) && [PyData.str "behind", .str "beside"].all flatD) = true := rfl
      have an : ([PyData.str "behind", .str "beside"].any fun z => PyData.eqv z (.str (wS w))) = true := by cases w <;> decide +kernel
      rw [u_tVal, u_eOp, e0]
      simp only [Res.bind_ok, u_eTup, u_aCons, u_eC, u_aNil, List.length_cons, List.length_nil, if_pos k2, m2, u_opIn, dget_d, fl, if_true, an]
      rfl
    refine seq_nx (env1 := [some (.d (Tr.nd w ts).d), none]) (L1 := L) (by
      have t2 : tOrF (tNotF (tVal (eIsi "tuple" (eOp opIx (eVar 0) (eC (.int 1)))))) (tVal (eOp opLt (eCallB cLen (aCons (eOp opIx (eVar 0) (eC (.int 1))) aNil)) (eC (.int 2)))) [some (.d (Tr.nd w ts).d), none] L = .ok false L := by
        rw [nd_d]
        have h3 : ¬ (((ts.map Tr.d).length : Int) < 2) := by rw [len]; omega
        generalize ts.map Tr.d = E at *
        simp [Va.kind, isKind, h3]
      rw [u_sIf, u_tOrF, tin]
      simp only [Res.bind_ok, Bool.false_eq_true, if_false, t2, then_ok]
      rfl) ?_
    rw [u_sRet, i5]
    simp only [then_ok]
end L2.HW
namespace L2.HW
open PySem PySem.Spec PyProof.Rows L2.HW.G
end L2.HW
namespace L2.HW
open PySem L2.HW.G
end L2.HW
namespace L2.HW
open PySem PySem.Spec PyProof.Rows L2.HW.G
theorem ix1 (w : Bool) (ts : List Tr) (i : Nat) (env : En) (L : LH) (h : env[i]? = some (some (.d (Tr.nd w ts).d))) : eOp opIx (eVar i) (eC (.int 1)) env L = .ok (.d (.tuple (ts.map Tr.d))) L := by
  have ev : eVar i env L = .ok (.d (Tr.nd w ts).d) L := by simp [eVar, h]
  rw [u_eOp, ev, nd_d]
  generalize ts.map Tr.d = E
  simp
theorem mkTup_d (E : List PyData) : mkTup (E.map Va.d) = .d (.tuple E) := by simp [mkTup]
theorem tup_lst (E : List PyData) (K : LH) : cTuple [.d (.list E)] K = .ok (.d (.tuple E)) K := by
  rw [u_cTuple]
  simp only [items_list, mkTup_d]
end L2.HW
namespace L2.HW
open PySem PySem.Spec PyProof.Rows L2.HW.G
theorem look_form_run {t : Tr} (h : wf2 t) (hl : (allR t).length ≤ 70) (L : LH) : F_look_at_form [.d t.d] L = .ok (.d .none) L := by
  have r := is_form_run 70 t h hl (by omega) L
  simp [F_look_at_form, mkFn, b_look_at_form, r]
end L2.HW
namespace L2.HW
open PySem PySem.Spec PyProof.Rows
structure SameL (A B : Wb) : Prop where
  m : A.m = B.m
  b : A.b = B.b
  e : A.e = B.e
  rs : ∀ i : Nat, (A.rs[i]?).map (fun r => (r.u, r.v, r.l)) = (B.rs[i]?).map (fun r => (r.u, r.v, r.l))
theorem SameL.symm {A B : Wb} (s : SameL A B) : SameL B A := ⟨s.m.symm, s.b.symm, s.e.symm, fun i => (s.rs i).symm⟩
theorem SameL.at {A B : Wb} (s : SameL A B) {i : Nat} {r : Rd} (h : A.rs[i]? = some r) : ∃ q, B.rs[i]? = some q ∧ q.u = r.u ∧ q.v = r.v ∧ q.l = r.l := by
  have := s.rs i
  rw [h] at this
  cases e : B.rs[i]? with
  | none => rw [e] at this; cases this
  | some q =>
    rw [e] at this
    simp at this
    exact ⟨q, rfl, this.1.symm, this.2.1.symm, this.2.2.symm⟩
end L2.HW
namespace L2.HW
open PySem PySem.Spec PyProof.Rows
end L2.HW
namespace L2.HW
open PySem PySem.Spec PyProof.Rows
end L2.HW
namespace L2.HW
open PySem PySem.Spec PyProof.Rows
end L2.HW
namespace L2.HW
open PySem PySem.Spec PyProof.Rows
end L2.HW
namespace L2.HW
open PySem PySem.Spec PyProof.Rows
def Wb.mul (W : Wb) (a k : Int) : Wb := ⟨W.m, W.b, W.e, W.rs.map fun r => ⟨r.u, r.v, r.l * a, r.w * k⟩⟩
end L2.HW
namespace L2.HW
open PySem PySem.Spec PyProof.Rows
def Wb.two (W : Wb) (k : Nat) (r : Rd) : Wb := ⟨W.m + 1, W.b, W.e, W.rs.take k ++ [⟨r.u, W.m, 1, r.w⟩, ⟨W.m, r.v, r.l - 1, r.w⟩] ++ W.rs.drop (k + 1)⟩
end L2.HW
namespace L2.HW
open PySem PySem.Spec PyProof.Rows
end L2.HW
namespace L2.HW
open PySem PySem.Spec PyProof.Rows
end L2.HW
namespace L2.HW
open PySem PySem.Spec PyProof.Rows
end L2.HW
namespace L2.HW
open PySem PySem.Spec PyProof.Rows L2.HW.G
end L2.HW
namespace L2.HW
open PySem PySem.Spec PyProof.Rows L2.HW.G
end L2.HW
namespace L2.HW
open PySem PySem.Spec PyProof.Rows
end L2.HW
namespace L2.HW
open PySem PySem.Spec PyProof.Rows
end L2.HW
namespace L2.HW
open PySem PySem.Spec PyProof.Rows
end L2.HW
namespace L2.HW
open PySem PySem.Spec PyProof.Rows
end L2.HW
namespace L2.HW
open PySem PySem.Spec PyProof.Rows
abbrev ORow := Int × Option Int
def cl (x : Row) : ORow := (x.1, some x.2)
end L2.HW
namespace L2.HW
open PySem PySem.Spec PyProof.Rows
end L2.HW
namespace L2.HW
open PySem PySem.Spec PyProof.Rows
end L2.HW
namespace L2.HW
open PySem PySem.Spec PyProof.Rows
end L2.HW
namespace L2.HW
open PySem PySem.Spec PyProof.Rows
structure Sh45 where
  m : Int
  b : Int
  e : Int
  ps : List Pr
def Sh45.ok (x : Sh45) : Prop := ∃ top cnt, GoodS top cnt x.m x.b x.e x.ps ∧ top ≤ 70 ∧ cnt ≤ 9 ∧ (x.ps.length + 1) ^ x.m.toNat ≤ 16000000
end L2.HW
namespace L2.HW
open PySem PySem.Spec PyProof.Rows
end L2.HW
namespace L2.HW
open PySem PySem.Spec PyProof.Rows
end L2.HW
namespace L2.HW
open PySem PySem.Spec PyProof.Rows
end L2.HW
namespace L2.HW
open PySem PySem.Spec PyProof.Rows L2.HW.G
end L2.HW
namespace L2.HW
open PySem PySem.Spec PyProof.Rows L2.HW.G
theorem compL_rel {g : Va → En → LH → Res En} {f : EF} {env : En} {L : LH} {n : Nat} {α β : Type} (enc : α → Va) (encb : β → Va) (R : α → β → Prop) : ∀ (xs : List α) (p : Int),
    (∀ x ∈ xs, ∀ p, ∃ env1 u p', g (enc x) env (L.set n (P1 p)) = .ok env1 (L.set n (P1 p)) ∧ f env1 (L.set n (P1 p)) = .ok (encb u) (L.set n (P1 p')) ∧ R x u) →
    ∃ (us : List β) (p' : Int), compL g tTrue f (xs.map enc) env (L.set n (P1 p)) = .ok (us.map encb) (L.set n (P1 p')) ∧ Paired R xs us
  | [], p, _ => ⟨[], p, rfl, .nil⟩
  | w :: ws, p, k => by
    obtain ⟨env1, y, p1, e1, e2, hy⟩ := k w List.mem_cons_self p
    obtain ⟨ys, p2, e3, h3⟩ := compL_rel enc encb R ws p1 fun w hw => k w (List.mem_cons_of_mem _ hw)
    refine ⟨y :: ys, p2, ?_, .cons hy h3⟩
    rw [List.map_cons]
    unfold compL
    rw [e1]
    simp only [u_tTrue, if_true, e2, e3, Res.bind_ok, List.map_cons]
theorem fComp_rel {s : Srcf} {g : Va → En → LH → Res En} {f : EF} {vs : List Nat} {env : En} {L : LH} {n : Nat} {p q : Int} {α : Type} (enc : α → Va) (R : α → Tr → Prop) (xs : List α) (hs : s env (L.set n (P1 q)) = .ok (xs.map enc, none) (L.set n (P1 p))) (hz : xs.length ≤ sizeLine)
    (k : ∀ x ∈ xs, ∀ p, ∃ env1 u p', g (enc x) (wipeE env vs) (L.set n (P1 p)) = .ok env1 (L.set n (P1 p)) ∧ f env1 (L.set n (P1 p)) = .ok (.d (Tr.d u)) (L.set n (P1 p')) ∧ R x u) :
    ∃ (us : List Tr) (p' : Int), eDat (fComp s g tTrue f vs) env (L.set n (P1 q)) = .ok (.d (.list (us.map Tr.d))) (L.set n (P1 p')) ∧ Paired R xs us := by
  obtain ⟨us, p', e, h1⟩ := compL_rel (g := g) (f := f) (env := wipeE env vs) (L := L) (n := n) enc (fun u : Tr => Va.d u.d) R xs p k
  refine ⟨us, p', ?_, h1⟩
  rw [u_eDat]
  unfold fComp
  rw [hs]
  simp only [Res.bind_ok, List.length_map, if_pos hz, lockL_none, e, openL_none]
  rw [← ds_va, va_lst]
end L2.HW
namespace L2.HW
open PySem PySem.Spec PyProof.Rows
end L2.HW
namespace L2.HW
open PySem PySem.Spec PyProof.Rows L2.HW.G
end L2.HW
namespace L2.HW
open PySem PySem.Spec PyProof.Rows L2.HW.G
end L2.HW
namespace L2.HW
open PySem PySem.Spec PyProof.Rows L2.HW.G
end L2.HW
namespace L2.HW
open PySem PySem.Spec PyProof.Rows L2.HW.G
end L2.HW
namespace L2.HW
open PySem PySem.Spec PyProof.Rows L2.HW.G
end L2.HW
namespace L2.HW
open PySem PySem.Spec PyProof.Rows L2.HW.G
end L2.HW
namespace L2.HW
open PySem PySem.Spec PyProof.Rows L2.HW.G
end L2.HW
namespace L2.HW
open PySem PySem.Spec PyProof.Rows L2.HW.G
end L2.HW
namespace L2.HW
open PySem PySem.Spec PyProof.Rows L2.HW.G
end L2.HW
namespace L2.HW
open PySem PySem.Spec PyProof.Rows L2.HW.G
end L2.HW
namespace L2.HW
open PySem PySem.Spec PyProof.Rows L2.HW.G
theorem GoodS.more {t c m b e : Int} {ps : List Pr} (g : GoodS t c m b e ps) : GoodS (t + 1) (c + 1) (m + 1) b e (ps ++ [(b, m)]) := by
  have h1 := g.m2; have h2 := g.mt; have h3 := g.b0; have h4 := g.b1; have h5 := g.e0; have h6 := g.e1; have h7 := g.be; have h8 := g.len
  refine ⟨by omega, by omega, h3, by omega, h5, by omega, h7, fun p hp => ?_, by simp; omega, ?_⟩
  · rcases List.mem_append.mp hp with hp | hp
    · obtain ⟨k1, k2, k3, k4, k5⟩ := g.rd p hp
      exact ⟨k1, by omega, k3, by omega, k5⟩
    · have : p = (b, m) := by simpa using hp
      subst this
      exact ⟨h3, by show b < m + 1; omega, by show 0 ≤ m; omega, by show m < m + 1; omega, h7⟩
  · obtain ⟨r, hr⟩ := g.acy
    refine ⟨fun x => if x = m then r b + 1 else r x, fun p hp => ?_⟩
    rcases List.mem_append.mp hp with hp | hp
    · obtain ⟨k1, k2, k3, k4, k5⟩ := g.rd p hp
      have := hr p hp
      show (if p.1 = m then r b + 1 else r p.1) < (if p.2 = m then r b + 1 else r p.2)
      rw [if_neg (by omega), if_neg (by omega)]
      exact this
    · have : p = (b, m) := by simpa using hp
      subst this
      show (if b = m then r b + 1 else r b) < (if m = m then r b + 1 else r m)
      rw [if_neg (by omega), if_pos rfl]
      omega
end L2.HW
namespace L2.HW
open PySem PySem.Spec PyProof.Rows L2.HW.G
end L2.HW
namespace L2.HW
open PySem PySem.Spec PyProof.Rows L2.HW.G
end L2.HW
namespace L2.HW
open PySem PySem.Spec PyProof.Rows L2.HW.G
abbrev t0 : Tr := .nd true [.nd false [.rd 0, .rd 1], .rd 2]
end L2.HW
namespace L2.HW
open PySem PySem.Spec PyProof.Rows L2.HW.G
end L2.HW
namespace L2.HW
open PySem PySem.Spec PyProof.Rows
end L2.HW
namespace L2.HW
open PySem PySem.Spec PyProof.Rows
@[simp] theorem getK (L g : LH) (k : Nat) : (L ++ g)[L.length + k]? = g[k]? := by rw [List.getElem?_append_right (by omega)]; simp
@[simp] theorem setK (L g : LH) (k : Nat) (o : Option Ob) : (L ++ g).set (L.length + k) o = L ++ g.set k o := by rw [List.set_append_right _ _ (by omega)]; simp
def badS (x : PyData) : Prop := fine x = true ∧ x.depth ≤ 6 ∧ x.bulk ≤ 100 ∧ shapeB x = false
instance (x : PyData) : Decidable (badS x) := by unfold badS; infer_instance
end L2.HW
namespace L2.HW
open PySem PySem.Spec PyProof.Rows L2.HW.G
end L2.HW
namespace L2.HW
open PySem PySem.Spec PyProof.Rows L2.HW.G
def form1 (g : PyData → Bool) : PyData → Bool
  | .int i => decide (0 ≤ i)
  | .tuple [.str w, .tuple ts] => (decide (w = "behind") || decide (w = "beside")) && decide (2 ≤ ts.length) && ts.all g
  | _ => false
def formK : Nat → PyData → Bool
  | 0, _ => false
  | k + 1, x => form1 (formK k) x
theorem form1_tup {g : PyData → Bool} (w : Str) (ts : List PyData) : form1 g (.tuple [.str w, .tuple ts]) = ((decide (w = "behind") || decide (w = "beside")) && decide (2 ≤ ts.length) && ts.all g) := rfl
theorem form_gen : ∀ (k : Nat) (x : PyData) (L : LH), fine x = true → x.depth < k → x.depth ≤ 50 → x.bulk ≤ 8000 → F_is_form k [.d x] L = .ok (.d (.bool (formK k x))) L
  | 0, x, L, _, h, _, _ => absurd h (by omega)
  | k + 1, x, L, hf, hd, hd5, hb => by
    have zs := sizeLine_eq
    obtain ⟨E, hE⟩ : ∃ E : En, E = [some (.d x), none] := ⟨_, rfl⟩
    have goal : ∀ o, b_is_form (F_is_form k) E L = .rt (.d o) L → F_is_form (k + 1) [.d x] L = .ok (.d o) L := fun o h => by
      refine fn_rt (L' := L) (x := o) rfl ?_
      rw [hE] at h
      exact h
    refine goal _ ?_
    show b_is_form (F_is_form k) E L = .rt (.d (.bool (form1 (formK k) x))) L
    by_cases hw : wholeB x = true
    · cases x with
      | int i =>
        have h0 : (0 : Int) ≤ i := by simpa [wholeB] using hw
        have e : form1 (formK k) (.int i) = true := by simp [form1, h0]
        rw [e, hE]
        simp [b_is_form, hw]
      | _ => simp [wholeB] at hw
    · have hw2 : wholeB x = false := Bool.eq_false_iff.mpr hw
      have n1 : sIf (tVal (eCall F_is_whole (aCons (eVar 0) aNil))) (sRet (eC (.bool true))) sNil E L = .nx E L := by
        rw [hE]
        simp [hw2]
      refine seq_nx n1 ?_
      by_cases hs : ∃ w x1, x = .tuple [.str w, x1]
      · obtain ⟨w, x1, rfl⟩ := hs
        refine seq_nx (env1 := E) (L1 := L) (by
          rw [hE]
          have a0 : atI [Va.d (PyData.str w), Va.d x1] 0 = some (.d (.str w)) := rfl
          simp [Va.kind, isKind, Va.seq, a0, Va.data, eqv_int]) ?_
        have a0 : atI [Va.d (PyData.str w), Va.d x1] 0 = some (.d (.str w)) := rfl
        have a1 : atI [Va.d (PyData.str w), Va.d x1] 1 = some (.d x1) := rfl
        have sx : Va.seq L (.d (.tuple [.str w, x1])) = some [.d (.str w), .d x1] := rfl
        have e0 : eOp opIx (eVar 0) (eC (.int 0)) E L = .ok (.d (.str w)) L := by
          have ev : eVar 0 E L = .ok (.d (.tuple [.str w, x1])) L := by rw [hE]; rfl
          rw [u_eOp, ev]
          simp only [Res.bind_ok, u_eC, u_opIx, dget_d, sx, a0]
        have e1 : eOp opIx (eVar 0) (eC (.int 1)) E L = .ok (.d x1) L := by
          have ev : eVar 0 E L = .ok (.d (.tuple [.str w, x1])) L := by rw [hE]; rfl
          rw [u_eOp, ev]
          simp only [Res.bind_ok, u_eC, u_opIx, dget_d, sx, a1]
        have tin : tVal (eOp (opIn true) (eOp opIx (eVar 0) (eC (.int 0))) (eTup (aCons (eC (.str "behind")) (aCons (eC (.str "beside")) aNil)))) E L = .ok (!(decide (w = "behind") || decide (w = "beside"))) L := by
          have k2 : 0 + 1 + 1 ≤ sizeLine := by omega
          have m2 : mkTup [Va.d (.str "behind"), .d (.str "beside")] = .d (.tuple [.str "behind", .str "beside"]) := rfl
          have fl : (flatD (.str w) && [PyData.str "behind", .str "beside"].all flatD) = true := rfl
          have an : ([PyData.str "behind", .str "beside"].any fun z => PyData.eqv z (.str w)) = (decide (w = "behind") || decide (w = "beside")) := by
            simp only [List.any_cons, List.any_nil, Bool.or_false, eqv_strD]
            rw [Bool.eq_iff_iff]
            simp only [Bool.or_eq_true, decide_eq_true_eq]
            exact ⟨fun h => h.imp Eq.symm Eq.symm, fun h => h.imp Eq.symm Eq.symm⟩
          rw [u_tVal, u_eOp, e0]
          simp only [Res.bind_ok, u_eTup, u_aCons, u_eC, u_aNil, List.length_cons, List.length_nil, if_pos k2, m2, u_opIn, dget_d, fl, if_true, an]
        by_cases hwd : w = "behind" ∨ w = "beside"
        · have hwd0 : (decide (w = "behind") || decide (w = "beside")) = true := by
            rcases hwd with h | h <;> simp [h]
          rw [hwd0] at tin
          by_cases ht : ∃ ts, x1 = .tuple ts ∧ 2 ≤ ts.length
          · obtain ⟨ts, rfl, h2⟩ := ht
            have st : Va.seq L (.d (.tuple ts)) = some (ts.map Va.d) := rfl
            have n3 : sIf (tOrF (tVal (eOp (opIn true) (eOp opIx (eVar 0) (eC (.int 0))) (eTup (aCons (eC (.str "behind")) (aCons (eC (.str "beside")) aNil))))) (tOrF (tNotF (tVal (eIsi "tuple" (eOp opIx (eVar 0) (eC (.int 1)))))) (tVal (eOp opLt (eCallB cLen (aCons (eOp opIx (eVar 0) (eC (.int 1))) aNil)) (eC (.int 2)))))) (sRet (eC (.bool false))) sNil E L = .nx E L := by
              have h3 : ¬ (ts.length : Int) < 2 := by omega
              rw [u_sIf, u_tOrF, tin]
              simp only [Res.bind_ok, Bool.not_true, Bool.false_eq_true, if_false]
              rw [u_tOrF, u_tNotF, u_tVal, u_eIsi, e1]
              simp only [Res.bind_ok, Va.kind, isKind]
              rw [u_tVal, u_eOp, u_eCallB, u_aCons, e1]
              simp [st, h3, isKind]
            refine seq_nx n3 ?_
            have hft : ∀ t ∈ ts, fine t = true ∧ t.depth < k ∧ t.depth ≤ 50 ∧ t.bulk ≤ 8000 := fun t ht => by
              have f1 : fineAll ts = true := by
                simp only [fine, fineAll, Bool.and_eq_true] at hf
                exact hf.2.1
              have d1 : t.depth ≤ PyData.depthAll ts := depthAll_le.mp (Nat.le_refl _) t ht
              have b1 : t.bulk ≤ PyData.bulkAll ts := bulk_mem ht
              simp only [PyData.depth, PyData.depthAll] at hd hd5
              simp only [PyData.bulk, PyData.bulkAll] at hb
              exact ⟨fineAll_iff.mp f1 t ht, by omega, by omega, by omega⟩
            have lts : ts.length ≤ PyData.bulkAll ts := len_bulk ts
            have hbt : PyData.bulkAll ts ≤ 8000 := by simp only [PyData.bulk, PyData.bulkAll] at hb; omega
            have fc := fComp_map (s := srcV (eOp opIx (eVar 0) (eC (.int 1)))) (g := tN 1) (f := eCall (F_is_form k) (aCons (eVar 1) aNil)) (vs := [1]) (env := E) (L := L) (xs := ts) (h := fun t => PyData.bool (formK k t)) (by
              have so : srcOf (.d (.tuple ts)) L = some (ts.map Va.d, none) := rfl
              rw [u_srcV, e1]
              simp only [Res.bind_ok, so]) (by omega) (fun t ht => by
              obtain ⟨q1, q2, q3, q4⟩ := hft t ht
              have ih := form_gen k t L q1 q2 q3 q4
              refine ⟨_, rfl, ?_⟩
              rw [hE]
              simp [wipeE, ih])
            have al := cAll_ty ts (fun t => formK k t) L
            have eal : (ts.map fun t => PyData.bool (formK k t)).map Va.d = ts.map fun t => Va.d (.bool (formK k t)) := by rw [List.map_map]; rfl
            have ef : form1 (formK k) (.tuple [.str w, .tuple ts]) = ts.all (formK k) := by
              rw [form1_tup, hwd0]
              simp [h2]
            rw [ef, u_sRet, u_eCallB, u_aCons, u_eDat, fc]
            simp only [Res.bind_ok, va_lst, u_aNil, al, then_ok]
          · have ld : form1 (formK k) (.tuple [.str w, x1]) = false := by
              cases x1 with
              | tuple ts =>
                have : ¬ 2 ≤ ts.length := fun z => ht ⟨ts, rfl, z⟩
                rw [form1_tup]
                simp [this]
              | _ => rfl
            rw [ld]
            refine seq_rt ?_
            rw [u_sIf, u_tOrF, tin]
            simp only [Res.bind_ok, Bool.not_true, Bool.false_eq_true, if_false]
            rw [u_tOrF, u_tNotF, u_tVal, u_eIsi, e1]
            cases x1 with
            | tuple ts =>
              have h2 : ¬ 2 ≤ ts.length := fun z => ht ⟨ts, rfl, z⟩
              have h3 : (ts.length : Int) < 2 := by omega
              have st : Va.seq L (.d (.tuple ts)) = some (ts.map Va.d) := rfl
              simp only [Res.bind_ok, Va.kind, isKind]
              rw [u_tVal, u_eOp, u_eCallB, u_aCons, e1]
              simp [st, h3, isKind]
            | dict d => simp [fine, fineAll] at hf
            | _ => simp [Va.kind, isKind]
        · have hwd0 : (decide (w = "behind") || decide (w = "beside")) = false := by
            have h1 : ¬ w = "behind" := fun z => hwd (.inl z)
            have h2 : ¬ w = "beside" := fun z => hwd (.inr z)
            simp [h1, h2]
          rw [hwd0] at tin
          have ld : form1 (formK k) (.tuple [.str w, x1]) = false := by
            cases x1 with
            | tuple ts => rw [form1_tup, hwd0]; rfl
            | _ => rfl
          rw [ld]
          refine seq_rt ?_
          rw [u_sIf, u_tOrF, tin]
          simp
      · have ld : form1 (formK k) x = false := by
          unfold form1
          split
          · rename_i i
            have : ¬ 0 ≤ i := fun z => by simp [wholeB, z] at hw
            simp [this]
          · rename_i w ts
            exact absurd ⟨w, .tuple ts, rfl⟩ hs
          · rfl
        rw [ld]
        refine seq_rt ?_
        rw [hE]
        cases x with
        | tuple xs =>
          match xs, hs with
          | [x0, x1], hs =>
            have a0 : atI [Va.d x0, Va.d x1] 0 = some (.d x0) := rfl
            have hn : ∀ w, x0 ≠ .str w := fun w z => hs ⟨w, x1, by rw [z]⟩
            cases x0 with
            | str w => exact absurd rfl (hn w)
            | dict d => simp [fine, fineAll] at hf
            | _ => simp [Va.kind, isKind, Va.seq, a0, Va.data, eqv_int]
          | [], _ => simp [Va.kind, isKind, Va.seq, Va.data, eqv_int]
          | [_], _ => simp [Va.kind, isKind, Va.seq, Va.data, eqv_int]
          | a :: c :: d :: r, _ =>
            have h3 : ¬ ((r.length : Int) + 1 + 1 + 1 = 2) := by omega
            simp [Va.kind, isKind, Va.seq, Va.data, eqv_int, h3]
        | dict d => simp [fine] at hf
        | _ => simp [Va.kind, isKind]
end L2.HW
namespace L2.HW
open PySem PySem.Spec PyProof.Rows L2.HW.G PySem.NumText
abbrev cpsL (w : Str) : List Nat := w.cps.toList
abbrev figS : Str := "0123456789"
def digB (c : Nat) : Bool := decide (c ∈ figS.cps.toList)
theorem figS_eq : figS.cps.toList = [48, 49, 50, 51, 52, 53, 54, 55, 56, 57] := by decide +kernel
theorem digB_iff (c : Nat) : digB c = true ↔ 48 ≤ c ∧ c ≤ 57 := by
  unfold digB
  rw [figS_eq]
  simp
  omega
theorem alldig {w : Str} (h : (cpsL w).all digB = true) : AllDigits (cpsL w) := fun c hc => (digB_iff c).mp (List.all_eq_true.mp h c hc)
theorem str_dec (a b : Str) : PyData.eqv (.str a) (.str b) = decide (a = b) := eqv_strD a b
theorem one_eq (c d : Nat) : ((⟨#[c]⟩ : Str) = ⟨#[d]⟩) ↔ c = d := by
  constructor
  · intro h
    have : #[c] = #[d] := congrArg Str.cps h
    simpa using this
  · intro h; rw [h]
end L2.HW
namespace L2.HW
open PySem PySem.Spec PyProof.Rows L2.HW.G PySem.NumText TL
theorem digitsVal_lt : ∀ cs : List Nat, AllDigits cs → digitsVal cs < 10 ^ cs.length := by
  have go : ∀ (cs : List Nat) (a : Nat), AllDigits cs → cs.foldl (fun acc c => acc * 10 + (c - 48)) a < (a + 1) * 10 ^ cs.length := by
    intro cs
    induction cs with
    | nil => intro a _; simp
    | cons c cs ih =>
      intro a h
      have h1 := h.head
      have := ih (a * 10 + (c - 48)) h.tail
      rw [List.foldl_cons, List.length_cons, Nat.pow_succ]
      have e : (a * 10 + (c - 48) + 1) * 10 ^ cs.length ≤ (a * 10 + 10) * 10 ^ cs.length := Nat.mul_le_mul_right _ (by omega)
      have e2 : (a * 10 + 10) * 10 ^ cs.length = (a + 1) * (10 ^ cs.length * 10) := by
        rw [show a * 10 + 10 = (a + 1) * 10 by omega, Nat.mul_assoc, Nat.mul_comm 10]
      omega
  intro cs h
  have := go cs 0 h
  simpa [digitsVal] using this
theorem fine_num {n : Int} (h : 0 ≤ n ∧ n < 10 ^ 30) : fine (.int n) = true := by
  have h2 : n.natAbs.log2 < 1920 := by
    by_cases z : n.natAbs = 0
    · rw [z]; decide
    · have e : ((10 : Int) ^ 30) = ((10 ^ 30 : Nat) : Int) := by decide +kernel
      rw [e] at h
      have b : n.natAbs < 10 ^ 30 := by omega
      have c : (10 : Nat) ^ 30 < 2 ^ 100 := by decide +kernel
      have := (Nat.log2_lt z).mpr (Nat.lt_trans b c)
      omega
  simp [fine, h2]
end L2.HW
namespace L2.HW
open PySem PySem.Spec PyProof.Rows L2.HW.G PySem.NumText TL
end L2.HW
namespace L2.HW
open PySem PySem.Spec PyProof.Rows L2.HW.G PySem.NumText TL
theorem cut_from {α : Type} (xs : List α) (i : Nat) : cutA xs (some (i : Int)) none = xs.drop i := by
  unfold cutA
  rw [HT.sIx_nat, HT.sIx_none]
  by_cases h : i ≤ xs.length
  · rw [Nat.min_eq_left h, List.take_of_length_le (by rw [List.length_drop]; omega)]
  · rw [List.drop_eq_nil_of_le (by omega : xs.length ≤ min i xs.length), List.drop_eq_nil_of_le (by omega : xs.length ≤ i)]
    simp
theorem cut_to {α : Type} (xs : List α) (i : Nat) : cutA xs none (some (i : Int)) = xs.take i := by
  unfold cutA
  rw [HT.sIx_nat, HT.sIx_none, Nat.sub_zero, List.drop_zero]
  by_cases h : i ≤ xs.length
  · rw [Nat.min_eq_left h]
  · rw [Nat.min_eq_right (by omega), List.take_of_length_le (Nat.le_refl _), List.take_of_length_le (by omega)]
theorem strOk_iff {w : Str} : PyData.strOk w = true ↔ ∀ c ∈ tl w, c < 0x110000 := by
  unfold PyData.strOk
  rw [← Array.all_toList, List.all_eq_true]
  simp
end L2.HW
namespace L2.HW
open PySem PySem.Spec PyProof.Rows L2.HW.G PySem.NumText TL
theorem enum_cons (k : Int) (x : PyData) (xs : List PyData) : enumV k ((x :: xs).map Va.d) = Va.d (.tuple [.int k, x]) :: enumV (k + 1) (xs.map Va.d) := by
  have e : ∀ i : Nat, (xs.map Va.d).zipIdx (i + 1) = ((xs.map Va.d).zipIdx i).map fun p => (p.1, p.2 + 1) := fun i => by
    rw [List.zipIdx_succ]
  unfold enumV
  rw [List.map_cons, List.zipIdx_cons, List.map_cons, e 0, List.map_map]
  refine congr (congrArg List.cons ?_) ?_
  · show mkTup [Va.d (.int (k + ((0 : Nat) : Int))), Va.d x] = _
    rw [show k + ((0 : Nat) : Int) = k by omega]
    rfl
  · refine List.map_congr_left fun p _ => ?_
    show mkTup [Va.d (.int (k + ((p.2 + 1 : Nat) : Int))), p.1] = mkTup [Va.d (.int (k + 1 + (p.2 : Int))), p.1]
    rw [show k + ((p.2 + 1 : Nat) : Int) = k + 1 + (p.2 : Int) by omega]
end L2.HW
namespace L2.HW
open PySem PySem.Spec PyProof.Rows L2.HW.G PySem.NumText TL
theorem for_exc {s : Srcf} {g : Va → En → LH → Res En} {body : SFn} {env env1 : En} {L L1 : LH} {c : Str} {x : Option PyData} {ws : List Va} (hs : s env L = .ok (ws, none) L) (h : forL g body ws env L = .exc c x env1 L1) : sFor s g body env L = .exc c x env1 L1 := by
  simp only [sFor, hs, then_ok, lockL_none, h]
  rfl
end L2.HW
namespace L2.HW
open PySem PySem.Spec PyProof.Rows L2.HW.G PySem.NumText TL
end L2.HW
namespace L2.HW
open PySem PySem.Spec PyProof.Rows L2.HW.G PySem.NumText TL
end L2.HW
namespace L2.HW
open PySem PySem.Spec PyProof.Rows L2.HW.G PySem.NumText TL
def numS (n : Int) : Str := Str.ofString (toString n)
def digs (k : Nat) : List Nat := if h : k < 10 then [48 + k] else digs (k / 10) ++ [48 + k % 10]
theorem digs_lt {k : Nat} (h : k < 10) : digs k = [48 + k] := by rw [digs]; simp [h]
theorem digs_ge {k : Nat} (h : ¬ k < 10) : digs k = digs (k / 10) ++ [48 + k % 10] := by
  conv => lhs; rw [digs]
  simp [h]
theorem digs_ok : ∀ k : Nat, AllDigits (digs k) ∧ digs k ≠ [] ∧ digitsVal (digs k) = k ∧ (∀ m, 1 ≤ m → k < 10 ^ m → (digs k).length ≤ m) ∧ (1 ≤ k → ∃ c r, digs k = c :: r ∧ 49 ≤ c) := by
  intro k
  induction k using Nat.strongRecOn with
  | ind k ih =>
    by_cases h : k < 10
    · rw [digs_lt h]
      refine ⟨fun c hc => ?_, by simp, by simp [digitsVal], fun m hm _ => by simpa using hm, fun h1 => ⟨48 + k, [], rfl, by omega⟩⟩
      rw [List.mem_singleton.mp hc]
      omega
    · obtain ⟨i1, i2, i3, i4, i5⟩ := ih (k / 10) (by omega)
      rw [digs_ge h]
      refine ⟨fun c hc => ?_, by simp, ?_, fun m hm hk => ?_, fun _ => ?_⟩
      · rcases List.mem_append.mp hc with hc | hc
        · exact i1 c hc
        · rw [List.mem_singleton.mp hc]
          omega
      · rw [digitsVal_snoc, i3]
        omega
      · have hm2 : 2 ≤ m := by
          by_cases z : m = 1
          · rw [z] at hk; omega
          · omega
        have e : (10 : Nat) ^ m = 10 ^ (m - 1) * 10 := by
          rw [← Nat.pow_succ]
          congr 1
          omega
        have := i4 (m - 1) (by omega) (by rw [e] at hk; omega)
        rw [List.length_append, List.length_cons, List.length_nil]
        omega
      · obtain ⟨c, r, e, h9⟩ := i5 (by omega)
        exact ⟨c, r ++ [48 + k % 10], by rw [e]; rfl, h9⟩
theorem numS_tl {k : Nat} : tl (numS (k : Int)) = digs k := by
  obtain ⟨a, b, c, d, e⟩ := digs_ok k
  have len : (digs k).length = ((digs k).length - 1) + 1 := by
    have := List.length_pos_iff.mpr b
    omega
  have td : Nat.toDigits 10 (digitsVal (digs k)) = (digs k).map Char.ofNat := by
    refine toDigits_digitsVal _ _ len a ?_
    by_cases z : 1 ≤ k
    · obtain ⟨c, r, h1, h2⟩ := e z
      exact .inr ⟨c, r, h1, h2⟩
    · have : k = 0 := by omega
      subst this
      exact .inl (by rw [digs_lt (by omega)]; rfl)
  rw [c] at td
  have e1 : tl (numS (k : Int)) = ((toString (k : Int)).toList.map Char.toNat) := tl_ofString _
  have e2 : (toString (k : Int)).toList = Nat.toDigits 10 k := by
    show (String.ofList (Nat.toDigits 10 k)).toList = _
    simp
  rw [e1, e2, td, List.map_map]
  refine (List.map_congr_left fun x hx => ?_).trans (List.map_id _)
  have := a x hx
  show (Char.ofNat x).toNat = x
  exact (by decide : ∀ y, y < 58 → (Char.ofNat y).toNat = y) x (by omega)
theorem tl_join' (y : Str) (ps : List Str) : tl (Txt.join y ps) = joinL (tl y) (ps.map tl) := by rw [TL.join_eq, TL.tl_join]
theorem strOk_ascii {w : Str} (h : ∀ c ∈ tl w, c < 128) : PyData.strOk w = true := strOk_iff.mpr fun c hc => by have := h c hc; omega
end L2.HW
namespace L2.HW
open PySem PySem.Spec PyProof.Rows L2.HW.G PySem.NumText TL
theorem str_run {n : Int} (h : 0 ≤ n ∧ n < 10 ^ 30) (L : LH) : cStr [.d (.int n)] L = .ok (.d (.str (numS n))) L := by
  have := fine_num h
  simp only [fine, decide_eq_true_eq] at this
  rw [u_cStr]
  simp only [if_pos this]
  rfl
theorem join_ev {m : Str} {f : EF} {ys : List Str} {env : En} {L : LH} (h : f env L = .ok (.d (.list (ys.map PyData.str))) L) (ok : joinOk m ys = true) : eJoin (eC (.str m)) f env L = .ok (.d (.str (Txt.join m ys))) L := by
  rw [u_eJoin, u_eC]
  simp only [Res.bind_ok, h, Va.data, strsOf_map, if_pos ok]
theorem cat_ev {f g : EF} {xs ys : List PyData} {env : En} {L : LH} (h1 : f env L = .ok (.d (.list xs)) L) (h2 : g env L = .ok (.d (.list ys)) L) (hz : xs.length + ys.length ≤ 1000000) : eOp opAdd f g env L = .ok (.d (.list (xs ++ ys))) L := by
  have zs := sizeLine_eq
  have k : xs.length + ys.length ≤ 16777216 := by omega
  rw [u_eOp, h1]
  simp [h2, k, zs]
theorem one_ev {f : EF} {x : PyData} {env : En} {L : LH} (h : f env L = .ok (.d x) L) : eDat (fLst (aCons f aNil)) env L = .ok (.d (.list [x])) L := by
  have zs := sizeLine_eq
  have k : 0 + 1 ≤ sizeLine := by omega
  rw [u_eDat, u_fLst, u_aCons, h]
  simp only [Res.bind_ok, u_aNil, List.length_cons, List.length_nil, if_pos k]
  rfl
end L2.HW
namespace L2.HW
open PySem PySem.Spec PyProof.Rows L2.HW.G PySem.NumText TL
end L2.HW
namespace L2.HW
open PySem PySem.Spec PyProof.Rows L2.HW.G PySem.NumText TL
end L2.HW
namespace L2.HW
open PySem PySem.Spec PyProof.Rows L2.HW.G PySem.NumText TL
theorem word_text (x : PyData) (L : LH) : F_l_word_of [.exc "NoText" (some x)] L = .ok (.d (.str "text")) L :=
  word_gen (F := fun y => isErr "NoText" y || decide (y = "ValueError")) L (fun y _ env he => by
    have hc : ("NoText" : Str) ∈ ten := by decide
    simp [he, hc]) (.inr ⟨by rw [chosen, show chosenS (fun y => isErr "NoText" y || decide (y = "ValueError")) = (["text", "value", "error"] : List Str) from by decide +kernel]; rfl, cmpOk_of (by decide +kernel) (by decide +kernel)⟩)
theorem show_nat (n : Nat) (h : n ≤ 1000000) : okShow (.int (n : Int)) := by
  have f : fine (.int (n : Int)) = true := fine_num ⟨Int.natCast_nonneg _, by
    have e : ((10 : Int) ^ 30) = ((10 ^ 30 : Nat) : Int) := by decide +kernel
    have : (1000000 : Nat) < 10 ^ 30 := by decide +kernel
    rw [e]
    omega⟩
  exact okShow_of f (by simp [PyData.depth]) (by simp [PyData.bulk])
end L2.HW
namespace L2.HW
open PySem PySem.Spec PyProof.Rows L2.HW.G PySem.NumText TL
theorem tl_cutS (z : Str) (lo hi : Option Int) : tl (cutS z lo hi) = cutA (tl z) lo hi := by
  unfold cutS cutA
  rw [len_tl]
theorem cutS_to (z : Str) (k : Nat) : tl (cutS z none (some (k : Int))) = (tl z).take k := by rw [tl_cutS, cut_to]
theorem cutS_from (z : Str) (k : Nat) : tl (cutS z (some (k : Int)) none) = (tl z).drop k := by rw [tl_cutS, cut_from]
theorem ssl_to {i j : Nat} {z : Str} {k : Nat} (hz : z.length ≤ 1000000) {env : En} {L : LH} (h : env[i]? = some (some (.d (.str z)))) {g : EF} (hg : g env L = .ok (.d (.int (k : Int))) L) : eSl (eVar i) pNone (pSome g) env L = .ok (.d (.str (cutS z none (some (k : Int))))) L := by
  have zs := sizeLine_eq
  have kk : z.length ≤ sizeLine := by omega
  have so : pSome g env L = .ok (some (k : Int)) L := by simp [hg]
  have sn : pNone env L = .ok none L := by simp
  have op : opSl (.d (.str z)) none (some (k : Int)) L = .ok (.d (.str (cutS z none (some (k : Int))))) L := by
    show (if z.length ≤ sizeLine then _ else _) = _
    rw [if_pos kk]
  unfold eSl
  rw [u_eVar, h]
  simp only [Res.bind_ok, so, sn, op]
theorem ssl_from {i : Nat} {z : Str} {k : Nat} (hz : z.length ≤ 1000000) {env : En} {L : LH} (h : env[i]? = some (some (.d (.str z)))) {g : EF} (hg : g env L = .ok (.d (.int (k : Int))) L) : eSl (eVar i) (pSome g) pNone env L = .ok (.d (.str (cutS z (some (k : Int)) none))) L := by
  have zs := sizeLine_eq
  have kk : z.length ≤ sizeLine := by omega
  have so : pSome g env L = .ok (some (k : Int)) L := by simp [hg]
  have sn : pNone env L = .ok none L := by simp
  have op : opSl (.d (.str z)) (some (k : Int)) none L = .ok (.d (.str (cutS z (some (k : Int)) none))) L := by
    show (if z.length ≤ sizeLine then _ else _) = _
    rw [if_pos kk]
  unfold eSl
  rw [u_eVar, h]
  simp only [Res.bind_ok, so, sn, op]
theorem add_str_ev {f g : EF} {a b : Str} {env : En} {L M : LH} (h1 : f env L = .ok (.d (.str a)) L) (h2 : g env L = .ok (.d (.str b)) M) (hz : a.length + b.length ≤ 1000000) : eOp opAdd f g env L = .ok (.d (.str (a ++ b))) M := by
  have zs := sizeLine_eq
  have k : a.length + b.length ≤ 16777216 := by omega
  rw [u_eOp, h1]
  simp [h2, k, zs]
theorem len_app (a b : Str) : (a ++ b).length = a.length + b.length := by rw [len_tl, tl_append, List.length_append, ← len_tl, ← len_tl]
end L2.HW
namespace L2.HW
open PySem PySem.Spec PyProof.Rows L2.HW.G PySem.NumText TL
end L2.HW
namespace L2.HW
open PySem PySem.Spec PyProof.Rows L2.HW.G
def SmD (x : PyData) : Prop := cmpOk x x = true ∧ PyData.eqv x x = true
theorem ne_same {f g : EF} {x : PyData} {env : En} {L : LH} (hf : f env L = .ok (.d x) L) (hg : g env L = .ok (.d x) L) (h : SmD x) : tVal (eOp opNe f g) env L = .ok false L := by
  rw [u_tVal, u_eOp, hf]
  simp only [Res.bind_ok, hg, u_opNe, data_d, h.1, if_true, h.2, Bool.not_true]
theorem k1 {F : Fn} {i : Nat} {w : Va} {x : PyData} {env : En} {L : LH} (hi : env[i]? = some (some w)) (h : F [w] L = .ok (.d x) L) : eCallK F 1 [0] (aCons (eVar i) aNil) env L = .ok (.d x) L ∧ eCall F (aCons (eVar i) aNil) env L = .ok (.d x) L := by
  have ev : eVar i env L = .ok w L := by simp [eVar, hi]
  constructor
  · rw [u_eCallK, u_aCons, ev]
    simp [pickL, h]
  · rw [u_eCall, u_aCons, ev]
    simp [h]
theorem k2 {F : Fn} {f g : EF} {w u : Va} {x : PyData} {env : En} {L : LH} (hf : f env L = .ok w L) (hg : g env L = .ok u L) (h : F [w, u] L = .ok (.d x) L) : eCallK F 2 [1, 0] (aCons g (aCons f aNil)) env L = .ok (.d x) L ∧ eCall F (aCons f (aCons g aNil)) env L = .ok (.d x) L := by
  constructor
  · rw [u_eCallK, u_aCons, hg]
    simp [pickL, hf, h]
  · rw [u_eCall, u_aCons, hf]
    simp [hg, h]
end L2.HW
namespace L2.HW
open PySem PySem.Spec PyProof.Rows L2.HW.G PySem.NumText TL
theorem smD_str (s : Str) : SmD (.str s) := ⟨str_ok _ _, str_same _⟩
end L2.HW
namespace L2.HW
open PySem PySem.Spec PyProof.Rows L2.HW.G PySem.NumText TL
def lstS (xs : List Str) : Option Ob := some (.lst ((xs.map PyData.str).map Va.d))
theorem newS {q : Nat} {g : En → LH → Res Ob} {env : En} {L : LH} {xs : List Str} (h : g env L = .ok (.lst ((xs.map PyData.str).map Va.d)) L) (hq : q < env.length) : sSet q (eNew g) env L = .nx (env.set q (some (.loc L.length))) (L ++ [lstS xs]) := by
  rw [u_sSet, u_eNew, h]
  simp only [Res.bind_ok, then_ok, if_pos hq]
  rfl
theorem odds_run {F : Fn} {q v n : Nat} {env : En} {L : LH} {xs : List Str} (hn : L[n]? = some (lstS xs)) (hz : xs.length ≤ 1000) (hv : v < env.length) (hq : env[q]? = some (some (.loc n))) (hF : ∀ x ∈ xs, ∀ M, F [.d (.str x)] M = .ok (.d (.bool true)) M) :
    eOp opEq (eDat (fComp (srcV (eVar q)) (tN v) (tNotF (tVal (eCall F (aCons (eVar v) aNil)))) (eVar v) [v])) (eDat (fLst aNil)) env L = .ok (.d (.bool true)) L := by
  have zs := sizeLine_eq
  have hl : n < L.length := by
    rcases Nat.lt_or_ge n L.length with h | h
    · exact h
    · rw [List.getElem?_eq_none h] at hn; cases hn
  have src : srcV (eVar q) env L = .ok ((xs.map PyData.str).map Va.d, some n) L := by
    have so : srcOf (.loc n) L = some ((xs.map PyData.str).map Va.d, some n) := by
      have hn' : L[n]? = some (some (.lst ((xs.map PyData.str).map Va.d))) := hn
      unfold srcOf
      simp only [hn']
    rw [u_srcV, u_eVar, hq]
    simp only [Res.bind_ok, so]
  have c : fComp (srcV (eVar q)) (tN v) (tNotF (tVal (eCall F (aCons (eVar v) aNil)))) (eVar v) [v] env L = .ok (.lst []) L := by
    have k := compL_data (g := tN v) (t := tNotF (tVal (eCall F (aCons (eVar v) aNil)))) (f := eVar v) (env := wipeE env [v]) (L := lockL (some n) L) (fun _ => false) _root_.id (xs.map PyData.str) (fun x hx => by
      obtain ⟨s, hs, rfl⟩ := List.mem_map.mp hx
      have lw := wipeE_length env [v]
      refine ⟨(wipeE env [v]).set v (some (.d (.str s))), by rw [u_tN], ?_, fun h => by cases h⟩
      have ge : ((wipeE env [v]).set v (some (.d (.str s))))[v]? = some (some (.d (.str s))) := by
        rw [List.getElem?_set_self (by rw [lw]; exact hv)]
      have f := hF s hs (lockL (some n) L)
      have ev : eVar v ((wipeE env [v]).set v (some (.d (.str s)))) (lockL (some n) L) = .ok (.d (.str s)) (lockL (some n) L) := by rw [u_eVar, ge]
      have cl : eCall F (aCons (eVar v) aNil) ((wipeE env [v]).set v (some (.d (.str s)))) (lockL (some n) L) = .ok (.d (.bool true)) (lockL (some n) L) := by
        rw [u_eCall, u_aCons, ev]
        simp [f]
      rw [u_tNotF, u_tVal, cl]
      simp)
    have fl : ∀ ys : List PyData, ys.filter (fun _ => false) = [] := fun ys => by simp
    rw [fl] at k
    have k2 : ((xs.map PyData.str).map Va.d).length ≤ sizeLine := by rw [List.length_map, List.length_map]; omega
    have op : openL (some n) L (lockL (some n) L) = L := by
      unfold openL lockL
      simp only [hn, List.set_set]
      exact List.ext_getElem? fun m => by
        by_cases h : n = m
        · subst h
          rw [List.getElem?_set_self hl, hn]
        · rw [List.getElem?_set_ne h]
    unfold fComp
    rw [src]
    simp only [Res.bind_ok, if_pos k2, k]
    rw [op]
    rfl
  have c0 : cmpOk (.list []) (.list []) = true := by decide
  rw [u_eOp, u_eDat, c]
  simp [c0, PyData.eqv, PyData.eqvAll]
end L2.HW
namespace L2.HW
open PySem PySem.Spec PyProof.Rows L2.HW.G PySem.NumText TL
def ofL (l : List Nat) : Str := ⟨l.toArray⟩
theorem tl_ofL (l : List Nat) : tl (ofL l) = l := rfl
theorem ofL_tl (s : Str) : ofL (tl s) = s := by
  obtain ⟨⟨l⟩⟩ := s
  rfl
theorem ofL_inj {a b : List Nat} : ofL a = ofL b ↔ a = b := ⟨fun h => by have := congrArg tl h; rwa [tl_ofL, tl_ofL] at this, fun h => by rw [h]⟩
theorem ofL_app (a : List Nat) (c : Nat) : ofL a ++ (⟨#[c]⟩ : Str) = ofL (a ++ [c]) := by
  have : tl (ofL a ++ (⟨#[c]⟩ : Str)) = a ++ [c] := by rw [tl_append]; rfl
  rw [← ofL_tl (ofL a ++ _), this]
theorem len_ofL (l : List Nat) : (ofL l).length = l.length := by rw [len_tl, tl_ofL]
abbrev bhL : List Nat := [98, 101, 104, 105, 110, 100]
abbrev bsL : List Nat := [98, 101, 115, 105, 100, 101]
theorem bh_eq : ("behind" : Str) = ofL bhL := by decide +kernel
theorem bs_eq : ("beside" : Str) = ofL bsL := by decide +kernel
theorem em_eq : ("" : Str) = ofL [] := by decide +kernel
theorem ze_eq : ("0" : Str) = ofL [48] := by decide +kernel
structure TS where
  lv : List (Str × List PyData)
  wd : List Nat
  rd : Option PyData
def headD (l : List Nat) : Bool := match l with
  | [] => false
  | c :: _ => digB c
def endT (s : TS) : Option PyData := if s.rd.isNone && headD s.wd then some (.int ((digitsVal s.wd : Nat) : Int)) else s.rd
def stepT (s : TS) (c : Nat) : Option TS :=
  if digB c then
    if s.rd.isSome || decide (s.wd = [48]) || decide (s.wd.length = 30) || (decide (s.wd ≠ []) && !headD s.wd) then none else some ⟨s.lv, s.wd ++ [c], none⟩
  else if c = 40 then
    if !(decide (s.wd = bhL) || decide (s.wd = bsL)) || decide (s.lv.length = 40) then none else some ⟨s.lv ++ [(ofL s.wd, [])], [], none⟩
  else if c = 44 ∨ c = 41 then
    match s.lv.getLast?, endT s with
    | some (nm, ts), some t => if c = 41 ∧ ts = [] then none
        else if c = 44 then some ⟨s.lv.dropLast ++ [(nm, ts ++ [t])], [], none⟩
        else some ⟨s.lv.dropLast, [], some (.tuple [.str nm, .tuple (ts ++ [t])])⟩
    | _, _ => none
  else
    if s.rd.isSome || decide (s.lv.length = 40) || !(decide (s.wd ++ [c] = bhL.take (s.wd.length + 1)) || decide (s.wd ++ [c] = bsL.take (s.wd.length + 1))) then none else some ⟨s.lv, s.wd ++ [c], none⟩
def treeD : PyData → Bool
  | .int _ => true
  | .tuple _ => true
  | _ => false
structure TOk (s : TS) : Prop where
  rt : ∀ x, s.rd = some x → treeD x = true
  w0 : s.rd.isSome = true → s.wd = []
  dg : headD s.wd = true → s.wd.all digB = true
  wl : s.wd.length ≤ 30
  ll : s.lv.length ≤ 40
  wc : ∀ x ∈ s.wd, x < 128
def init0 : TS := ⟨[], [], none⟩
theorem init0_ok : TOk init0 := ⟨fun _ h => (by cases h), fun h => (by cases h), fun h => (by cases h), by decide, by decide, fun x hx => (by cases hx)⟩
theorem tstep_ok {s s' : TS} {c : Nat} (h : TOk s) (e : stepT s c = some s') : TOk s' := by
  unfold stepT at e
  split at e
  · rename_i hd
    split at e
    · cases e
    · rename_i hc
      cases e
      simp only [Bool.or_eq_true, decide_eq_true_eq, Bool.and_eq_true, Bool.not_eq_true', not_or, not_and, ne_eq] at hc
      obtain ⟨⟨⟨h1, h2⟩, h3⟩, h4⟩ := hc
      refine ⟨fun _ h => (by cases h), fun h => (by cases h), fun h' => ?_, ?_, h.ll, fun x hx => ?_⟩
      · by_cases z : s.wd = []
        · simp [z, hd]
        · have h4 := Bool.not_eq_false _ ▸ h4 z
          have := h.dg (by simpa using h4)
          simp [List.all_append, this, hd]
      · have := h.wl
        rw [List.length_append, List.length_singleton]
        show s.wd.length + 1 ≤ 30
        omega
      · rcases List.mem_append.mp hx with hx | hx
        · exact h.wc x hx
        · rw [List.mem_singleton.mp hx]
          have := (digB_iff c).mp hd
          omega
  · rename_i hd
    split at e
    · split at e
      · cases e
      · rename_i hc
        cases e
        simp only [Bool.or_eq_true, decide_eq_true_eq, not_or] at hc
        refine ⟨fun _ h => (by cases h), fun h => (by cases h), fun h' => (by cases h'), Nat.zero_le _, ?_, fun x hx => (by cases hx)⟩
        have := h.ll
        have := hc.2
        show (s.lv ++ [(ofL s.wd, [])]).length ≤ 40
        rw [List.length_append, List.length_singleton]
        omega
    · split at e
      · split at e
        · rename_i nm ts t e1 e2
          have ll := h.ll
          split at e
          · cases e
          · split at e
            · cases e
              refine ⟨fun _ h => (by cases h), fun h => (by cases h), fun h' => (by cases h'), Nat.zero_le _, ?_, fun x hx => (by cases hx)⟩
              have : s.lv ≠ [] := fun z => by rw [z] at e1; cases e1
              have := List.length_pos_iff.mpr this
              show (s.lv.dropLast ++ [(nm, ts ++ [t])]).length ≤ 40
              rw [List.length_append, List.length_dropLast, List.length_singleton]
              omega
            · cases e
              refine ⟨fun _ h => (by cases h; rfl), fun _ => rfl, fun h' => (by cases h'), Nat.zero_le _, ?_, fun x hx => (by cases hx)⟩
              show s.lv.dropLast.length ≤ 40
              rw [List.length_dropLast]
              omega
        · cases e
      · split at e
        · cases e
        · rename_i hc
          cases e
          simp only [Bool.or_eq_true, decide_eq_true_eq, Bool.not_eq_true', not_or, Bool.or_eq_false_iff, not_and, decide_eq_false_iff_not, Decidable.not_not] at hc
          obtain ⟨⟨h1, h2⟩, h3⟩ := hc
          have h4 : s.wd ++ [c] = bhL.take (s.wd.length + 1) ∨ s.wd ++ [c] = bsL.take (s.wd.length + 1) := by
            by_cases z : s.wd ++ [c] = bhL.take (s.wd.length + 1)
            · exact .inl z
            · exact .inr (h3 z)
          refine ⟨fun _ h => (by cases h), fun h => (by cases h), fun h' => ?_, ?_, h.ll, fun x hx => ?_⟩
          · exfalso
            have h' : headD (s.wd ++ [c]) = true := h'
            have hb : digB 98 = false := by decide +kernel
            have e1 : headD (bhL.take (s.wd.length + 1)) = digB 98 := rfl
            have e2 : headD (bsL.take (s.wd.length + 1)) = digB 98 := rfl
            rcases h4 with h4 | h4
            · rw [h4, e1, hb] at h'
              cases h'
            · rw [h4, e2, hb] at h'
              cases h'
          · show (s.wd ++ [c]).length ≤ 30
            rcases h4 with h4 | h4 <;> rw [h4, List.length_take] <;> simp <;> omega
          · have hx : x ∈ s.wd ++ [c] := hx
            have b1 : ∀ x ∈ bhL, x < 128 := by decide
            have b2 : ∀ x ∈ bsL, x < 128 := by decide
            rcases h4 with h4 | h4
            · rw [h4] at hx
              exact b1 x (List.mem_of_mem_take hx)
            · rw [h4] at hx
              exact b2 x (List.mem_of_mem_take hx)
def runT : TS → Nat → List Nat → Except Nat TS
  | s, _, [] => .ok s
  | s, k, c :: cs => match stepT s c with
    | none => .error k
    | some s' => runT s' (k + 1) cs
def treeT (t : Str) : Except Nat PyData := match runT init0 0 (tl t) with
  | .error k => .error k
  | .ok s => match s.lv, endT s with
    | [], some x => .ok x
    | _, _ => .error t.length
end L2.HW
namespace L2.HW
open PySem PySem.Spec PyProof.Rows L2.HW.G PySem.NumText TL
def rdD : Option PyData → PyData
  | some x => x
  | none => .none
abbrev spF (a : Nat) (w : List Nat) (r : Option PyData) : List (Str × Va) := [("around", .loc a), ("word", .d (.str (ofL w))), ("read", .d (rdD r))]
abbrev spO (a : Nat) (w : List Nat) (r : Option PyData) : Option Ob := some (.ins "Spelling" (spF a w r))
theorem sp_a (a : Nat) (w : List Nat) (r : Option PyData) : (spF a w r).lookup ("around" : Str) = some (.loc a) := rfl
theorem sp_w (a : Nat) (w : List Nat) (r : Option PyData) : (spF a w r).lookup ("word" : Str) = some (.d (.str (ofL w))) := rfl
theorem sp_r (a : Nat) (w : List Nat) (r : Option PyData) : (spF a w r).lookup ("read" : Str) = some (.d (rdD r)) := rfl
theorem put_w (a : Nat) (w v : List Nat) (r : Option PyData) : putA "word" (.d (.str (ofL v))) (spF a w r) = spF a v r := rfl
theorem put_r (a : Nat) (w : List Nat) (r q : Option PyData) : putA "read" (.d (rdD q)) (spF a w r) = spF a w q := rfl
theorem spF_len (a : Nat) (w : List Nat) (r : Option PyData) : (spF a w r).length < 1000 := by show 3 < 1000; omega
theorem fld_ev {c x : Str} {f : EF} {env : En} {L M : LH} {n : Nat} {fs : List (Str × Va)} {u : Va} (h : f env L = .ok (.loc n) M) (hL : M[n]? = some (some (.ins c fs))) (hx : fs.lookup x = some u) : eFld c x f env L = .ok u M := by
  rw [u_eFld, h]
  simp only [Res.bind_ok, hL, hx, if_true]
theorem fldS_ev {c x : Str} {fo fv : EF} {env : En} {L M : LH} {n : Nat} {fs : List (Str × Va)} {u : Va} (hv : fv env L = .ok u M) (h : fo env M = .ok (.loc n) M) (hL : M[n]? = some (some (.ins c fs))) (hz : fs.length < 1000) : sFldS c x fo fv env L = .nx env (M.set n (some (.ins c (putA x u fs)))) := by
  rw [u_sFldS, hv]
  simp only [then_ok, h, hL]
  rw [if_pos ⟨trivial, hz⟩]
theorem isN_rd {r : Option PyData} (h : ∀ x, r = some x → treeD x = true) : Va.isN (.d (rdD r)) = r.isNone := by
  cases r with
  | none => rfl
  | some x =>
    have := h x rfl
    cases x <;> first | rfl | cases this
theorem fnC_rt {np nl : Nat} {b : SFn} {ws : List Va} {L L' : LH} {w : Va} (hl : ws.length = np) (h : b (ws.map some ++ List.replicate (nl - ws.length) none) L = .rt w L') : mkFnC np nl b ws L = .ok w L' := by
  unfold mkFnC
  rw [if_pos hl, h]
section
variable {n a : Nat} {w : List Nat} {r : Option PyData} {L : LH} {env : En} (he : env[0]? = some (some (.loc n))) (hL : L[n]? = some (spO a w r))
include he hL
theorem ev_w : eFld "Spelling" "word" (eVar 0) env L = .ok (.d (.str (ofL w))) L := fld_ev (by rw [u_eVar, he]) hL (sp_w a w r)
theorem ev_r : eFld "Spelling" "read" (eVar 0) env L = .ok (.d (rdD r)) L := fld_ev (by rw [u_eVar, he]) hL (sp_r a w r)
theorem ev_a : eFld "Spelling" "around" (eVar 0) env L = .ok (.loc a) L := fld_ev (by rw [u_eVar, he]) hL (sp_a a w r)
theorem t_rN (hr : ∀ x, r = some x → treeD x = true) : tVal (eOp opNotN (eFld "Spelling" "read" (eVar 0)) (eC .none)) env L = .ok r.isSome L := by
  have := isN_rd hr
  rw [u_tVal, u_eOp, ev_r he hL]
  simp only [Res.bind_ok, u_eC, u_opNotN, this]
  cases r <;> rfl
theorem t_rI (hr : ∀ x, r = some x → treeD x = true) : tVal (eOp opIsN (eFld "Spelling" "read" (eVar 0)) (eC .none)) env L = .ok r.isNone L := by
  have := isN_rd hr
  rw [u_tVal, u_eOp, ev_r he hL]
  simp only [Res.bind_ok, u_eC, u_opIsN, this]
theorem t_w0 : tVal (eOp opEq (eFld "Spelling" "word" (eVar 0)) (eC (.str "0"))) env L = .ok (decide (w = [48])) L := by
  have k := str_ok (ofL w) "0"
  rw [u_tVal, u_eOp, ev_w he hL]
  simp only [Res.bind_ok, u_eC, u_opEq, data_d, if_pos k, str_dec]
  congr 1
  rw [ze_eq]
  exact decide_eq_decide.mpr ofL_inj
theorem t_wE : tVal (eOp opNe (eFld "Spelling" "word" (eVar 0)) (eC (.str ""))) env L = .ok (decide (w ≠ [])) L := by
  have k := str_ok (ofL w) ""
  rw [u_tVal, u_eOp, ev_w he hL]
  simp only [Res.bind_ok, u_eC, u_opNe, data_d, if_pos k, str_dec]
  congr 1
  have : decide (ofL w = "") = decide (w = []) := by
    rw [em_eq]
    exact decide_eq_decide.mpr ofL_inj
  rw [this]
  by_cases z : w = [] <;> simp [z]
theorem t_wL (hw : w.length ≤ 1000) : tVal (eOp opEq (eCallB cLen (aCons (eFld "Spelling" "word" (eVar 0)) aNil)) (eC (.int 30))) env L = .ok (decide (w.length = 30)) L := by
  have zs := sizeLine_eq
  have k : (ofL w).length ≤ sizeLine := by rw [len_ofL]; omega
  rw [u_tVal, u_eOp, u_eCallB, u_aCons, ev_w he hL]
  have k2 := cmpOk_int ((ofL w).length : Int) 30
  have e : decide (((ofL w).length : Int) = 30) = decide (w.length = 30) := by
    rw [len_ofL]
    exact decide_eq_decide.mpr (by omega)
  simp only [Res.bind_ok, u_aNil, u_cLen, if_pos k, u_eC, u_opEq, data_d, if_pos k2, eqv_int, e]
theorem t_wF (neg : Bool) (hw : w ≠ []) (hl : w.length ≤ 1000) : tVal (eOp (opIn neg) (eOp opIx (eFld "Spelling" "word" (eVar 0)) (eC (.int 0))) (eC (.str "0123456789"))) env L = .ok (if neg then !headD w else headD w) L := by
  have zs := sizeLine_eq
  have k : (ofL w).length ≤ sizeLine := by rw [len_ofL]; omega
  cases w with
  | nil => exact absurd rfl hw
  | cons c cs =>
    have a0 : atI (ofL (c :: cs)).cps.toList 0 = some c := by
      show atI (c :: cs) 0 = _
      simp [atI, ixN]
    have dg : Va.dget L (.d (.str (ofL (c :: cs)))) (.d (.int 0)) = none := rfl
    have sq : Va.seq L (.d (.str (ofL (c :: cs)))) = none := rfl
    have e1 : eOp opIx (eFld "Spelling" "word" (eVar 0)) (eC (.int 0)) env L = .ok (.d (.str ⟨#[c]⟩)) L := by
      rw [u_eOp, ev_w he hL]
      simp only [Res.bind_ok, u_eC, u_opIx, dg, sq, if_pos k, a0]
    have dg2 : Va.dget L (.d (.str figS)) (.d (.str ⟨#[c]⟩)) = none := rfl
    have tl1 : (⟨#[c]⟩ : Str).cps.toList = [c] := rfl
    rw [u_tVal, u_eOp, e1]
    simp only [Res.bind_ok, u_eC, u_opIn, dg2, tl1]
    rfl
end
theorem fig_run {n a : Nat} {w : List Nat} {r : Option PyData} {L : LH} {c : Nat} (lv : List (Str × List PyData)) (hL : L[n]? = some (spO a w r)) (ok : TOk ⟨lv, w, r⟩) (hc : digB c = true) :
    F_Spelling_take_figure [.loc n, .d (.str ⟨#[c]⟩)] L = match stepT ⟨lv, w, r⟩ c with
      | none => .ok (.d (.bool false)) L
      | some s' => .ok (.d (.bool true)) (L.set n (spO a s'.wd s'.rd)) := by
  have zs := sizeLine_eq
  have wl : w.length ≤ 30 := ok.wl
  have hr := ok.rt
  have he : ([some (.loc n), some (.d (.str ⟨#[c]⟩))] : En)[0]? = some (some (.loc n)) := rfl
  have st : stepT ⟨lv, w, r⟩ c = if r.isSome || decide (w = [48]) || decide (w.length = 30) || (decide (w ≠ []) && !headD w) then none else some ⟨lv, w ++ [c], none⟩ := by
    unfold stepT
    rw [if_pos hc]
  rw [st]
  have c1 : sIf (tOrF (tVal (eOp opNotN (eFld "Spelling" "read" (eVar 0)) (eC .none))) (tOrF (tVal (eOp opEq (eFld "Spelling" "word" (eVar 0)) (eC (.str "0")))) (tVal (eOp opEq (eCallB cLen (aCons (eFld "Spelling" "word" (eVar 0)) aNil)) (eC (.int 30)))))) (sRet (eC (.bool false))) sNil [some (.loc n), some (.d (.str ⟨#[c]⟩))] L = if r.isSome || decide (w = [48]) || decide (w.length = 30) then .rt (.d (.bool false)) L else .nx [some (.loc n), some (.d (.str ⟨#[c]⟩))] L := by
    rw [u_sIf, u_tOrF, t_rN he hL hr]
    cases r.isSome with
    | true => simp
    | false =>
      simp only [Res.bind_ok, Bool.false_eq_true, if_false]
      rw [u_tOrF, t_w0 he hL]
      cases decide (w = [48]) with
      | true => simp
      | false =>
        simp only [Res.bind_ok, Bool.false_eq_true, if_false]
        rw [t_wL he hL (by omega)]
        cases decide (w.length = 30) <;> simp
  have c2 : sIf (tAndF (tVal (eOp opNe (eFld "Spelling" "word" (eVar 0)) (eC (.str "")))) (tVal (eOp (opIn true) (eOp opIx (eFld "Spelling" "word" (eVar 0)) (eC (.int 0))) (eC (.str "0123456789"))))) (sRet (eC (.bool false))) sNil [some (.loc n), some (.d (.str ⟨#[c]⟩))] L = if decide (w ≠ []) && !headD w then .rt (.d (.bool false)) L else .nx [some (.loc n), some (.d (.str ⟨#[c]⟩))] L := by
    rw [u_sIf, u_tAndF, t_wE he hL]
    by_cases z : w = []
    · simp [z]
    · have := t_wF he hL true z (by omega)
      simp only [Res.bind_ok, z, ne_eq, not_false_eq_true, decide_true, if_true]
      rw [this]
      cases headD w <;> simp
  cases b1 : (r.isSome || decide (w = [48]) || decide (w.length = 30)) with
  | true =>
    rw [b1] at c1
    rw [Bool.true_or, if_pos rfl]
    refine fnC_rt rfl ?_
    show b_Spelling_take_figure [some (.loc n), some (.d (.str ⟨#[c]⟩))] L = _
    exact seq_rt (c1.trans (if_pos rfl))
  | false =>
    rw [b1] at c1
    have c1 := c1.trans (if_neg (by decide))
    rw [Bool.false_or]
    cases b2 : (decide (w ≠ []) && !headD w) with
    | true =>
      rw [b2] at c2
      rw [if_pos rfl]
      refine fnC_rt rfl ?_
      show b_Spelling_take_figure [some (.loc n), some (.d (.str ⟨#[c]⟩))] L = _
      exact seq_nx c1 (seq_rt (c2.trans (if_pos rfl)))
    | false =>
      rw [b2] at c2
      have c2 := c2.trans (if_neg (by decide))
      rw [if_neg (by decide)]
      refine fnC_rt rfl ?_
      show b_Spelling_take_figure [some (.loc n), some (.d (.str ⟨#[c]⟩))] L = _
      have rn : r = none := by
        cases r with
        | none => rfl
        | some x => simp at b1
      subst rn
      have k : (ofL w).length + (⟨#[c]⟩ : Str).length ≤ sizeLine := by
        have : (⟨#[c]⟩ : Str).length = 1 := rfl
        rw [len_ofL, this]
        omega
      have au : sFldA "Spelling" "word" (eVar 0) (eVar 1) [some (.loc n), some (.d (.str ⟨#[c]⟩))] L = .nx [some (.loc n), some (.d (.str ⟨#[c]⟩))] (L.set n (spO a (w ++ [c]) none)) := by
        have lw := sp_w a w none
        rw [u_sFldA, u_eVar, he]
        simp only [then_ok, hL, if_true, lw, u_eVar, List.getElem?_cons_succ, List.getElem?_cons_zero]
        rw [if_pos ⟨trivial, spF_len a w none, k⟩, ofL_app, put_w]
      refine seq_nx c1 (seq_nx c2 (seq_nx au ?_))
      simp
end L2.HW
namespace L2.HW
open PySem PySem.Spec PyProof.Rows L2.HW.G PySem.NumText TL
def arV : List (Str × List PyData) → List Nat → List Va
  | (nm, _) :: lv, k :: ks => .tup [.d (.str nm), .loc k] :: arV lv ks
  | _, _ => []
def celOk (L : LH) : List (Str × List PyData) → List Nat → Prop
  | [], [] => True
  | (_, ts) :: lv, k :: ks => L[k]? = some (some (.lst (ts.map Va.d))) ∧ celOk L lv ks
  | _, _ => False
theorem celOk.len {L : LH} : ∀ {lv : List (Str × List PyData)} {ks : List Nat}, celOk L lv ks → ks.length = lv.length
  | [], [], _ => rfl
  | _ :: _, _ :: _, ⟨_, h⟩ => by rw [List.length_cons, List.length_cons, celOk.len h]
  | [], _ :: _, h => h.elim
  | _ :: _, [], h => h.elim
theorem arV_len : ∀ {lv : List (Str × List PyData)} {ks : List Nat}, ks.length = lv.length → (arV lv ks).length = lv.length
  | [], [], _ => rfl
  | (_, _) :: lv, _ :: ks, h => by
    have := arV_len (lv := lv) (ks := ks) (by simpa using h)
    simp [arV, this]
  | [], _ :: _, h => by cases h
  | _ :: _, [], h => by cases h
theorem arV_app : ∀ {lv : List (Str × List PyData)} {ks : List Nat} (nm : Str) (ts : List PyData) (k : Nat), ks.length = lv.length → arV (lv ++ [(nm, ts)]) (ks ++ [k]) = arV lv ks ++ [.tup [.d (.str nm), .loc k]]
  | [], [], _, _, _, _ => rfl
  | (_, _) :: lv, _ :: ks, nm, ts, k, h => by
    have := arV_app (lv := lv) (ks := ks) nm ts k (by simpa using h)
    simp [arV, this]
  | [], _ :: _, _, _, _, h => by cases h
  | _ :: _, [], _, _, _, h => by cases h
theorem celOk_app {L : LH} : ∀ {lv : List (Str × List PyData)} {ks : List Nat} (nm : Str) (ts : List PyData) (k : Nat), ks.length = lv.length → (celOk L (lv ++ [(nm, ts)]) (ks ++ [k]) ↔ celOk L lv ks ∧ L[k]? = some (some (.lst (ts.map Va.d))))
  | [], [], _, _, _, _ => by simp [celOk]
  | (_, _) :: lv, _ :: ks, nm, ts, k, h => by
    have := celOk_app (L := L) (lv := lv) (ks := ks) nm ts k (by simpa using h)
    simp [celOk, this, and_assoc]
  | [], _ :: _, _, _, _, h => by cases h
  | _ :: _, [], _, _, _, h => by cases h
theorem celOk.mono {L M : LH} : ∀ {lv : List (Str × List PyData)} {ks : List Nat}, celOk L lv ks → (∀ k ∈ ks, M[k]? = L[k]?) → celOk M lv ks
  | [], [], _, _ => trivial
  | (_, _) :: lv, k :: ks, ⟨h1, h2⟩, e => ⟨by rw [e k List.mem_cons_self]; exact h1, celOk.mono h2 fun k' h' => e k' (List.mem_cons_of_mem _ h')⟩
  | [], _ :: _, h, _ => h.elim
  | _ :: _, [], h, _ => h.elim
theorem cel_lt {L : LH} : ∀ {lv : List (Str × List PyData)} {ks : List Nat}, celOk L lv ks → ∀ k ∈ ks, k < L.length
  | [], [], _, k, hk => by cases hk
  | (_, _) :: lv, k' :: ks, ⟨h1, h2⟩, k, hk => by
    rcases List.mem_cons.mp hk with rfl | hk
    · exact (List.getElem?_eq_some_iff.mp h1).1
    · exact cel_lt h2 k hk
  | [], _ :: _, h, _, _ => h.elim
  | _ :: _, [], h, _, _ => h.elim
structure SpR (L0 L : LH) (n a : Nat) (ks : List Nat) (s : TS) : Prop where
  ins : L[n]? = some (spO a s.wd s.rd)
  arr : L[a]? = some (some (.lst (arV s.lv ks)))
  cel : celOk L s.lv ks
  na : n ≠ a
  nk : ∀ k ∈ ks, k ≠ n ∧ k ≠ a ∧ L0.length ≤ k
  nd : ks.Nodup
  n0 : L0.length ≤ n
  a0 : L0.length ≤ a
  fr : ∀ i, i < L0.length → L[i]? = L0[i]?
theorem get_lt {L : LH} {k : Nat} {o : Option Ob} (h : L[k]? = some o) : k < L.length := (List.getElem?_eq_some_iff.mp h).1
theorem SpR.put {L0 L : LH} {n a : Nat} {ks : List Nat} {s : TS} (h : SpR L0 L n a ks s) (w : List Nat) (r : Option PyData) : SpR L0 (L.set n (spO a w r)) n a ks ⟨s.lv, w, r⟩ := by
  have ln := get_lt h.ins
  refine ⟨by rw [List.getElem?_set_self ln], by rw [List.getElem?_set_ne h.na]; exact h.arr, h.cel.mono fun k hk => ?_, h.na, h.nk, h.nd, h.n0, h.a0, fun i hi => ?_⟩
  · rw [List.getElem?_set_ne (h.nk k hk).1.symm]
  · rw [List.getElem?_set_ne (by have := h.n0; omega)]
    exact h.fr i hi
section
variable {L0 L : LH} {n a : Nat} {ks : List Nat} {s : TS} {env : En}
theorem len_around (h : SpR L0 L n a ks s) (ok : TOk s) (he : env[0]? = some (some (.loc n))) : tVal (eOp opEq (eCallB cLen (aCons (eFld "Spelling" "around" (eVar 0)) aNil)) (eC (.int 40))) env L = .ok (decide (s.lv.length = 40)) L := by
  have zs := sizeLine_eq
  have al := arV_len h.cel.len
  have ll := ok.ll
  have k : (arV s.lv ks).length ≤ sizeLine := by omega
  have lc : eCallB cLen (aCons (eFld "Spelling" "around" (eVar 0)) aNil) env L = .ok (.d (.int (s.lv.length : Int))) L := by
    rw [u_eCallB, u_aCons, ev_a he h.ins]
    simp only [Res.bind_ok, u_aNil, u_cLen]
    simp [Va.seq, h.arr, k, al]
  have k2 := cmpOk_int (s.lv.length : Int) 40
  have e : decide ((s.lv.length : Int) = 40) = decide (s.lv.length = 40) := decide_eq_decide.mpr (by omega)
  rw [u_tVal, u_eOp, lc]
  simp only [Res.bind_ok, u_eC, u_opEq, data_d, if_pos k2, eqv_int, e]
theorem step_open (hc : digB 40 = false) : stepT s 40 = if !(decide (s.wd = bhL) || decide (s.wd = bsL)) || decide (s.lv.length = 40) then none else some ⟨s.lv ++ [(ofL s.wd, [])], [], none⟩ := by
  unfold stepT
  rw [if_neg (by rw [hc]; decide), if_pos rfl]
theorem dig40 : digB 40 = false := by decide +kernel
theorem dig44 : digB 44 = false := by decide +kernel
theorem dig41 : digB 41 = false := by decide +kernel
theorem in_names (h : SpR L0 L n a ks s) (he : env[0]? = some (some (.loc n))) : tVal (eOp (opIn true) (eFld "Spelling" "word" (eVar 0)) (eTup (aCons (eC (.str "behind")) (aCons (eC (.str "beside")) aNil)))) env L = .ok (!(decide (s.wd = bhL) || decide (s.wd = bsL))) L := by
  have zs := sizeLine_eq
  have tp : eTup (aCons (eC (.str "behind")) (aCons (eC (.str "beside")) aNil)) env L = .ok (.d (.tuple [.str "behind", .str "beside"])) L := by
    simp [zs]
  have dg : Va.dget L (.d (.tuple [.str "behind", .str "beside"])) (.d (.str (ofL s.wd))) = none := rfl
  have fl : (flatD (.str (ofL s.wd)) && [PyData.str "behind", PyData.str "beside"].all flatD) = true := rfl
  have e1 : PyData.eqv (.str "behind") (.str (ofL s.wd)) = decide (s.wd = bhL) := by
    rw [str_dec, bh_eq]
    exact decide_eq_decide.mpr (by rw [ofL_inj]; exact eq_comm)
  have e2 : PyData.eqv (.str "beside") (.str (ofL s.wd)) = decide (s.wd = bsL) := by
    rw [str_dec, bs_eq]
    exact decide_eq_decide.mpr (by rw [ofL_inj]; exact eq_comm)
  rw [u_tVal, u_eOp, ev_w he h.ins]
  simp only [Res.bind_ok, tp, u_opIn, dg, fl, if_true, List.any_cons, List.any_nil, e1, e2, Bool.or_false]
theorem openT_run (h : SpR L0 L n a ks s) (ok : TOk s) : match stepT s 40 with
    | none => F_Spelling_take_open [.loc n] L = .ok (.d (.bool false)) L
    | some s' => ∃ L' ks', F_Spelling_take_open [.loc n] L = .ok (.d (.bool true)) L' ∧ SpR L0 L' n a ks' s' := by
  have zs := sizeLine_eq
  have he : ([some (.loc n)] : En)[0]? = some (some (.loc n)) := rfl
  rw [step_open dig40]
  have t1 := in_names h he
  have t2 := len_around h ok he
  have c1 : sIf (tOrF (tVal (eOp (opIn true) (eFld "Spelling" "word" (eVar 0)) (eTup (aCons (eC (.str "behind")) (aCons (eC (.str "beside")) aNil))))) (tVal (eOp opEq (eCallB cLen (aCons (eFld "Spelling" "around" (eVar 0)) aNil)) (eC (.int 40))))) (sRet (eC (.bool false))) sNil [some (.loc n)] L = if !(decide (s.wd = bhL) || decide (s.wd = bsL)) || decide (s.lv.length = 40) then .rt (.d (.bool false)) L else .nx [some (.loc n)] L := by
    rw [u_sIf, u_tOrF, t1]
    cases (decide (s.wd = bhL) || decide (s.wd = bsL)) with
    | false => simp
    | true =>
      simp only [Res.bind_ok, Bool.not_true, Bool.false_eq_true, if_false]
      rw [t2]
      cases decide (s.lv.length = 40) <;> simp
  cases b : (!(decide (s.wd = bhL) || decide (s.wd = bsL)) || decide (s.lv.length = 40)) with
  | true =>
    rw [b] at c1
    rw [if_pos rfl]
    refine fnC_rt rfl ?_
    show b_Spelling_take_open [some (.loc n)] L = _
    exact seq_rt (c1.trans (if_pos rfl))
  | false =>
    rw [b] at c1
    have c1 := c1.trans (if_neg (by decide))
    rw [if_neg (by decide)]
    have wne : s.wd ≠ [] := by
      intro z
      rw [z] at b
      simp at b
    have rn : s.rd = none := by
      cases hr : s.rd with
      | none => rfl
      | some x => exact absurd (ok.w0 (by rw [hr]; rfl)) wne
    have lk := h.cel.len
    have ln := get_lt h.ins
    have la := get_lt h.arr
    obtain ⟨M, hM⟩ : ∃ M, M = L ++ [some (Ob.lst [])] := ⟨_, rfl⟩
    have gM : ∀ i, i < L.length → M[i]? = L[i]? := fun i hi => by rw [hM, List.getElem?_append_left hi]
    have gN : M[L.length]? = some (some (.lst [])) := by rw [hM]; exact app_get
    have gA : M[a]? = some (some (.lst (arV s.lv ks))) := by rw [gM a la]; exact h.arr
    have gI : M[n]? = some (spO a s.wd s.rd) := by rw [gM n ln]; exact h.ins
    have al := arV_len lk
    have ll := ok.ll
    have kz : (arV s.lv ks).length < sizeLine := by omega
    have ap : sExpr (eMeth isLs mAppend (eFld "Spelling" "around" (eVar 0)) (aCons (eTup (aCons (eFld "Spelling" "word" (eVar 0)) (aCons (eNew (fLst aNil)) aNil))) aNil)) [some (.loc n)] L = .nx [some (.loc n)] (M.set a (some (.lst (arV s.lv ks ++ [.tup [.d (.str (ofL s.wd)), .loc L.length]])))) := by
      have il : isLs L (.loc a) = true := by rw [u_isLs]; simp only [h.arr]
      have nw : eNew (fLst aNil) [some (.loc n)] L = .ok (.loc L.length) M := by
        rw [u_eNew, u_fLst]
        simp [hM]
      have tp : eTup (aCons (eFld "Spelling" "word" (eVar 0)) (aCons (eNew (fLst aNil)) aNil)) [some (.loc n)] L = .ok (.tup [.d (.str (ofL s.wd)), .loc L.length]) M := by
        have z2 : 0 + 1 + 1 ≤ sizeLine := by omega
        rw [u_eTup, u_aCons, ev_w he h.ins]
        simp only [Res.bind_ok, u_aCons, nw, u_aNil]
        simp [zs, mkTup, datas]
      rw [u_sExpr, u_eMeth, ev_a he h.ins]
      simp only [Res.bind_ok, il, if_true]
      rw [u_aCons, tp]
      simp only [Res.bind_ok, u_aNil, u_mAppend, gA, if_pos kz, then_ok]
    obtain ⟨N, hN⟩ : ∃ N, N = M.set a (some (.lst (arV s.lv ks ++ [.tup [.d (.str (ofL s.wd)), .loc L.length]]))) := ⟨_, rfl⟩
    have nI : N[n]? = some (spO a s.wd s.rd) := by rw [hN, List.getElem?_set_ne h.na.symm]; exact gI
    have st : sFldS "Spelling" "word" (eVar 0) (eC (.str "")) [some (.loc n)] N = .nx [some (.loc n)] (N.set n (spO a [] s.rd)) := by
      have := fldS_ev (c := "Spelling") (x := "word") (fo := eVar 0) (fv := eC (.str "")) (env := [some (.loc n)]) (L := N) (M := N) (u := .d (.str "")) (by rw [u_eC]) (by rw [u_eVar, he]) nI (spF_len a s.wd s.rd)
      rw [em_eq, put_w] at this
      rw [em_eq]
      exact this
    have lM : M.length = L.length + 1 := by rw [hM]; simp
    refine ⟨N.set n (spO a [] s.rd), ks ++ [L.length], ?_, ?_⟩
    · refine fnC_rt rfl ?_
      show b_Spelling_take_open [some (.loc n)] L = _
      refine seq_nx c1 (seq_nx (ap.trans (by rw [← hN])) (seq_nx st ?_))
      simp
    · have base : SpR L0 N n a (ks ++ [L.length]) ⟨s.lv ++ [(ofL s.wd, [])], s.wd, s.rd⟩ := by
        have nL0 : L0.length ≤ L.length := by have := h.n0; omega
        refine ⟨nI, ?_, ?_, h.na, fun k hk => ?_, ?_, h.n0, h.a0, fun i hi => ?_⟩
        · rw [hN, List.getElem?_set_self (by omega)]
          show some (some (Ob.lst _)) = some (some (.lst (arV (s.lv ++ [(ofL s.wd, [])]) (ks ++ [L.length]))))
          rw [arV_app _ _ _ lk]
        · refine (celOk_app _ _ _ lk).mpr ⟨h.cel.mono fun k hk => ?_, ?_⟩
          · have hkl : k < L.length := cel_lt h.cel k hk
            rw [hN, List.getElem?_set_ne (h.nk k hk).2.1.symm, gM k hkl]
          · rw [hN, List.getElem?_set_ne (by omega), gN]
            rfl
        · rcases List.mem_append.mp hk with hk | hk
          · exact h.nk k hk
          · rw [List.mem_singleton.mp hk]
            exact ⟨by omega, by omega, nL0⟩
        · refine List.nodup_append.mpr ⟨h.nd, by simp, fun x hx y hy => ?_⟩
          rw [List.mem_singleton.mp hy]
          have := cel_lt h.cel x hx
          omega
        · rw [hN, List.getElem?_set_ne (by have := h.a0; omega), gM i (by omega)]
          exact h.fr i hi
      have := base.put [] s.rd
      rw [rn] at this ⊢
      exact this
end
end L2.HW
namespace L2.HW
open PySem PySem.Spec PyProof.Rows L2.HW.G PySem.NumText TL
section
variable {L0 L : LH} {n a : Nat} {ks : List Nat} {s : TS}
theorem endT_tree {s : TS} (ok : TOk s) {x : PyData} (h : endT s = some x) : treeD x = true := by
  unfold endT at h
  split at h
  · cases h; rfl
  · exact ok.rt x h
theorem closed_run (h : SpR L0 L n a ks s) (ok : TOk s) : ∃ L', F_Spelling_closed [.loc n] L = .ok (.d (.bool (endT s).isSome)) L' ∧ SpR L0 L' n a ks ⟨s.lv, if (endT s).isSome then [] else s.wd, endT s⟩ := by
  have zs := sizeLine_eq
  have he : ([some (.loc n)] : En)[0]? = some (some (.loc n)) := rfl
  have wl := ok.wl
  have t1 := t_rI he h.ins ok.rt
  have t2 := t_wE he h.ins
  by_cases b : (s.rd.isNone && headD s.wd) = true
  · have e : endT s = some (.int ((digitsVal s.wd : Nat) : Int)) := by unfold endT; rw [if_pos b]
    obtain ⟨b1, b2⟩ := Bool.and_eq_true_iff.mp b
    have wne : s.wd ≠ [] := fun z => by rw [z] at b2; cases b2
    have t3 := t_wF he h.ins false wne (by omega)
    have rn : s.rd = none := Option.isNone_iff_eq_none.mp b1
    have dg := ok.dg b2
    have it : PySem.intText? (ofL s.wd) = some ((digitsVal s.wd : Nat) : Int) := intText_digits (x := ofL s.wd) (alldig (w := ofL s.wd) dg) wne (by show s.wd.length ≤ _; omega)
    have p1 := h.put s.wd (some (.int ((digitsVal s.wd : Nat) : Int)))
    have p2 := p1.put [] (some (.int ((digitsVal s.wd : Nat) : Int)))
    obtain ⟨M, hM⟩ : ∃ M, M = L.set n (spO a s.wd (some (.int ((digitsVal s.wd : Nat) : Int)))) := ⟨_, rfl⟩
    rw [← hM] at p1 p2
    refine ⟨_, ?_, by rw [e]; exact p2⟩
    refine fnC_rt rfl ?_
    show b_Spelling_closed [some (.loc n)] L = _
    have ci : eCallB cIntS (aCons (eFld "Spelling" "word" (eVar 0)) aNil) [some (.loc n)] L = .ok (.d (.int ((digitsVal s.wd : Nat) : Int))) L := by
      have k6 : (ofL s.wd).length ≤ 640 := by rw [len_ofL]; omega
      rw [u_eCallB, u_aCons, ev_w he h.ins]
      simp only [Res.bind_ok, u_aNil, u_cIntS, it, if_pos k6]
    have st1 : sFldS "Spelling" "read" (eVar 0) (eCallB cIntS (aCons (eFld "Spelling" "word" (eVar 0)) aNil)) [some (.loc n)] L = .nx [some (.loc n)] M := by
      have := fldS_ev (c := "Spelling") (x := "read") (fo := eVar 0) (env := [some (.loc n)]) (L := L) (M := L) ci (by rw [u_eVar, he]) h.ins (spF_len a s.wd s.rd)
      rw [show Va.d (.int ((digitsVal s.wd : Nat) : Int)) = .d (rdD (some (.int ((digitsVal s.wd : Nat) : Int)))) from rfl, put_r] at this
      rw [hM]
      exact this
    have st2 : sFldS "Spelling" "word" (eVar 0) (eC (.str "")) [some (.loc n)] M = .nx [some (.loc n)] (M.set n (spO a [] (some (.int ((digitsVal s.wd : Nat) : Int))))) := by
      have := fldS_ev (c := "Spelling") (x := "word") (fo := eVar 0) (fv := eC (.str "")) (env := [some (.loc n)]) (L := M) (M := M) (u := .d (.str "")) (by rw [u_eC]) (by rw [u_eVar, he]) p1.ins (spF_len _ _ _)
      rw [em_eq, put_w] at this
      rw [em_eq]
      exact this
    refine seq_nx (env1 := [some (.loc n)]) (L1 := M.set n (spO a [] (some (.int ((digitsVal s.wd : Nat) : Int))))) ?_ ?_
    · rw [u_sIf, u_tAndF, t1, b1]
      simp only [Res.bind_ok, if_true]
      rw [u_tAndF, t2]
      simp only [Res.bind_ok, decide_eq_true_eq, wne, ne_eq, not_false_eq_true, decide_true, if_true]
      rw [t3]
      simp only [Bool.false_eq_true, if_false, b2, then_ok, if_true]
      exact seq_nx st1 st2
    · have t4 := t_rN he p2.ins (fun x hx => by cases hx; rfl)
      have ev : eOp opNotN (eFld "Spelling" "read" (eVar 0)) (eC .none) [some (.loc n)] (M.set n (spO a [] (some (.int ((digitsVal s.wd : Nat) : Int))))) = .ok (.d (.bool true)) (M.set n (spO a [] (some (.int ((digitsVal s.wd : Nat) : Int))))) := by
        rw [u_eOp, ev_r he p2.ins]
        simp [rdD, Va.isN]
      rw [u_sRet, ev, e]
      rfl
  · have e : endT s = s.rd := by unfold endT; rw [if_neg b]
    have ew : (if (endT s).isSome then [] else s.wd) = s.wd := by
      rw [e]
      split
      · rename_i q
        exact (ok.w0 q).symm
      · rfl
    refine ⟨L, ?_, by rw [ew, e]; exact h⟩
    refine fnC_rt rfl ?_
    show b_Spelling_closed [some (.loc n)] L = _
    refine seq_nx (env1 := [some (.loc n)]) (L1 := L) ?_ ?_
    · rw [u_sIf, u_tAndF, t1]
      cases hr : s.rd.isNone with
      | false => simp
      | true =>
        simp only [Res.bind_ok, if_true]
        rw [u_tAndF, t2]
        by_cases z : s.wd = []
        · simp [z]
        · simp only [Res.bind_ok, decide_eq_true_eq, z, ne_eq, not_false_eq_true, decide_true, if_true]
          rw [t_wF he h.ins false z (by omega)]
          have : headD s.wd = false := by
            rw [hr, Bool.true_and] at b
            exact Bool.eq_false_iff.mpr b
          simp [this]
    · have ev : eOp opNotN (eFld "Spelling" "read" (eVar 0)) (eC .none) [some (.loc n)] L = .ok (.d (.bool s.rd.isSome)) L := by
        have := isN_rd ok.rt
        rw [u_eOp, ev_r he h.ins]
        simp only [Res.bind_ok, u_eC, u_opNotN, this]
        cases s.rd <;> rfl
      rw [u_sRet, ev, e]
      rfl
theorem letter_run (h : SpR L0 L n a ks s) (ok : TOk s) {c : Nat} (h1 : digB c = false) (h2 : c ≠ 40) (h3 : ¬ (c = 44 ∨ c = 41)) : match stepT s c with
    | none => F_Spelling_take_letter [.loc n, .d (.str ⟨#[c]⟩)] L = .ok (.d (.bool false)) L
    | some s' => F_Spelling_take_letter [.loc n, .d (.str ⟨#[c]⟩)] L = .ok (.d (.bool true)) (L.set n (spO a s'.wd s'.rd)) ∧ SpR L0 (L.set n (spO a s'.wd s'.rd)) n a ks s' := by
  have zs := sizeLine_eq
  have wl := ok.wl
  have st : stepT s c = if s.rd.isSome || decide (s.lv.length = 40) || !(decide (s.wd ++ [c] = bhL.take (s.wd.length + 1)) || decide (s.wd ++ [c] = bsL.take (s.wd.length + 1))) then none else some ⟨s.lv, s.wd ++ [c], none⟩ := by
    unfold stepT
    rw [if_neg (by rw [h1]; decide), if_neg h2, if_neg h3]
  rw [st]
  obtain ⟨E, hE⟩ : ∃ E : En, E = [some (.loc n), some (.d (.str ⟨#[c]⟩)), some (.d (.str (ofL (s.wd ++ [c]))))] := ⟨_, rfl⟩
  have he : E[0]? = some (some (.loc n)) := by rw [hE]; rfl
  have e2 : E[2]? = some (some (.d (.str (ofL (s.wd ++ [c]))))) := by rw [hE]; rfl
  have s1 : sSet 2 (eOp opAdd (eFld "Spelling" "word" (eVar 0)) (eVar 1)) [some (.loc n), some (.d (.str ⟨#[c]⟩)), none] L = .nx E L := by
    have k : (ofL s.wd).length + (⟨#[c]⟩ : Str).length ≤ sizeLine := by
      have : (⟨#[c]⟩ : Str).length = 1 := rfl
      rw [len_ofL, this]
      omega
    rw [u_sSet, u_eOp, ev_w (env := [some (.loc n), some (.d (.str ⟨#[c]⟩)), none]) rfl h.ins, hE]
    simp only [Res.bind_ok, u_eVar, List.getElem?_cons_succ, List.getElem?_cons_zero, u_opAdd, if_pos k, ofL_app, then_ok]
    rfl
  have t1 := t_rN he h.ins ok.rt
  have t2 := len_around h ok he
  have c1 : sIf (tOrF (tVal (eOp opNotN (eFld "Spelling" "read" (eVar 0)) (eC .none))) (tVal (eOp opEq (eCallB cLen (aCons (eFld "Spelling" "around" (eVar 0)) aNil)) (eC (.int 40))))) (sRet (eC (.bool false))) sNil E L = if s.rd.isSome || decide (s.lv.length = 40) then .rt (.d (.bool false)) L else .nx E L := by
    rw [u_sIf, u_tOrF, t1]
    cases s.rd.isSome with
    | true => simp
    | false =>
      simp only [Res.bind_ok, Bool.false_eq_true, if_false]
      rw [t2]
      cases decide (s.lv.length = 40) <;> simp
  have sl : ∀ (z : Str) (zl : List Nat), tl z = zl → z.length ≤ 100 → eSl (eC (.str z)) pNone (pSome (eCallB cLen (aCons (eVar 2) aNil))) E L = .ok (.d (.str (ofL (zl.take (s.wd.length + 1))))) L := fun z zl hz hl => by
    have k : s.wd.length + 1 ≤ sizeLine := by omega
    have lc : eCallB cLen (aCons (eVar 2) aNil) E L = .ok (.d (.int ((s.wd.length + 1 : Nat) : Int))) L := by
      rw [u_eCallB, u_aCons, u_eVar, e2]
      simp only [Res.bind_ok, u_aNil, u_cLen, len_ofL, List.length_append, List.length_singleton, if_pos k]
    have so : pSome (eCallB cLen (aCons (eVar 2) aNil)) E L = .ok (some ((s.wd.length + 1 : Nat) : Int)) L := by simp only [u_pSome, lc, Res.bind_ok]
    have sn : pNone E L = .ok none L := by simp
    have kk : z.length ≤ sizeLine := by omega
    have op : opSl (.d (.str z)) none (some ((s.wd.length + 1 : Nat) : Int)) L = .ok (.d (.str (cutS z none (some ((s.wd.length + 1 : Nat) : Int))))) L := by
      show (if z.length ≤ sizeLine then _ else _) = _
      rw [if_pos kk]
    unfold eSl
    rw [u_eC]
    simp only [Res.bind_ok, so, sn, op]
    have : tl (cutS z none (some ((s.wd.length + 1 : Nat) : Int))) = zl.take (s.wd.length + 1) := by rw [cutS_to, hz]
    rw [← this, ofL_tl]
  have tp : eTup (aCons (eSl (eC (.str "behind")) pNone (pSome (eCallB cLen (aCons (eVar 2) aNil)))) (aCons (eSl (eC (.str "beside")) pNone (pSome (eCallB cLen (aCons (eVar 2) aNil)))) aNil)) E L = .ok (.d (.tuple [.str (ofL (bhL.take (s.wd.length + 1))), .str (ofL (bsL.take (s.wd.length + 1)))])) L := by
    have a1 := sl "behind" bhL (by decide +kernel) (by decide +kernel)
    have a2 := sl "beside" bsL (by decide +kernel) (by decide +kernel)
    rw [u_eTup, u_aCons, a1]
    simp only [Res.bind_ok, u_aCons, a2, u_aNil]
    simp [zs, mkTup, datas]
  have c2 : sIf (tVal (eOp (opIn true) (eVar 2) (eTup (aCons (eSl (eC (.str "behind")) pNone (pSome (eCallB cLen (aCons (eVar 2) aNil)))) (aCons (eSl (eC (.str "beside")) pNone (pSome (eCallB cLen (aCons (eVar 2) aNil)))) aNil))))) (sRet (eC (.bool false))) sNil E L = if !(decide (s.wd ++ [c] = bhL.take (s.wd.length + 1)) || decide (s.wd ++ [c] = bsL.take (s.wd.length + 1))) then .rt (.d (.bool false)) L else .nx E L := by
    have dg : Va.dget L (.d (.tuple [.str (ofL (bhL.take (s.wd.length + 1))), .str (ofL (bsL.take (s.wd.length + 1)))])) (.d (.str (ofL (s.wd ++ [c])))) = none := rfl
    have fl : (flatD (.str (ofL (s.wd ++ [c]))) && [PyData.str (ofL (bhL.take (s.wd.length + 1))), .str (ofL (bsL.take (s.wd.length + 1)))].all flatD) = true := rfl
    have e1 : ∀ l, PyData.eqv (.str (ofL l)) (.str (ofL (s.wd ++ [c]))) = decide (s.wd ++ [c] = l) := fun l => by
      rw [str_dec]
      exact decide_eq_decide.mpr (by rw [ofL_inj]; exact eq_comm)
    rw [u_sIf, u_tVal, u_eOp, u_eVar, e2]
    simp only [Res.bind_ok, tp, u_opIn, dg, fl, if_true, List.any_cons, List.any_nil, e1, Bool.or_false]
    cases (decide (s.wd ++ [c] = bhL.take (s.wd.length + 1)) || decide (s.wd ++ [c] = bsL.take (s.wd.length + 1))) <;> simp
  cases b1 : (s.rd.isSome || decide (s.lv.length = 40)) with
  | true =>
    rw [b1] at c1
    rw [Bool.true_or, if_pos rfl]
    refine fnC_rt rfl ?_
    show b_Spelling_take_letter [some (.loc n), some (.d (.str ⟨#[c]⟩)), none] L = _
    exact seq_nx s1 (seq_rt (c1.trans (if_pos rfl)))
  | false =>
    rw [b1] at c1
    have c1 := c1.trans (if_neg (by decide))
    rw [Bool.false_or]
    cases b2 : (decide (s.wd ++ [c] = bhL.take (s.wd.length + 1)) || decide (s.wd ++ [c] = bsL.take (s.wd.length + 1))) with
    | false =>
      rw [b2] at c2
      rw [if_pos (by decide)]
      refine fnC_rt rfl ?_
      show b_Spelling_take_letter [some (.loc n), some (.d (.str ⟨#[c]⟩)), none] L = _
      exact seq_nx s1 (seq_nx c1 (seq_rt (c2.trans (if_pos (by decide)))))
    | true =>
      rw [b2] at c2
      have c2 := c2.trans (if_neg (by decide))
      rw [if_neg (by decide)]
      have rn : s.rd = none := by
        cases hr : s.rd with
        | none => rfl
        | some x => rw [hr] at b1; simp at b1
      have pu := h.put (s.wd ++ [c]) none
      refine ⟨?_, pu⟩
      refine fnC_rt rfl ?_
      show b_Spelling_take_letter [some (.loc n), some (.d (.str ⟨#[c]⟩)), none] L = _
      have st : sFldS "Spelling" "word" (eVar 0) (eVar 2) E L = .nx E (L.set n (spO a (s.wd ++ [c]) none)) := by
        have := fldS_ev (c := "Spelling") (x := "word") (fo := eVar 0) (fv := eVar 2) (env := E) (L := L) (M := L) (u := .d (.str (ofL (s.wd ++ [c])))) (by rw [u_eVar, e2]) (by rw [u_eVar, he]) h.ins (spF_len a s.wd s.rd)
        rw [put_w, rn] at this
        exact this
      refine seq_nx s1 (seq_nx c1 (seq_nx c2 (seq_nx st ?_)))
      simp
end
end L2.HW
namespace L2.HW
open PySem PySem.Spec PyProof.Rows L2.HW.G PySem.NumText TL
section
variable {L0 L : LH} {n a k : Nat} {ks0 ks : List Nat} {lv0 : List (Str × List PyData)} {nm : Str} {ts us : List PyData} {w : List Nat} {r : Option PyData} {s : TS}
theorem SpR.cell (h : SpR L0 L n a (ks0 ++ [k]) ⟨lv0 ++ [(nm, ts)], w, r⟩) (hl : ks0.length = lv0.length) : SpR L0 (L.set k (some (.lst (us.map Va.d)))) n a (ks0 ++ [k]) ⟨lv0 ++ [(nm, us)], w, r⟩ := by
  obtain ⟨c1, c2⟩ := (celOk_app nm ts k hl).mp h.cel
  obtain ⟨k1, k2, k3⟩ := h.nk k (List.mem_append_right _ List.mem_cons_self)
  have lk := get_lt c2
  refine ⟨by rw [List.getElem?_set_ne k1]; exact h.ins, ?_, (celOk_app nm us k hl).mpr ⟨c1.mono fun k' hk' => ?_, by rw [List.getElem?_set_self lk]⟩, h.na, h.nk, h.nd, h.n0, h.a0, fun i hi => ?_⟩
  · rw [List.getElem?_set_ne k2, h.arr]
    show some (some (Ob.lst (arV (lv0 ++ [(nm, ts)]) (ks0 ++ [k])))) = some (some (.lst (arV (lv0 ++ [(nm, us)]) (ks0 ++ [k]))))
    rw [arV_app _ _ _ hl, arV_app _ _ _ hl]
  · have : k' ≠ k := fun z => by
      subst z
      exact (List.nodup_append.mp h.nd).2.2 k' hk' k' List.mem_cons_self rfl
    rw [List.getElem?_set_ne this.symm]
  · rw [List.getElem?_set_ne (by omega)]
    exact h.fr i hi
theorem SpR.pop (h : SpR L0 L n a (ks0 ++ [k]) ⟨lv0 ++ [(nm, ts)], w, r⟩) (hl : ks0.length = lv0.length) : SpR L0 (L.set a (some (.lst (arV lv0 ks0)))) n a ks0 ⟨lv0, w, r⟩ := by
  obtain ⟨c1, c2⟩ := (celOk_app nm ts k hl).mp h.cel
  have la := get_lt h.arr
  refine ⟨by rw [List.getElem?_set_ne h.na.symm]; exact h.ins, by rw [List.getElem?_set_self la], c1.mono fun k' hk' => ?_, h.na, fun k' hk' => h.nk k' (List.mem_append_left _ hk'), (List.nodup_append.mp h.nd).1, h.n0, h.a0, fun i hi => ?_⟩
  · rw [List.getElem?_set_ne (h.nk k' (List.mem_append_left _ hk')).2.1.symm]
  · rw [List.getElem?_set_ne (by have := h.a0; omega)]
    exact h.fr i hi
theorem atI_m1 {α : Type} (xs : List α) (x : α) : atI (xs ++ [x]) (-1) = some x := by
  have h : (xs ++ [x]).length = xs.length + 1 := by simp
  unfold atI ixN
  rw [h, if_neg (by omega), if_pos (by omega)]
  have : (-1 + ((xs.length : Int) + 1)).toNat = xs.length := by omega
  simp [this]
theorem str_c (c d : Nat) (z : Str) (hz : z = ⟨#[d]⟩) {env : En} {L : LH} {i : Nat} (he : env[i]? = some (some (.d (.str ⟨#[c]⟩)))) : tVal (eOp opEq (eVar i) (eC (.str z))) env L = .ok (decide (c = d)) L := by
  have k := str_ok (⟨#[c]⟩ : Str) z
  have e : decide ((⟨#[c]⟩ : Str) = z) = decide (c = d) := by rw [hz]; exact decide_eq_decide.mpr (one_eq c d)
  rw [u_tVal, u_eOp, u_eVar, he]
  simp only [Res.bind_ok, u_eC, u_opEq, data_d, if_pos k, str_dec, e]
theorem emp_ev {f : EF} {env : En} {L : LH} {m : Nat} {ws : List Va} (h : f env L = .ok (.loc m) L) (hm : L[m]? = some (some (.lst ws))) (neg : Bool) : tVal (eOp (opEqE neg) f (eDat (fLst aNil))) env L = .ok (xor neg ws.isEmpty) L := by
  have i1 : Va.items L (.loc m) = some ws := by
    unfold Va.items
    simp only [hm]
  have e2 : eDat (fLst aNil) env L = .ok (.d (.list [])) L := by simp
  have i2 : Va.items L (.d (.list [])) = some [] := rfl
  rw [u_tVal, u_eOp, h]
  simp only [Res.bind_ok, e2, u_opEqE, i1, i2]
theorem lv_last {lv : List (Str × List PyData)} {p : Str × List PyData} (h : lv.getLast? = some p) : lv = lv.dropLast ++ [p] := by
  obtain ⟨ys, rfl⟩ := List.getLast?_eq_some_iff.mp h
  simp
theorem part_run (h : SpR L0 L n a ks s) (ok : TOk s) (hz : ∀ p ∈ s.lv, p.2.length ≤ 1000000) {c : Nat} (hc : c = 44 ∨ c = 41) : match stepT s c with
    | none => ∃ L', F_Spelling_take_part [.loc n, .d (.str ⟨#[c]⟩)] L = .ok (.d (.bool false)) L' ∧ ∀ i, i < L0.length → L'[i]? = L0[i]?
    | some s' => ∃ L' ks', F_Spelling_take_part [.loc n, .d (.str ⟨#[c]⟩)] L = .ok (.d (.bool true)) L' ∧ SpR L0 L' n a ks' s' := by
  have zs := sizeLine_eq
  have hd : digB c = false := by rcases hc with rfl | rfl; exact dig44; exact dig41
  have h40 : c ≠ 40 := by omega
  have st : stepT s c = match s.lv.getLast?, endT s with
    | some (nm, ts), some t => if c = 41 ∧ ts = [] then none
        else if c = 44 then some ⟨s.lv.dropLast ++ [(nm, ts ++ [t])], [], none⟩
        else some ⟨s.lv.dropLast, [], some (.tuple [.str nm, .tuple (ts ++ [t])])⟩
    | _, _ => none := by
    unfold stepT
    (rw [if_neg (by rw [hd]; decide), if_neg h40, if_pos hc]) <;> rfl
  rw [st]
  obtain ⟨E0, hE0⟩ : ∃ E0 : En, E0 = [some (.loc n), some (.d (.str ⟨#[c]⟩)), none, none] := ⟨_, rfl⟩
  have he : E0[0]? = some (some (.loc n)) := by rw [hE0]; rfl
  have t0 := emp_ev (ev_a he h.ins) h.arr false
  have ek : (arV s.lv ks).isEmpty = s.lv.isEmpty := by
    have := arV_len h.cel.len
    cases h1 : s.lv with
    | nil => rw [h1] at this; rw [List.length_eq_zero_iff.mp this]; rfl
    | cons p q =>
      rw [h1] at this
      cases h2 : arV (p :: q) ks with
      | nil => rw [h2] at this; cases this
      | cons _ _ => rfl
  rw [ek, Bool.false_xor] at t0
  obtain ⟨L1, cr, h1⟩ := closed_run h ok
  have cl : eCallM "Spelling" "closed" F_Spelling_closed (eVar 0) aNil E0 L = .ok (.d (.bool (endT s).isSome)) L1 := by
    have lk : (spF a s.wd s.rd).lookup ("closed" : Str) = none := rfl
    rw [u_eCallM, u_eVar, he]
    simp only [Res.bind_ok, h.ins, lk, and_self, if_true, u_aNil, cr]
  have c1 : sIf (tOrF (tVal (eOp (opEqE false) (eFld "Spelling" "around" (eVar 0)) (eDat (fLst aNil)))) (tNotF (tVal (eCallM "Spelling" "closed" F_Spelling_closed (eVar 0) aNil)))) (sRet (eC (.bool false))) sNil E0 L = if s.lv.isEmpty then .rt (.d (.bool false)) L else if (endT s).isSome then .nx E0 L1 else .rt (.d (.bool false)) L1 := by
    rw [u_sIf, u_tOrF, t0]
    cases s.lv.isEmpty with
    | true => simp
    | false =>
      simp only [Res.bind_ok, Bool.false_eq_true, if_false]
      rw [u_tNotF, u_tVal, cl]
      cases (endT s).isSome <;> simp
  cases hl : s.lv.getLast? with
  | none =>
    have e0 : s.lv = [] := List.getLast?_eq_none_iff.mp hl
    rw [e0] at c1
    refine ⟨L, fnC_rt rfl ?_, h.fr⟩
    show b_Spelling_take_part [some (.loc n), some (.d (.str ⟨#[c]⟩)), none, none] L = _
    rw [← hE0]
    exact seq_rt c1
  | some p =>
    obtain ⟨nm, ts⟩ := p
    have elv := lv_last hl
    have ene : s.lv.isEmpty = false := by rw [elv]; simp
    rw [ene] at c1
    have c1 := c1.trans (if_neg (by decide))
    cases ht : endT s with
    | none =>
      rw [ht] at c1
      refine ⟨L1, fnC_rt rfl ?_, h1.fr⟩
      show b_Spelling_take_part [some (.loc n), some (.d (.str ⟨#[c]⟩)), none, none] L = _
      rw [← hE0]
      exact seq_rt (c1.trans (if_neg (by decide)))
    | some t =>
      rw [ht] at c1 h1
      have c1 := c1.trans (if_pos rfl)
      have h1 : SpR L0 L1 n a ks ⟨s.lv, [], some t⟩ := h1
      obtain ⟨lv0, hlv0⟩ : ∃ lv0, lv0 = s.lv.dropLast := ⟨_, rfl⟩
      rw [← hlv0] at elv
      have lks := h1.cel.len
      have lks : ks.length = s.lv.length := lks
      rw [elv, List.length_append, List.length_singleton] at lks
      obtain ⟨ks0, k, rfl⟩ : ∃ ks0 k, ks = ks0 ++ [k] := by
        cases hk : ks.getLast? with
        | none => rw [List.getLast?_eq_none_iff.mp hk] at lks; simp at lks
        | some k =>
          obtain ⟨ys, rfl⟩ := List.getLast?_eq_some_iff.mp hk
          exact ⟨ys, k, rfl⟩
      have hl0 : ks0.length = lv0.length := by simpa using lks
      rw [elv] at h1
      obtain ⟨q1, q2⟩ := (celOk_app nm ts k hl0).mp h1.cel
      have a1 : L1[a]? = some (some (.lst (arV lv0 ks0 ++ [.tup [.d (.str nm), .loc k]]))) := by
        have := h1.arr
        have e : arV (⟨lv0 ++ [(nm, ts)], [], some t⟩ : TS).lv (ks0 ++ [k]) = arV lv0 ks0 ++ [.tup [.d (.str nm), .loc k]] := arV_app _ _ _ hl0
        rwa [e] at this
      obtain ⟨E1, hE1⟩ : ∃ E1 : En, E1 = [some (.loc n), some (.d (.str ⟨#[c]⟩)), some (.d (.str nm)), some (.loc k)] := ⟨_, rfl⟩
      have s2 : sAsg (eOp opIx (eFld "Spelling" "around" (eVar 0)) (eNeg (eC (.int 1)))) (tTupT 2 (tgCons (tN 2) (tgCons (tN 3) tgNil))) E0 L1 = .nx E1 L1 := by
        have al := arV_len hl0
        have ll := ok.ll
        rw [elv, List.length_append, List.length_singleton] at ll
        have kz : (arV lv0 ks0 ++ [Va.tup [.d (.str nm), .loc k]]).length ≤ sizeLine := by rw [List.length_append, List.length_singleton]; omega
        have dg : Va.dget L1 (.loc a) (.d (.int (-1))) = none := by simp [Va.dget, a1]
        have sq : Va.seq L1 (.loc a) = some (arV lv0 ks0 ++ [.tup [.d (.str nm), .loc k]]) := by simp [Va.seq, a1]
        have ix : eOp opIx (eFld "Spelling" "around" (eVar 0)) (eNeg (eC (.int 1))) E0 L1 = .ok (.tup [.d (.str nm), .loc k]) L1 := by
          rw [u_eOp, ev_a he h1.ins]
          simp only [Res.bind_ok, u_eNeg, u_eC, u_opIx, dg, sq, atI_m1]
        rw [u_sAsg, ix, hE0, hE1]
        simp
      have he1 : E1[0]? = some (some (.loc n)) := by rw [hE1]; rfl
      have e11 : E1[1]? = some (some (.d (.str ⟨#[c]⟩))) := by rw [hE1]; rfl
      have e13 : E1[3]? = some (some (.loc k)) := by rw [hE1]; rfl
      have sg := fun M => str_c c 41 ")" (by decide +kernel) (L := M) e11
      have tr := emp_ev (f := eVar 3) (env := E1) (L := L1) (by rw [u_eVar, e13]) q2 false
      have et : (ts.map Va.d).isEmpty = ts.isEmpty := by cases ts <;> rfl
      rw [et, Bool.false_xor] at tr
      have c3 : sIf (tAndF (tVal (eOp opEq (eVar 1) (eC (.str ")")))) (tVal (eOp (opEqE false) (eVar 3) (eDat (fLst aNil))))) (sRet (eC (.bool false))) sNil E1 L1 = if c = 41 ∧ ts = [] then .rt (.d (.bool false)) L1 else .nx E1 L1 := by
        rw [u_sIf, u_tAndF, sg]
        by_cases c41 : c = 41
        · simp only [Res.bind_ok, c41, decide_true, if_true]
          rw [tr]
          cases ts <;> simp
        · simp [c41]
      show match (if c = 41 ∧ ts = [] then none else if c = 44 then some (⟨s.lv.dropLast ++ [(nm, ts ++ [t])], [], none⟩ : TS) else some ⟨s.lv.dropLast, [], some (.tuple [.str nm, .tuple (ts ++ [t])])⟩) with
        | none => _
        | some s' => _
      by_cases cc : c = 41 ∧ ts = []
      · rw [if_pos cc]
        rw [if_pos cc] at c3
        refine ⟨L1, fnC_rt rfl ?_, h1.fr⟩
        show b_Spelling_take_part [some (.loc n), some (.d (.str ⟨#[c]⟩)), none, none] L = _
        rw [← hE0]
        exact seq_nx c1 (seq_nx s2 (seq_rt c3))
      · rw [if_neg cc]
        rw [if_neg cc] at c3
        have tz : ts.length ≤ 1000000 := hz (nm, ts) (by rw [elv]; exact List.mem_append_right _ List.mem_cons_self)
        have h2 := h1.cell (us := ts ++ [t]) hl0
        obtain ⟨L2, hL2⟩ : ∃ L2, L2 = L1.set k (some (.lst ((ts ++ [t]).map Va.d))) := ⟨_, rfl⟩
        rw [← hL2] at h2
        have ap : sExpr (eMeth isLs mAppend (eVar 3) (aCons (eFld "Spelling" "read" (eVar 0)) aNil)) E1 L1 = .nx E1 L2 := by
          have il : isLs L1 (.loc k) = true := by rw [u_isLs]; simp only [q2]
          have kz : (ts.map Va.d).length < sizeLine := by rw [List.length_map]; omega
          rw [u_sExpr, u_eMeth, u_eVar, e13]
          simp only [Res.bind_ok, il, if_true]
          rw [u_aCons, ev_r he1 h1.ins]
          simp only [Res.bind_ok, u_aNil, u_mAppend, q2, if_pos kz, then_ok]
          rw [hL2, List.map_append]
          rfl
        have h3 := h2.put [] none
        obtain ⟨L3, hL3⟩ : ∃ L3, L3 = L2.set n (spO a [] none) := ⟨_, rfl⟩
        rw [← hL3] at h3
        have h3 : SpR L0 L3 n a (ks0 ++ [k]) ⟨lv0 ++ [(nm, ts ++ [t])], [], none⟩ := h3
        have rn : sFldS "Spelling" "read" (eVar 0) (eC .none) E1 L2 = .nx E1 L3 := by
          have := fldS_ev (c := "Spelling") (x := "read") (fo := eVar 0) (fv := eC .none) (env := E1) (L := L2) (M := L2) (u := .d .none) (by rw [u_eC]) (by rw [u_eVar, he1]) h2.ins (spF_len _ _ _)
          rw [show Va.d .none = .d (rdD none) from rfl, put_r] at this
          rw [hL3]
          exact this
        by_cases c44 : c = 44
        · rw [if_pos c44]
          refine ⟨L3, ks0 ++ [k], fnC_rt rfl ?_, by rw [← hlv0]; exact h3⟩
          show b_Spelling_take_part [some (.loc n), some (.d (.str ⟨#[c]⟩)), none, none] L = _
          rw [← hE0]
          refine seq_nx c1 (seq_nx s2 (seq_nx c3 (seq_nx ap (seq_nx rn (seq_nx (env1 := E1) (L1 := L3) ?_ ?_)))))
          · rw [u_sIf, sg]
            have : ¬ c = 41 := by omega
            simp [this]
          · simp
        · rw [if_neg c44]
          have c41 : c = 41 := by omega
          have h4 := h3.pop hl0
          obtain ⟨L4, hL4⟩ : ∃ L4, L4 = L3.set a (some (.lst (arV lv0 ks0))) := ⟨_, rfl⟩
          rw [← hL4] at h4
          have a3 : L3[a]? = some (some (.lst (arV lv0 ks0 ++ [.tup [.d (.str nm), .loc k]]))) := by
            have := h3.arr
            have e : arV (⟨lv0 ++ [(nm, ts ++ [t])], [], none⟩ : TS).lv (ks0 ++ [k]) = arV lv0 ks0 ++ [.tup [.d (.str nm), .loc k]] := arV_app _ _ _ hl0
            rwa [e] at this
          have pp : sExpr (eMeth isLs mPop0 (eFld "Spelling" "around" (eVar 0)) aNil) E1 L3 = .nx E1 L4 := by
            have il : isLs L3 (.loc a) = true := by rw [u_isLs]; simp only [a3]
            have lst : (arV lv0 ks0 ++ [Va.tup [.d (.str nm), .loc k]])[(arV lv0 ks0 ++ [Va.tup [.d (.str nm), .loc k]]).length - 1]? = some (.tup [.d (.str nm), .loc k]) := by simp
            have mp : mPop0 (.loc a) [] L3 = .ok (.tup [.d (.str nm), .loc k]) (L3.set a (some (.lst (arV lv0 ks0 ++ [Va.tup [.d (.str nm), .loc k]]).dropLast))) := by
              unfold mPop0
              simp only [a3, lst]
            rw [u_sExpr, u_eMeth, ev_a he1 h3.ins]
            simp only [Res.bind_ok, il, if_true, u_aNil, mp, then_ok]
            rw [hL4, List.dropLast_concat]
          have q4 : L4[k]? = some (some (.lst ((ts ++ [t]).map Va.d))) := by
            have := ((celOk_app nm (ts ++ [t]) k hl0).mp h3.cel).2
            rw [hL4, List.getElem?_set_ne (h3.nk k (List.mem_append_right _ List.mem_cons_self)).2.1.symm]
            exact this
          have h5 := h4.put [] (some (.tuple [.str nm, .tuple (ts ++ [t])]))
          have tp : eTup (aCons (eVar 2) (aCons (eCallB cTuple (aCons (eVar 3) aNil)) aNil)) E1 L4 = .ok (.d (.tuple [.str nm, .tuple (ts ++ [t])])) L4 := by
            have ct : eCallB cTuple (aCons (eVar 3) aNil) E1 L4 = .ok (.d (.tuple (ts ++ [t]))) L4 := by
              have kz : ((ts ++ [t]).map Va.d).length ≤ sizeLine := by rw [List.length_map, List.length_append, List.length_singleton]; omega
              have it : Va.items L4 (.loc k) = some ((ts ++ [t]).map Va.d) := by
                unfold Va.items
                simp only [q4]
              rw [u_eCallB, u_aCons, u_eVar, e13]
              simp only [Res.bind_ok, u_aNil, u_cTuple, it, datas_map]
              simp [-List.map_append, q4, datas_map, kz]
            rw [u_eTup, u_aCons, u_eVar, hE1]
            rw [hE1] at ct
            simp only [List.getElem?_cons_succ, List.getElem?_cons_zero, Res.bind_ok, u_aCons, ct, u_aNil]
            simp [zs, mkTup, datas]
          have rs : sFldS "Spelling" "read" (eVar 0) (eTup (aCons (eVar 2) (aCons (eCallB cTuple (aCons (eVar 3) aNil)) aNil))) E1 L4 = .nx E1 (L4.set n (spO a [] (some (.tuple [.str nm, .tuple (ts ++ [t])])))) := by
            have := fldS_ev (c := "Spelling") (x := "read") (fo := eVar 0) (env := E1) (L := L4) (M := L4) tp (by rw [u_eVar, he1]) h4.ins (spF_len _ _ _)
            rw [show Va.d (.tuple [.str nm, .tuple (ts ++ [t])]) = .d (rdD (some (.tuple [.str nm, .tuple (ts ++ [t])]))) from rfl, put_r] at this
            exact this
          refine ⟨_, ks0, fnC_rt rfl ?_, by rw [← hlv0]; exact h5⟩
          show b_Spelling_take_part [some (.loc n), some (.d (.str ⟨#[c]⟩)), none, none] L = _
          rw [← hE0]
          refine seq_nx c1 (seq_nx s2 (seq_nx c3 (seq_nx ap (seq_nx rn (seq_nx (env1 := E1) (L1 := L4.set n (spO a [] (some (.tuple [.str nm, .tuple (ts ++ [t])])))) ?_ ?_)))))
          · rw [u_sIf, sg]
            simp only [then_ok, c41, decide_true, if_true]
            exact seq_nx pp rs
          · simp
end
end L2.HW
namespace L2.HW
open PySem PySem.Spec PyProof.Rows L2.HW.G PySem.NumText TL
theorem kept_fr {L L' : LH} (h : ∀ i, i < L.length → L'[i]? = L[i]?) : Kept L L' ∧ L'.take L.length = L := by
  refine ⟨fun n hn => .inl (h n hn), ?_⟩
  refine List.ext_getElem? fun i => ?_
  by_cases hi : i < L.length
  · rw [List.getElem?_take_of_lt hi, h i hi]
  · rw [List.getElem?_eq_none (l := L) (by omega), List.getElem?_eq_none (by rw [List.length_take]; omega)]
theorem fn_excK {np nl : Nat} {body : SFn} {ws : List Va} {L L' : LH} {c : Str} {x : Option PyData} {env' : En} (hl : ws.length = np) (k : ∀ i, i < L.length → L'[i]? = L[i]?) (h : body (ws.map some ++ List.replicate (nl - ws.length) none) L = .exc c x env' L') : mkFn np nl body ws L = .exc c x L := by
  obtain ⟨k1, k2⟩ := kept_fr k
  unfold mkFn
  rw [if_pos hl, h]
  simp only [if_pos k1, k2]
theorem outV_fr {L L' : LH} {w : Va} (k : ∀ i, i < L.length → L'[i]? = L[i]?) : outV L L' (some w) = .ok w L := by
  obtain ⟨k1, k2⟩ := kept_fr k
  simp only [outV, if_pos k1, k2]
theorem in_sign (c : Nat) (z : Str) {env : En} {L : LH} {i : Nat} (he : env[i]? = some (some (.d (.str ⟨#[c]⟩)))) : tVal (eOp (opIn false) (eVar i) (eC (.str z))) env L = .ok (decide (c ∈ z.cps.toList)) L := by
  have dg : Va.dget L (.d (.str z)) (.d (.str ⟨#[c]⟩)) = none := rfl
  have tl1 : (⟨#[c]⟩ : Str).cps.toList = [c] := rfl
  rw [u_tVal, u_eOp, u_eVar, he]
  simp only [Res.bind_ok, u_eC, u_opIn, dg, tl1]
  rfl
section
variable {L0 L : LH} {n a : Nat} {ks : List Nat} {s : TS}
theorem take_sign (h : SpR L0 L n a ks s) (ok : TOk s) (hz : ∀ p ∈ s.lv, p.2.length ≤ 1000000) (c : Nat) : match stepT s c with
    | none => ∃ L', F_Spelling_take [.loc n, .d (.str ⟨#[c]⟩)] L = .ok (.d (.bool false)) L' ∧ ∀ i, i < L0.length → L'[i]? = L0[i]?
    | some s' => ∃ L' ks', F_Spelling_take [.loc n, .d (.str ⟨#[c]⟩)] L = .ok (.d (.bool true)) L' ∧ SpR L0 L' n a ks' s' := by
  obtain ⟨E, hE⟩ : ∃ E : En, E = [some (.loc n), some (.d (.str ⟨#[c]⟩))] := ⟨_, rfl⟩
  have he : E[0]? = some (some (.loc n)) := by rw [hE]; rfl
  have e1 : E[1]? = some (some (.d (.str ⟨#[c]⟩))) := by rw [hE]; rfl
  have t1 : tVal (eOp (opIn false) (eVar 1) (eC (.str "0123456789"))) E L = .ok (digB c) L := in_sign c figS e1
  have t2 := str_c c 40 "(" (by decide +kernel) (L := L) e1
  have t3 : tVal (eOp (opIn false) (eVar 1) (eC (.str ",)"))) E L = .ok (decide (c = 44 ∨ c = 41)) L := by
    rw [in_sign c ",)" e1]
    have : (",)" : Str).cps.toList = [44, 41] := by decide +kernel
    rw [this]
    congr 1
    exact decide_eq_decide.mpr (by simp)
  have call : ∀ (m : Str) (F : Fn), (spF a s.wd s.rd).lookup m = none → eCallM "Spelling" m F (eVar 0) (aCons (eVar 1) aNil) E L = F [.loc n, .d (.str ⟨#[c]⟩)] L := fun m F lk => by
    have sa : aCons (eVar 1) aNil E L = .ok [.d (.str ⟨#[c]⟩)] L := by rw [u_aCons, u_eVar, e1]; simp
    rw [u_eCallM, u_eVar, he]
    simp only [Res.bind_ok, h.ins, lk, and_self, if_true, sa]
  have call0 : eCallM "Spelling" "take_open" F_Spelling_take_open (eVar 0) aNil E L = F_Spelling_take_open [.loc n] L := by
    have lk : (spF a s.wd s.rd).lookup ("take_open" : Str) = none := rfl
    rw [u_eCallM, u_eVar, he]
    simp only [Res.bind_ok, h.ins, lk, and_self, if_true, u_aNil]
  have fin : ∀ (b : Bool) (L' : LH), b_Spelling_take E L = .rt (.d (.bool b)) L' → F_Spelling_take [.loc n, .d (.str ⟨#[c]⟩)] L = .ok (.d (.bool b)) L' := fun b L' hb => fnC_rt rfl (by rw [hE] at hb; exact hb)
  by_cases hd : digB c = true
  · have r := fig_run (a := a) s.lv h.ins ok hd
    have body : ∀ (b : Bool) (L' : LH), F_Spelling_take_figure [.loc n, .d (.str ⟨#[c]⟩)] L = .ok (.d (.bool b)) L' → b_Spelling_take E L = .rt (.d (.bool b)) L' := fun b L' hb => by
      refine seq_rt ?_
      rw [u_sIf, t1, hd]
      simp only [then_ok, if_true]
      rw [u_sRet, call "take_figure" F_Spelling_take_figure rfl, hb]
      rfl
    have es : stepT ⟨s.lv, s.wd, s.rd⟩ c = stepT s c := rfl
    rw [es] at r
    cases hs : stepT s c with
    | none =>
      rw [hs] at r
      exact ⟨L, fin _ _ (body _ _ r), h.fr⟩
    | some s' =>
      rw [hs] at r
      have lv' : s'.lv = s.lv := by
        unfold stepT at hs
        rw [if_pos hd] at hs
        split at hs
        · cases hs
        · cases hs; rfl
      refine ⟨_, ks, fin _ _ (body _ _ r), ?_⟩
      have := h.put s'.wd s'.rd
      rw [← lv'] at this
      exact this
  · have hd := Bool.eq_false_iff.mpr hd
    have n1 : ∀ f, sIf (tVal (eOp (opIn false) (eVar 1) (eC (.str "0123456789")))) f sNil E L = .nx E L := fun f => by
      rw [u_sIf, t1, hd]
      simp
    by_cases h40 : c = 40
    · subst h40
      have r := openT_run h ok
      have body : ∀ (b : Bool) (L' : LH), F_Spelling_take_open [.loc n] L = .ok (.d (.bool b)) L' → b_Spelling_take E L = .rt (.d (.bool b)) L' := fun b L' hb => by
        refine seq_nx (n1 _) (seq_rt ?_)
        rw [u_sIf, t2]
        simp only [then_ok, decide_true, if_true]
        rw [u_sRet, call0, hb]
        rfl
      cases hs : stepT s 40 with
      | none =>
        rw [hs] at r
        exact ⟨L, fin _ _ (body _ _ r), h.fr⟩
      | some s' =>
        rw [hs] at r
        obtain ⟨L', ks', r1, r2⟩ := r
        exact ⟨L', ks', fin _ _ (body _ _ r1), r2⟩
    · have n2 : ∀ f, sIf (tVal (eOp opEq (eVar 1) (eC (.str "(")))) f sNil E L = .nx E L := fun f => by
        rw [u_sIf, t2]
        simp [h40]
      by_cases hc : c = 44 ∨ c = 41
      · have r := part_run h ok hz hc
        have body : ∀ (b : Bool) (L' : LH), F_Spelling_take_part [.loc n, .d (.str ⟨#[c]⟩)] L = .ok (.d (.bool b)) L' → b_Spelling_take E L = .rt (.d (.bool b)) L' := fun b L' hb => by
          refine seq_nx (n1 _) (seq_nx (n2 _) ?_)
          rw [u_sRet, u_eIf, t3]
          simp only [Res.bind_ok, hc, decide_true, if_true]
          rw [call "take_part" F_Spelling_take_part rfl, hb]
          rfl
        cases hs : stepT s c with
        | none =>
          rw [hs] at r
          obtain ⟨L', r1, r2⟩ := r
          exact ⟨L', fin _ _ (body _ _ r1), r2⟩
        | some s' =>
          rw [hs] at r
          obtain ⟨L', ks', r1, r2⟩ := r
          exact ⟨L', ks', fin _ _ (body _ _ r1), r2⟩
      · have r := letter_run h ok hd h40 hc
        have body : ∀ (b : Bool) (L' : LH), F_Spelling_take_letter [.loc n, .d (.str ⟨#[c]⟩)] L = .ok (.d (.bool b)) L' → b_Spelling_take E L = .rt (.d (.bool b)) L' := fun b L' hb => by
          refine seq_nx (n1 _) (seq_nx (n2 _) ?_)
          rw [u_sRet, u_eIf, t3]
          simp only [Res.bind_ok, hc, decide_false, Bool.false_eq_true, if_false]
          rw [call "take_letter" F_Spelling_take_letter rfl, hb]
          rfl
        cases hs : stepT s c with
        | none =>
          rw [hs] at r
          exact ⟨L, fin _ _ (body _ _ r), h.fr⟩
        | some s' =>
          rw [hs] at r
          exact ⟨_, ks, fin _ _ (body _ _ r.1), r.2⟩
end
def lvB (s : TS) (k : Nat) : Prop := ∀ p ∈ s.lv, p.2.length ≤ k
theorem lvB_step {s s' : TS} {k c : Nat} (h : lvB s k) (e : stepT s c = some s') : lvB s' (k + 1) := by
  have mono : ∀ p ∈ s.lv, p.2.length ≤ k + 1 := fun p hp => by have := h p hp; omega
  unfold stepT at e
  split at e
  · split at e
    · cases e
    · cases e; exact mono
  · split at e
    · split at e
      · cases e
      · cases e
        intro p hp
        rcases List.mem_append.mp hp with hp | hp
        · exact mono p hp
        · rw [List.mem_singleton.mp hp]
          exact Nat.zero_le _
    · split at e
      · split at e
        · rename_i nm ts t e1 e2
          have ht := h (nm, ts) (List.mem_of_getLast? e1)
          split at e
          · cases e
          · split at e
            · cases e
              intro p hp
              rcases List.mem_append.mp hp with hp | hp
              · exact mono p ((List.dropLast_sublist _).subset hp)
              · rw [List.mem_singleton.mp hp]
                show (ts ++ [t]).length ≤ k + 1
                rw [List.length_append, List.length_singleton]
                have ht : ts.length ≤ k := ht
                omega
            · cases e
              exact fun p hp => mono p ((List.dropLast_sublist _).subset hp)
        · cases e
      · split at e
        · cases e
        · cases e; exact mono
theorem rdt_loop {L0 : LH} {n a : Nat} {x0 : Option Va} : ∀ (cs : List Nat) (k : Nat) (s : TS) (ks : List Nat) (L : LH) (x2 x3 : Option Va), SpR L0 L n a ks s → TOk s → lvB s k → k + cs.length ≤ 1000000 →
    match runT s k cs with
    | .ok s' => ∃ L' ks' y2 y3, forL (tTupT 2 (tgCons (tN 2) (tgCons (tN 3) tgNil))) b_read_tree_1 (enumV (k : Int) ((cs.map fun c => PyData.str ⟨#[c]⟩).map Va.d)) [x0, some (.loc n), x2, x3] L = .nx [x0, some (.loc n), y2, y3] L' ∧ SpR L0 L' n a ks' s' ∧ TOk s'
    | .error j => ∃ L' env', forL (tTupT 2 (tgCons (tN 2) (tgCons (tN 3) tgNil))) b_read_tree_1 (enumV (k : Int) ((cs.map fun c => PyData.str ⟨#[c]⟩).map Va.d)) [x0, some (.loc n), x2, x3] L = .exc "NoText" (some (.int (j : Int))) env' L' ∧ ∀ i, i < L0.length → L'[i]? = L0[i]?
  | [], k, s, ks, L, x2, x3, h, ok, hb, hz => ⟨L, ks, x2, x3, rfl, h, ok⟩
  | c :: cs, k, s, ks, L, x2, x3, h, ok, hb, hz => by
    have r := take_sign h ok (fun p hp => by have := hb p hp; simp only [List.length_cons] at hz; omega) c
    have tg : tTupT 2 (tgCons (tN 2) (tgCons (tN 3) tgNil)) (.d (.tuple [.int (k : Int), .str ⟨#[c]⟩])) [x0, some (.loc n), x2, x3] L = .ok [x0, some (.loc n), some (.d (.int (k : Int))), some (.d (.str ⟨#[c]⟩))] L := by
      simp [Va.seq]
    have call : eCallM "Spelling" "take" F_Spelling_take (eVar 1) (aCons (eVar 3) aNil) [x0, some (.loc n), some (.d (.int (k : Int))), some (.d (.str ⟨#[c]⟩))] L = F_Spelling_take [.loc n, .d (.str ⟨#[c]⟩)] L := by
      have lk : (spF a s.wd s.rd).lookup ("take" : Str) = none := rfl
      have sa : aCons (eVar 3) aNil [x0, some (.loc n), some (.d (.int (k : Int))), some (.d (.str ⟨#[c]⟩))] L = .ok [.d (.str ⟨#[c]⟩)] L := by simp
      rw [u_eCallM, u_eVar]
      simp only [List.getElem?_cons_succ, List.getElem?_cons_zero, Res.bind_ok, h.ins, lk, and_self, if_true, sa]
    have step : ∀ o, b_read_tree_1 [x0, some (.loc n), some (.d (.int (k : Int))), some (.d (.str ⟨#[c]⟩))] L = o → forL (tTupT 2 (tgCons (tN 2) (tgCons (tN 3) tgNil))) b_read_tree_1 (enumV (k : Int) (((c :: cs).map fun c => PyData.str ⟨#[c]⟩).map Va.d)) [x0, some (.loc n), x2, x3] L = match o with
      | .nx env2 L2 => forL (tTupT 2 (tgCons (tN 2) (tgCons (tN 3) tgNil))) b_read_tree_1 (enumV ((k + 1 : Nat) : Int) ((cs.map fun c => PyData.str ⟨#[c]⟩).map Va.d)) env2 L2
      | .ct env2 L2 => forL (tTupT 2 (tgCons (tN 2) (tgCons (tN 3) tgNil))) b_read_tree_1 (enumV ((k + 1 : Nat) : Int) ((cs.map fun c => PyData.str ⟨#[c]⟩).map Va.d)) env2 L2
      | .bk env2 L2 => .nx env2 L2
      | o => o := fun o ho => by
      have ek : ((k + 1 : Nat) : Int) = (k : Int) + 1 := by omega
      rw [List.map_cons, enum_cons, ek]
      conv => lhs; unfold forL
      (simp only [tg, ho]) <;> (cases o <;> rfl)
    unfold runT
    cases hs : stepT s c with
    | none =>
      rw [hs] at r
      obtain ⟨L', r1, r2⟩ := r
      have bd : b_read_tree_1 [x0, some (.loc n), some (.d (.int (k : Int))), some (.d (.str ⟨#[c]⟩))] L = .exc "NoText" (some (.int (k : Int))) [x0, some (.loc n), some (.d (.int (k : Int))), some (.d (.str ⟨#[c]⟩))] L' := by
        unfold b_read_tree_1
        rw [u_sIf, u_tNotF, u_tVal, call, r1]
        simp
      exact ⟨L', _, step _ bd, r2⟩
    | some s' =>
      rw [hs] at r
      obtain ⟨L', ks', r1, r2⟩ := r
      have bd : b_read_tree_1 [x0, some (.loc n), some (.d (.int (k : Int))), some (.d (.str ⟨#[c]⟩))] L = .nx [x0, some (.loc n), some (.d (.int (k : Int))), some (.d (.str ⟨#[c]⟩))] L' := by
        unfold b_read_tree_1
        rw [u_sIf, u_tNotF, u_tVal, call, r1]
        simp
      have ih := rdt_loop (x0 := x0) cs (k + 1) s' ks' L' (some (.d (.int (k : Int)))) (some (.d (.str ⟨#[c]⟩))) r2 (tstep_ok ok hs) (lvB_step hb hs) (by simp only [List.length_cons] at hz; omega)
      have sp := step _ bd
      show match runT s' (k + 1) cs with
        | .ok s' => _
        | .error j => _
      cases hr : runT s' (k + 1) cs with
      | ok s2 =>
        rw [hr] at ih
        obtain ⟨L2, ks2, y2, y3, i1, i2, i3⟩ := ih
        exact ⟨L2, ks2, y2, y3, sp.trans i1, i2, i3⟩
      | error j =>
        rw [hr] at ih
        obtain ⟨L2, env2, i1, i2⟩ := ih
        exact ⟨L2, env2, sp.trans i1, i2⟩
end L2.HW
namespace L2.HW
open PySem PySem.Spec PyProof.Rows L2.HW.G PySem.NumText TL
theorem fnC_nx {np nl : Nat} {b : SFn} {ws : List Va} {L L' : LH} {env' : En} (hl : ws.length = np) (h : b (ws.map some ++ List.replicate (nl - ws.length) none) L = .nx env' L') : mkFnC np nl b ws L = .ok (.d .none) L' := by
  unfold mkFnC
  rw [if_pos hl, h]
theorem init_run (L : LH) : F_Spelling_init [.loc L.length] (L ++ [some (.ins "Spelling" [])]) = .ok (.d .none) (L ++ [spO (L.length + 1) [] none] ++ [some (.lst [])]) := by
  obtain ⟨n, hn⟩ : ∃ n, n = L.length := ⟨_, rfl⟩
  obtain ⟨M, hM⟩ : ∃ M, M = L ++ [some (Ob.ins "Spelling" [])] := ⟨_, rfl⟩
  have lM : M.length = n + 1 := by rw [hM, hn]; simp
  have he : ([some (.loc n)] : En)[0]? = some (some (.loc n)) := rfl
  obtain ⟨M1, hM1⟩ : ∃ M1, M1 = M ++ [some (Ob.lst [])] := ⟨_, rfl⟩
  have g1 : M1[n]? = some (some (.ins "Spelling" [])) := by rw [hM1, List.getElem?_append_left (by omega), hM, hn]; exact app_get
  have nw : eNew (fLst aNil) [some (.loc n)] M = .ok (.loc (n + 1)) M1 := by
    rw [u_eNew, u_fLst]
    simp [hM1, lM]
  have s1 : sFldS "Spelling" "around" (eVar 0) (eNew (fLst aNil)) [some (.loc n)] M = .nx [some (.loc n)] (M1.set n (some (.ins "Spelling" [("around", .loc (n + 1))]))) := fldS_ev (c := "Spelling") (x := "around") (fo := eVar 0) nw (by rw [u_eVar, he]) g1 (by show 0 < 1000; omega)
  obtain ⟨M2, hM2⟩ : ∃ M2, M2 = M1.set n (some (Ob.ins "Spelling" [("around", .loc (n + 1))])) := ⟨_, rfl⟩
  have l1 : M1.length = n + 2 := by rw [hM1]; simp [lM]
  have g2 : M2[n]? = some (some (.ins "Spelling" [("around", .loc (n + 1))])) := by rw [hM2, List.getElem?_set_self (by omega)]
  have s2 : sFldS "Spelling" "word" (eVar 0) (eC (.str "")) [some (.loc n)] M2 = .nx [some (.loc n)] (M2.set n (some (.ins "Spelling" [("around", .loc (n + 1)), ("word", .d (.str ""))]))) := fldS_ev (c := "Spelling") (x := "word") (fo := eVar 0) (fv := eC (.str "")) (M := M2) (by rw [u_eC]) (by rw [u_eVar, he]) g2 (by show 1 < 1000; omega)
  obtain ⟨M3, hM3⟩ : ∃ M3, M3 = M2.set n (some (Ob.ins "Spelling" [("around", .loc (n + 1)), ("word", .d (.str ""))])) := ⟨_, rfl⟩
  have g3 : M3[n]? = some (some (.ins "Spelling" [("around", .loc (n + 1)), ("word", .d (.str ""))])) := by rw [hM3, List.getElem?_set_self (by rw [hM2, List.length_set]; omega)]
  have s3 : sFldS "Spelling" "read" (eVar 0) (eC .none) [some (.loc n)] M3 = .nx [some (.loc n)] (M3.set n (some (.ins "Spelling" [("around", .loc (n + 1)), ("word", .d (.str "")), ("read", .d .none)]))) := fldS_ev (c := "Spelling") (x := "read") (fo := eVar 0) (fv := eC .none) (M := M3) (by rw [u_eC]) (by rw [u_eVar, he]) g3 (by show 2 < 1000; omega)
  have fin : M3.set n (some (Ob.ins "Spelling" [("around", .loc (n + 1)), ("word", .d (.str "")), ("read", .d .none)])) = L ++ [spO (n + 1) [] none] ++ [some (.lst [])] := by
    rw [hM3, hM2, List.set_set, List.set_set, hM1, hM]
    have : (L ++ [some (Ob.ins "Spelling" [])] ++ [some (Ob.lst [])]).set n (spO (n + 1) [] none) = L ++ [spO (n + 1) [] none] ++ [some (.lst [])] := by
      rw [List.append_assoc, List.append_assoc, List.set_append_right _ _ (by omega), hn]
      simp
    exact this
  rw [← hn, ← hM]
  refine fnC_nx (env' := [some (.loc n)]) rfl ?_
  show b_Spelling_init [some (.loc n)] M = _
  refine seq_nx (s1.trans (by rw [← hM2])) (seq_nx (s2.trans (by rw [← hM3])) ?_)
  rw [s3, fin]
theorem read_tree_run (text : Str) (hl : text.length ≤ 1000000) (L : LH) : F_read_tree [.d (.str text)] L = match treeT text with
    | .error k => .exc "NoText" (some (.int (k : Int))) L
    | .ok x => .ok (.d x) L := by
  have zs := sizeLine_eq
  obtain ⟨n, hn⟩ : ∃ n, n = L.length := ⟨_, rfl⟩
  obtain ⟨M, hM⟩ : ∃ M, M = L ++ [spO (L.length + 1) [] none] ++ [some (Ob.lst [])] := ⟨_, rfl⟩
  have s1 : sSet 1 (eMake "Spelling" F_Spelling_init aNil) [some (.d (.str text)), none, none, none] L = .nx [some (.d (.str text)), some (.loc n), none, none] M := by
    rw [u_sSet, u_eMake]
    simp only [u_aNil, Res.bind_ok, init_run, then_ok]
    rw [hM, hn]
    rfl
  have sp0 : SpR L M n (n + 1) [] init0 := by
    refine ⟨?_, ?_, trivial, by omega, fun k hk => (by cases hk), List.nodup_nil, by omega, by omega, fun i hi => ?_⟩
    · rw [hM, hn, List.append_assoc, List.getElem?_append_right (Nat.le_refl _)]
      simp [init0]
    · rw [hM, hn, List.append_assoc, List.getElem?_append_right (by omega)]
      simp [init0, arV]
    · rw [hM, List.append_assoc, List.getElem?_append_left hi]
  have lp := rdt_loop (L0 := L) (n := n) (a := n + 1) (x0 := some (.d (.str text))) (tl text) 0 init0 [] M none none sp0 init0_ok (fun p hp => by cases hp) (by rw [← len_tl]; omega)
  have src : srcES (aCons (eVar 0) aNil) [some (.d (.str text)), some (.loc n), none, none] M = .ok (enumV ((0 : Nat) : Int) (((tl text).map fun c => PyData.str ⟨#[c]⟩).map Va.d), none) M := by
    rw [u_srcES, u_aCons, u_eVar]
    simp only [List.getElem?_cons_zero, Res.bind_ok, u_aNil]
    rw [List.map_map]
    rfl
  cases hr : runT init0 0 (tl text) with
  | error j =>
    rw [hr] at lp
    have et : treeT text = .error j := by unfold treeT; rw [hr]
    rw [et]
    obtain ⟨L', env', e1, e2⟩ := lp
    refine fn_excK (L' := L') (env' := env') rfl e2 ?_
    show b_read_tree [some (.d (.str text)), none, none, none] L = _
    exact seq_nx s1 (seq_exc (for_exc src e1))
  | ok s =>
    rw [hr] at lp
    have et : treeT text = match s.lv, endT s with
      | [], some x => .ok x
      | _, _ => .error text.length := by unfold treeT; (rw [hr]) <;> rfl
    obtain ⟨L1, ks, y2, y3, e1, h, ok⟩ := lp
    obtain ⟨L2, cr, h2⟩ := closed_run h ok
    obtain ⟨E, hE⟩ : ∃ E : En, E = [some (.d (.str text)), some (.loc n), y2, y3] := ⟨_, rfl⟩
    have he : E[1]? = some (some (.loc n)) := by rw [hE]; rfl
    have ea : eFld "Spelling" "around" (eVar 1) E L1 = .ok (.loc (n + 1)) L1 := fld_ev (by rw [u_eVar, he]) h.ins (sp_a _ _ _)
    have t0 := emp_ev ea h.arr true
    have ek : (arV s.lv ks).isEmpty = s.lv.isEmpty := by
      have := arV_len h.cel.len
      cases h1 : s.lv with
      | nil => rw [h1] at this; rw [List.length_eq_zero_iff.mp this]; rfl
      | cons p q =>
        rw [h1] at this
        cases h2 : arV (p :: q) ks with
        | nil => rw [h2] at this; cases this
        | cons _ _ => rfl
    rw [ek, Bool.true_xor] at t0
    have cl : eCallM "Spelling" "closed" F_Spelling_closed (eVar 1) aNil E L1 = .ok (.d (.bool (endT s).isSome)) L2 := by
      have lk : (spF (n + 1) s.wd s.rd).lookup ("closed" : Str) = none := rfl
      rw [u_eCallM, u_eVar, he]
      simp only [Res.bind_ok, h.ins, lk, and_self, if_true, u_aNil, cr]
    have len : ∀ M : LH, eCallB cLen (aCons (eVar 0) aNil) E M = .ok (.d (.int (text.length : Int))) M := fun M => by
      have k : text.length ≤ sizeLine := by omega
      rw [hE]
      simp [k]
    have ra : ∀ M : LH, sRaiseV "NoText" (aCons (eCallB cLen (aCons (eVar 0) aNil)) aNil) E M = .exc "NoText" (some (.int (text.length : Int))) E M := fun M => by
      rw [u_sRaiseV, u_aCons, len]
      simp
    have bad : ∀ (L' : LH), (∀ i, i < L.length → L'[i]? = L[i]?) → tOrF (tVal (eOp (opEqE true) (eFld "Spelling" "around" (eVar 1)) (eDat (fLst aNil)))) (tNotF (tVal (eCallM "Spelling" "closed" F_Spelling_closed (eVar 1) aNil))) E L1 = .ok true L' → F_read_tree [.d (.str text)] L = .exc "NoText" (some (.int (text.length : Int))) L := fun L' fr ht => by
      refine fn_excK (L' := L') (env' := E) rfl fr ?_
      show b_read_tree [some (.d (.str text)), none, none, none] L = _
      refine seq_nx s1 (seq_nx (for_nx src e1) ?_)
      rw [← hE]
      refine seq_exc ?_
      rw [u_sIf, ht]
      simp only [then_ok, if_true]
      exact ra L'
    cases hlv : s.lv with
    | cons p q =>
      rw [hlv] at t0
      have : F_read_tree [.d (.str text)] L = .exc "NoText" (some (.int (text.length : Int))) L := bad L1 h.fr (by rw [u_tOrF, t0]; simp)
      have et : treeT text = .error text.length := by rw [et, hlv]
      rw [et]
      exact this
    | nil =>
      rw [hlv] at t0
      have to : tOrF (tVal (eOp (opEqE true) (eFld "Spelling" "around" (eVar 1)) (eDat (fLst aNil)))) (tNotF (tVal (eCallM "Spelling" "closed" F_Spelling_closed (eVar 1) aNil))) E L1 = .ok (!(endT s).isSome) L2 := by
        rw [u_tOrF, t0]
        simp only [Res.bind_ok, List.isEmpty_nil, Bool.not_true, Bool.false_eq_true, if_false]
        rw [u_tNotF, u_tVal, cl]
        simp
      cases ht : endT s with
      | none =>
        rw [ht] at to
        have et : treeT text = .error text.length := by rw [et, hlv, ht]
        rw [et]
        exact bad L2 h2.fr to
      | some x =>
        rw [ht] at to h2
        have et : treeT text = .ok x := by rw [et, hlv, ht]
        rw [et]
        have er : eFld "Spelling" "read" (eVar 1) E L2 = .ok (.d x) L2 := fld_ev (by rw [u_eVar, he]) h2.ins (sp_r _ _ _)
        refine fn_out (w := .d x) (L' := L2) rfl ?_ (settle_d _ _ _ _) (outV_fr h2.fr)
        show b_read_tree [some (.d (.str text)), none, none, none] L = _
        refine seq_nx s1 (seq_nx (for_nx src e1) ?_)
        rw [← hE]
        refine seq_nx (env1 := E) (L1 := L2) ?_ ?_
        · rw [u_sIf, to]
          simp
        · rw [u_sRet, er]
          rfl
end L2.HW
namespace L2.HW
open PySem PySem.Spec PyProof.Rows L2.HW.G PySem.NumText TL
def lvD (lv : List (Str × List PyData)) : List PyData := lv.map fun p => .tuple [.str p.1, .list p.2]
def tsD (s : TS) : PyData := .tuple [.list (lvD s.lv), .str (ofL s.wd), rdD s.rd]
theorem isN_rdD {s : TS} (ok : TOk s) : Va.isN (.d (rdD s.rd)) = s.rd.isNone := isN_rd ok.rt
section
variable {i : Nat} {w : List Nat} {env : En} {L : LH} (he : env[i]? = some (some (.d (.str (ofL w)))))
include he
theorem tw_0 : tVal (eOp opEq (eVar i) (eC (.str "0"))) env L = .ok (decide (w = [48])) L := by
  have k := str_ok (ofL w) "0"
  rw [u_tVal, u_eOp, u_eVar, he]
  simp only [Res.bind_ok, u_eC, u_opEq, data_d, if_pos k, str_dec]
  congr 1
  rw [ze_eq]
  exact decide_eq_decide.mpr ofL_inj
theorem tw_E : tVal (eOp opNe (eVar i) (eC (.str ""))) env L = .ok (decide (w ≠ [])) L := by
  have k := str_ok (ofL w) ""
  rw [u_tVal, u_eOp, u_eVar, he]
  simp only [Res.bind_ok, u_eC, u_opNe, data_d, if_pos k, str_dec]
  congr 1
  have : decide (ofL w = "") = decide (w = []) := by
    rw [em_eq]
    exact decide_eq_decide.mpr ofL_inj
  rw [this]
  by_cases z : w = [] <;> simp [z]
theorem tw_L (hw : w.length ≤ 1000) : tVal (eOp opEq (eCallB cLen (aCons (eVar i) aNil)) (eC (.int 30))) env L = .ok (decide (w.length = 30)) L := by
  have zs := sizeLine_eq
  have k : w.length ≤ sizeLine := by omega
  have k2 := cmpOk_int (w.length : Int) 30
  have e : decide ((w.length : Int) = 30) = decide (w.length = 30) := decide_eq_decide.mpr (by omega)
  rw [u_tVal, u_eOp, u_eCallB, u_aCons, u_eVar, he]
  simp only [Res.bind_ok, u_aNil, u_cLen, len_ofL, if_pos k, u_eC, u_opEq, data_d, if_pos k2, eqv_int, e]
theorem tw_F (neg : Bool) (hw : w ≠ []) (hl : w.length ≤ 1000) : tVal (eOp (opIn neg) (eOp opIx (eVar i) (eC (.int 0))) (eC (.str "0123456789"))) env L = .ok (if neg then !headD w else headD w) L := by
  have zs := sizeLine_eq
  have k : (ofL w).length ≤ sizeLine := by rw [len_ofL]; omega
  cases w with
  | nil => exact absurd rfl hw
  | cons c cs =>
    have a0 : atI (ofL (c :: cs)).cps.toList 0 = some c := by
      show atI (c :: cs) 0 = _
      simp [atI, ixN]
    have dg : Va.dget L (.d (.str (ofL (c :: cs)))) (.d (.int 0)) = none := rfl
    have sq : Va.seq L (.d (.str (ofL (c :: cs)))) = none := rfl
    have e1 : eOp opIx (eVar i) (eC (.int 0)) env L = .ok (.d (.str ⟨#[c]⟩)) L := by
      rw [u_eOp, u_eVar, he]
      simp only [Res.bind_ok, u_eC, u_opIx, dg, sq, if_pos k, a0]
    have dg2 : Va.dget L (.d (.str figS)) (.d (.str ⟨#[c]⟩)) = none := rfl
    have tl1 : (⟨#[c]⟩ : Str).cps.toList = [c] := rfl
    rw [u_tVal, u_eOp, e1]
    simp only [Res.bind_ok, u_eC, u_opIn, dg2, tl1]
    rfl
end
theorem ended_run {s : TS} (ok : TOk s) (L : LH) : F_l_ended [.d (tsD s)] L = .ok (.d (rdD (endT s))) L := by
  have zs := sizeLine_eq
  have wl := ok.wl
  refine fn_rt (L' := L) (x := rdD (endT s)) rfl ?_
  show b_l_ended [some (.d (tsD s)), none, none, none] L = _
  obtain ⟨E, hE⟩ : ∃ E : En, E = [some (.d (tsD s)), some (.d (.list (lvD s.lv))), some (.d (.str (ofL s.wd))), some (.d (rdD s.rd))] := ⟨_, rfl⟩
  have e2 : E[2]? = some (some (.d (.str (ofL s.wd)))) := by rw [hE]; rfl
  have e3 : E[3]? = some (some (.d (rdD s.rd))) := by rw [hE]; rfl
  have s1 : sAsg (eVar 0) (tTupT 3 (tgCons (tN 1) (tgCons (tN 2) (tgCons (tN 3) tgNil)))) [some (.d (tsD s)), none, none, none] L = .nx E L := by
    rw [hE]
    simp [tsD, Va.seq]
  have t1 : tVal (eOp opIsN (eVar 3) (eC .none)) E L = .ok s.rd.isNone L := by
    rw [u_tVal, u_eOp, u_eVar, e3]
    simp only [Res.bind_ok, u_eC, u_opIsN, isN_rdD ok]
  refine seq_nx s1 ?_
  by_cases b : (s.rd.isNone && headD s.wd) = true
  · have e : endT s = some (.int ((digitsVal s.wd : Nat) : Int)) := by unfold endT; rw [if_pos b]
    obtain ⟨b1, b2⟩ := Bool.and_eq_true_iff.mp b
    have wne : s.wd ≠ [] := fun z => by rw [z] at b2; cases b2
    have it : PySem.intText? (ofL s.wd) = some ((digitsVal s.wd : Nat) : Int) := intText_digits (x := ofL s.wd) (alldig (w := ofL s.wd) (ok.dg b2)) wne (by show s.wd.length ≤ _; omega)
    refine seq_rt ?_
    rw [u_sIf, u_tAndF, t1, b1]
    simp only [Res.bind_ok, if_true]
    rw [u_tAndF, tw_E e2]
    simp only [Res.bind_ok, decide_eq_true_eq, wne, ne_eq, not_false_eq_true, decide_true, if_true]
    rw [tw_F e2 false wne (by omega)]
    simp only [Bool.false_eq_true, if_false, b2, then_ok, if_true]
    have k6 : (ofL s.wd).length ≤ 640 := by rw [len_ofL]; omega
    rw [u_sRet, u_eCallB, u_aCons, u_eVar, e2]
    simp only [Res.bind_ok, u_aNil, u_cIntS, it, if_pos k6, then_ok, e]
    rfl
  · have e : endT s = s.rd := by unfold endT; rw [if_neg b]
    refine seq_nx (env1 := E) (L1 := L) ?_ ?_
    · rw [u_sIf, u_tAndF, t1]
      cases hr : s.rd.isNone with
      | false => simp
      | true =>
        simp only [Res.bind_ok, if_true]
        rw [u_tAndF, tw_E e2]
        by_cases z : s.wd = []
        · simp [z]
        · simp only [Res.bind_ok, decide_eq_true_eq, z, ne_eq, not_false_eq_true, decide_true, if_true]
          rw [tw_F e2 false z (by omega)]
          have : headD s.wd = false := by
            rw [hr, Bool.true_and] at b
            exact Bool.eq_false_iff.mpr b
          simp [this]
    · rw [u_sRet, u_eVar, e3, e]
      rfl
def optTS : Option TS → PyData
  | some s => tsD s
  | none => .none
theorem lvD_len (lv : List (Str × List PyData)) : (lvD lv).length = lv.length := List.length_map _
theorem sign_run {s : TS} (ok : TOk s) (hz : ∀ p ∈ s.lv, p.2.length ≤ 900000) (c : Nat) (L : LH) : F_l_sign [.d (tsD s), .d (.str ⟨#[c]⟩)] L = .ok (.d (optTS (stepT s c))) L := by
  have zs := sizeLine_eq
  have wl := ok.wl
  have ll := ok.ll
  have en := ended_run ok L
  refine fn_rt (L' := L) (x := optTS (stepT s c)) rfl ?_
  show b_l_sign [some (.d (tsD s)), some (.d (.str ⟨#[c]⟩)), none, none, none, none, none, none, none] L = _
  obtain ⟨E, hE⟩ : ∃ E : Option Va → Option Va → Option Va → Option Va → En, E = fun x5 x6 x7 x8 => [some (.d (tsD s)), some (.d (.str ⟨#[c]⟩)), some (.d (.list (lvD s.lv))), some (.d (.str (ofL s.wd))), some (.d (rdD s.rd)), x5, x6, x7, x8] := ⟨_, rfl⟩
  have e1 : ∀ x5 x6 x7 x8, (E x5 x6 x7 x8)[1]? = some (some (.d (.str ⟨#[c]⟩))) := fun _ _ _ _ => by rw [hE]; rfl
  have e2 : ∀ x5 x6 x7 x8, (E x5 x6 x7 x8)[2]? = some (some (.d (.list (lvD s.lv)))) := fun _ _ _ _ => by rw [hE]; rfl
  have e3 : ∀ x5 x6 x7 x8, (E x5 x6 x7 x8)[3]? = some (some (.d (.str (ofL s.wd)))) := fun _ _ _ _ => by rw [hE]; rfl
  have e4 : ∀ x5 x6 x7 x8, (E x5 x6 x7 x8)[4]? = some (some (.d (rdD s.rd))) := fun _ _ _ _ => by rw [hE]; rfl
  have s1 : sAsg (eVar 0) (tTupT 3 (tgCons (tN 2) (tgCons (tN 3) (tgCons (tN 4) tgNil)))) [some (.d (tsD s)), some (.d (.str ⟨#[c]⟩)), none, none, none, none, none, none, none] L = .nx (E none none none none) L := by
    rw [hE]
    simp [tsD, Va.seq]
  have t1 : ∀ x5 x6 x7 x8, tVal (eOp (opIn false) (eVar 1) (eC (.str "0123456789"))) (E x5 x6 x7 x8) L = .ok (digB c) L := fun _ _ _ _ => in_sign c figS (e1 _ _ _ _)
  have t2 : ∀ x5 x6 x7 x8, tVal (eOp opEq (eVar 1) (eC (.str "("))) (E x5 x6 x7 x8) L = .ok (decide (c = 40)) L := fun _ _ _ _ => str_c c 40 "(" (by decide +kernel) (e1 _ _ _ _)
  have t3 : ∀ x5 x6 x7 x8, tVal (eOp (opIn false) (eVar 1) (eC (.str ",)"))) (E x5 x6 x7 x8) L = .ok (decide (c = 44 ∨ c = 41)) L := fun _ _ _ _ => by
    rw [in_sign c ",)" (e1 _ _ _ _)]
    have : (",)" : Str).cps.toList = [44, 41] := by decide +kernel
    rw [this]
    congr 1
    exact decide_eq_decide.mpr (by simp)
  have tN4 : ∀ x5 x6 x7 x8, tVal (eOp opNotN (eVar 4) (eC .none)) (E x5 x6 x7 x8) L = .ok s.rd.isSome L := fun _ _ _ _ => by
    rw [u_tVal, u_eOp, u_eVar, e4]
    simp only [Res.bind_ok, u_eC, u_opNotN, isN_rdD ok]
    cases s.rd <;> rfl
  have tl40 : ∀ x5 x6 x7 x8, tVal (eOp opEq (eCallB cLen (aCons (eVar 2) aNil)) (eC (.int 40))) (E x5 x6 x7 x8) L = .ok (decide (s.lv.length = 40)) L := fun q5 q6 q7 q8 => by
    have k : s.lv.length ≤ sizeLine := by omega
    have k2 := cmpOk_int (s.lv.length : Int) 40
    have e : decide ((s.lv.length : Int) = 40) = decide (s.lv.length = 40) := decide_eq_decide.mpr (by omega)
    have lc : eCallB cLen (aCons (eVar 2) aNil) (E q5 q6 q7 q8) L = .ok (.d (.int (s.lv.length : Int))) L := by
      rw [u_eCallB, u_aCons, u_eVar, e2]
      simp only [Res.bind_ok, u_aNil, u_cLen, seq_list, List.length_map, lvD_len, if_pos k]
    rw [u_tVal, u_eOp, lc]
    simp only [Res.bind_ok, u_eC, u_opEq, data_d, if_pos k2, eqv_int, e]
  have retN : ∀ (E' : En), sRet (eC .none) E' L = .rt (.d .none) L := fun _ => by simp
  refine seq_nx s1 ?_
  by_cases hd : digB c = true
  · -- a figure
    have st : stepT s c = if s.rd.isSome || decide (s.wd = [48]) || decide (s.wd.length = 30) || (decide (s.wd ≠ []) && !headD s.wd) then none else some ⟨s.lv, s.wd ++ [c], none⟩ := by
      unfold stepT
      rw [if_pos hd]
    rw [st]
    refine seq_rt ?_
    rw [u_sIf, t1, hd]
    simp only [then_ok, if_true]
    have cnd : tOrF (tVal (eOp opNotN (eVar 4) (eC .none))) (tOrF (tVal (eOp opEq (eVar 3) (eC (.str "0")))) (tOrF (tVal (eOp opEq (eCallB cLen (aCons (eVar 3) aNil)) (eC (.int 30)))) (tAndF (tVal (eOp opNe (eVar 3) (eC (.str "")))) (tVal (eOp (opIn true) (eOp opIx (eVar 3) (eC (.int 0))) (eC (.str "0123456789"))))))) (E none none none none) L = .ok (s.rd.isSome || decide (s.wd = [48]) || decide (s.wd.length = 30) || (decide (s.wd ≠ []) && !headD s.wd)) L := by
      rw [u_tOrF, tN4]
      cases s.rd.isSome with
      | true => simp
      | false =>
        simp only [Res.bind_ok, Bool.false_eq_true, if_false, Bool.false_or]
        rw [u_tOrF, tw_0 (e3 _ _ _ _)]
        cases decide (s.wd = [48]) with
        | true => simp
        | false =>
          simp only [Res.bind_ok, Bool.false_eq_true, if_false, Bool.false_or]
          rw [u_tOrF, tw_L (e3 _ _ _ _) (by omega)]
          cases decide (s.wd.length = 30) with
          | true => simp
          | false =>
            simp only [Res.bind_ok, Bool.false_eq_true, if_false, Bool.false_or]
            rw [u_tAndF, tw_E (e3 _ _ _ _)]
            by_cases z : s.wd = []
            · simp [z]
            · have := tw_F (e3 none none none none) (L := L) true z (by omega)
              simp only [Res.bind_ok, z, ne_eq, not_false_eq_true, decide_true, if_true, this, Bool.true_and]
    cases b : (s.rd.isSome || decide (s.wd = [48]) || decide (s.wd.length = 30) || (decide (s.wd ≠ []) && !headD s.wd)) with
    | true =>
      rw [b] at cnd
      rw [if_pos rfl]
      refine seq_rt ?_
      rw [u_sIf, cnd]
      simp only [then_ok, if_true]
      exact retN _
    | false =>
      rw [b] at cnd
      rw [if_neg (by decide)]
      refine seq_nx (env1 := E none none none none) (L1 := L) (by rw [u_sIf, cnd]; simp) ?_
      have k : (ofL s.wd).length + (⟨#[c]⟩ : Str).length ≤ sizeLine := by
        have : (⟨#[c]⟩ : Str).length = 1 := rfl
        rw [len_ofL, this]
        omega
      have ad : eOp opAdd (eVar 3) (eVar 1) (E none none none none) L = .ok (.d (.str (ofL (s.wd ++ [c])))) L := by
        rw [u_eOp, u_eVar, e3]
        simp only [Res.bind_ok, u_eVar, e1, u_opAdd, if_pos k, ofL_app]
      rw [u_sRet, u_eTup, u_aCons, u_eVar, e2]
      simp only [Res.bind_ok, u_aCons, ad, u_eC, u_aNil]
      simp [zs, mkTup, datas, optTS, tsD, rdD]
  · have hd := Bool.eq_false_iff.mpr hd
    refine seq_nx (env1 := E none none none none) (L1 := L) (by rw [u_sIf, t1, hd]; simp) ?_
    by_cases h40 : c = 40
    · subst h40
      rw [step_open dig40]
      refine seq_rt ?_
      rw [u_sIf, t2]
      simp only [then_ok, decide_true, if_true]
      have nin : tVal (eOp (opIn true) (eVar 3) (eDat (fLst (aCons (eC (.str "behind")) (aCons (eC (.str "beside")) aNil))))) (E none none none none) L = .ok (!(decide (s.wd = bhL) || decide (s.wd = bsL))) L := by
        have tp : eDat (fLst (aCons (eC (.str "behind")) (aCons (eC (.str "beside")) aNil))) (E none none none none) L = .ok (.d (.list [.str "behind", .str "beside"])) L := by
          simp [zs, Ob.va]
        have dg : Va.dget L (.d (.list [.str "behind", .str "beside"])) (.d (.str (ofL s.wd))) = none := rfl
        have sh : (SeqAt.shaped (.str (ofL s.wd)) && SeqAt.shaped (.list [.str "behind", .str "beside"])) = true := by
          have ok1 : PyData.strOk (ofL s.wd) = true := strOk_ascii fun x hx => ok.wc x hx
          have a1 : SeqAt.shaped (.str (ofL s.wd)) = true := by
            unfold SeqAt.shaped
            rw [Bool.and_eq_true]
            exact ⟨ok1, decide_eq_true (Nat.zero_le _)⟩
          have a2 : SeqAt.shaped (.list [.str "behind", .str "beside"]) = true := by decide +kernel
          rw [a1, a2]
          rfl
        have q1 : PyData.eqv (.str "behind") (.str (ofL s.wd)) = decide (s.wd = bhL) := by
          rw [str_dec, bh_eq]
          exact decide_eq_decide.mpr (by rw [ofL_inj]; exact eq_comm)
        have q2 : PyData.eqv (.str "beside") (.str (ofL s.wd)) = decide (s.wd = bsL) := by
          rw [str_dec, bs_eq]
          exact decide_eq_decide.mpr (by rw [ofL_inj]; exact eq_comm)
        rw [u_tVal, u_eOp, u_eVar, e3]
        simp only [Res.bind_ok, tp, u_opIn, dg, data_d, sh, if_true, List.any_cons, List.any_nil, q1, q2, Bool.or_false]
      have cnd : tOrF (tVal (eOp (opIn true) (eVar 3) (eDat (fLst (aCons (eC (.str "behind")) (aCons (eC (.str "beside")) aNil)))))) (tVal (eOp opEq (eCallB cLen (aCons (eVar 2) aNil)) (eC (.int 40)))) (E none none none none) L = .ok (!(decide (s.wd = bhL) || decide (s.wd = bsL)) || decide (s.lv.length = 40)) L := by
        rw [u_tOrF, nin]
        cases (decide (s.wd = bhL) || decide (s.wd = bsL)) with
        | false => simp
        | true =>
          simp only [Res.bind_ok, Bool.not_true, Bool.false_eq_true, if_false, Bool.false_or]
          rw [tl40]
      cases b : (!(decide (s.wd = bhL) || decide (s.wd = bsL)) || decide (s.lv.length = 40)) with
      | true =>
        rw [b] at cnd
        rw [if_pos rfl]
        refine seq_rt ?_
        rw [u_sIf, cnd]
        simp only [then_ok, if_true]
        exact retN _
      | false =>
        rw [b] at cnd
        rw [if_neg (by decide)]
        refine seq_nx (env1 := E none none none none) (L1 := L) (by rw [u_sIf, cnd]; simp) ?_
        have one : eDat (fLst (aCons (eTup (aCons (eVar 3) (aCons (eDat (fLst aNil)) aNil))) aNil)) (E none none none none) L = .ok (.d (.list [.tuple [.str (ofL s.wd), .list []]])) L := by
          refine one_ev ?_
          rw [u_eTup, u_aCons, u_eVar, e3]
          simp [zs, mkTup, datas]
        have ca := cat_ev (f := eVar 2) (xs := lvD s.lv) (env := E none none none none) (L := L) (by rw [u_eVar, e2]) one (by rw [lvD_len]; simp; omega)
        have ee : lvD s.lv ++ [.tuple [.str (ofL s.wd), .list []]] = lvD (s.lv ++ [(ofL s.wd, [])]) := by unfold lvD; rw [List.map_append]; rfl
        rw [ee] at ca
        rw [u_sRet, u_eTup, u_aCons, ca]
        simp only [Res.bind_ok, u_aCons, u_eC, u_aNil]
        have e0 : ofL [] = "" := em_eq.symm
        simp [zs, mkTup, datas, optTS, tsD, rdD, e0]
    · refine seq_nx (env1 := E none none none none) (L1 := L) (by rw [u_sIf, t2]; simp [h40]) ?_
      by_cases hc : c = 44 ∨ c = 41
      · have st : stepT s c = match s.lv.getLast?, endT s with
          | some (nm, ts), some t => if c = 41 ∧ ts = [] then none
              else if c = 44 then some ⟨s.lv.dropLast ++ [(nm, ts ++ [t])], [], none⟩
              else some ⟨s.lv.dropLast, [], some (.tuple [.str nm, .tuple (ts ++ [t])])⟩
          | _, _ => none := by
          unfold stepT
          (rw [if_neg (by rw [hd]; decide), if_neg h40, if_pos hc]) <;> rfl
        rw [st]
        refine seq_rt ?_
        rw [u_sIf, t3]
        simp only [then_ok, hc, decide_true, if_true]
        obtain ⟨F, hF⟩ : ∃ F : Option Va → Option Va → En, F = fun x6 x7 => E (some (.d (rdD (endT s)))) x6 x7 none := ⟨_, rfl⟩
        have f1 : ∀ x6 x7, (F x6 x7)[1]? = some (some (.d (.str ⟨#[c]⟩))) := fun _ _ => by rw [hF, hE]; rfl
        have f2 : ∀ x6 x7, (F x6 x7)[2]? = some (some (.d (.list (lvD s.lv)))) := fun _ _ => by rw [hF, hE]; rfl
        have f5 : ∀ x6 x7, (F x6 x7)[5]? = some (some (.d (rdD (endT s)))) := fun _ _ => by rw [hF, hE]; rfl
        have s5 : sSet 5 (eCall F_l_ended (aCons (eVar 0) aNil)) (E none none none none) L = .nx (F none none) L := by
          rw [hF, hE]
          simp [en]
        refine seq_nx s5 ?_
        have isl : ∀ (xs : List PyData), Va.items L (.d (.list xs)) = some (xs.map Va.d) := fun xs => rfl
        have em0 : ∀ x6 x7, eDat (fLst aNil) (F x6 x7) L = .ok (.d (.list [])) L := fun _ _ => by simp
        have c1 : tVal (eOp (opEqE false) (eVar 2) (eDat (fLst aNil))) (F none none) L = .ok s.lv.isEmpty L := by
          rw [u_tVal, u_eOp, u_eVar, f2]
          simp only [Res.bind_ok, em0, u_opEqE, isl, List.map_nil]
          unfold lvD
          cases s.lv <;> rfl
        have c2 : tVal (eOp opIsN (eVar 5) (eC .none)) (F none none) L = .ok (endT s).isNone L := by
          rw [u_tVal, u_eOp, u_eVar, f5]
          simp only [Res.bind_ok, u_eC, u_opIsN, isN_rd (r := endT s) (fun x hx => endT_tree ok hx)]
        have c3 : tVal (eOp opEq (eVar 1) (eC (.str ")"))) (F none none) L = .ok (decide (c = 41)) L := str_c c 41 ")" (by decide +kernel) (f1 _ _)
        cases hl : s.lv.getLast? with
        | none =>
          have e0 : s.lv = [] := List.getLast?_eq_none_iff.mp hl
          rw [e0] at c1
          refine seq_rt ?_
          rw [u_sIf, u_tOrF, c1]
          simp only [Res.bind_ok, List.isEmpty_nil, if_true, then_ok]
          exact retN _
        | some p =>
          obtain ⟨nm, ts⟩ := p
          have elv := lv_last hl
          obtain ⟨lv0, hlv0⟩ : ∃ lv0, lv0 = s.lv.dropLast := ⟨_, rfl⟩
          rw [← hlv0] at elv
          have ene : s.lv.isEmpty = false := by rw [elv]; simp
          rw [ene] at c1
          cases ht : endT s with
          | none =>
            rw [ht] at c2
            refine seq_rt ?_
            rw [u_sIf, u_tOrF, c1]
            simp only [Res.bind_ok, Bool.false_eq_true, if_false]
            rw [u_tOrF, c2]
            simp only [Res.bind_ok, Option.isNone_none, if_true, then_ok]
            exact retN _
          | some t =>
            rw [ht] at c2
            have eD : lvD s.lv = lvD lv0 ++ [.tuple [.str nm, .list ts]] := by rw [elv]; unfold lvD; rw [List.map_append]; rfl
            have ix : ∀ x6 x7, eOp opIx (eVar 2) (eNeg (eC (.int 1))) (F x6 x7) L = .ok (.d (.tuple [.str nm, .list ts])) L := fun _ _ => by
              have al : atI ((lvD lv0 ++ [PyData.tuple [.str nm, .list ts]]).map Va.d) (-1) = some (.d (.tuple [.str nm, .list ts])) := by
                rw [List.map_append]
                exact atI_m1 _ _
              rw [u_eOp, u_eVar, f2, eD]
              simp only [Res.bind_ok, u_eNeg, u_eC, u_opIx, dget_d, seq_list, al]
            have ix1 : eOp opIx (eOp opIx (eVar 2) (eNeg (eC (.int 1)))) (eC (.int 1)) (F none none) L = .ok (.d (.list ts)) L := by
              have al : atI ([PyData.str nm, .list ts].map Va.d) 1 = some (.d (.list ts)) := rfl
              rw [u_eOp, ix]
              simp only [Res.bind_ok, u_eC, u_opIx, dget_d, seq_tuple, al]
            have c4 : tVal (eOp (opEqE false) (eOp opIx (eOp opIx (eVar 2) (eNeg (eC (.int 1)))) (eC (.int 1))) (eDat (fLst aNil))) (F none none) L = .ok ts.isEmpty L := by
              rw [u_tVal, u_eOp, ix1]
              simp only [Res.bind_ok, em0, u_opEqE, isl, List.map_nil]
              cases ts <;> rfl
            have cnd : tOrF (tVal (eOp (opEqE false) (eVar 2) (eDat (fLst aNil)))) (tOrF (tVal (eOp opIsN (eVar 5) (eC .none))) (tAndF (tVal (eOp opEq (eVar 1) (eC (.str ")")))) (tVal (eOp (opEqE false) (eOp opIx (eOp opIx (eVar 2) (eNeg (eC (.int 1)))) (eC (.int 1))) (eDat (fLst aNil)))))) (F none none) L = .ok (decide (c = 41 ∧ ts = [])) L := by
              rw [u_tOrF, c1]
              simp only [Res.bind_ok, Bool.false_eq_true, if_false]
              rw [u_tOrF, c2]
              simp only [Res.bind_ok, Option.isNone_some, Bool.false_eq_true, if_false]
              rw [u_tAndF, c3]
              by_cases c41 : c = 41
              · simp only [Res.bind_ok, c41, decide_true, if_true]
                rw [c4]
                cases ts <;> simp
              · simp [c41]
            show _ = Out.rt (.d (optTS (if c = 41 ∧ ts = [] then none else if c = 44 then some ⟨s.lv.dropLast ++ [(nm, ts ++ [t])], [], none⟩ else some ⟨s.lv.dropLast, [], some (.tuple [.str nm, .tuple (ts ++ [t])])⟩))) L
            by_cases cc : c = 41 ∧ ts = []
            · rw [if_pos cc]
              refine seq_rt ?_
              rw [u_sIf, cnd, decide_eq_true cc]
              simp only [then_ok, if_true]
              exact retN _
            · rw [if_neg cc]
              refine seq_nx (env1 := F none none) (L1 := L) (by rw [u_sIf, cnd, decide_eq_false cc]; simp) ?_
              have tz : ts.length ≤ 900000 := hz (nm, ts) (by rw [elv]; exact List.mem_append_right _ List.mem_cons_self)
              obtain ⟨G, hG⟩ : ∃ G : En, G = F (some (.d (.str nm))) (some (.d (.list ts))) := ⟨_, rfl⟩
              have g1 : G[1]? = some (some (.d (.str ⟨#[c]⟩))) := by rw [hG, hF, hE]; rfl
              have g2 : G[2]? = some (some (.d (.list (lvD s.lv)))) := by rw [hG, hF, hE]; rfl
              have g5 : G[5]? = some (some (.d t)) := by rw [hG, hF, hE, ht]; rfl
              have g6 : G[6]? = some (some (.d (.str nm))) := by rw [hG, hF, hE]; rfl
              have g7 : G[7]? = some (some (.d (.list ts))) := by rw [hG, hF, hE]; rfl
              have s6 : sAsg (eOp opIx (eVar 2) (eNeg (eC (.int 1)))) (tTupT 2 (tgCons (tN 6) (tgCons (tN 7) tgNil))) (F none none) L = .nx G L := by
                rw [u_sAsg, ix, hG, hF, hE]
                simp [Va.seq]
              refine seq_nx s6 ?_
              have c5 : tVal (eOp opEq (eVar 1) (eC (.str ","))) G L = .ok (decide (c = 44)) L := str_c c 44 "," (by decide +kernel) g1
              have sl : eSl (eVar 2) pNone (pSome (eNeg (eC (.int 1)))) G L = .ok (.d (.list (lvD lv0))) L := by
                have cu : cutA ((lvD s.lv).map Va.d) none (some (-1)) = (lvD lv0).map Va.d := by rw [cut_last, eD, List.map_append]; simp
                have dd : datas ((lvD lv0).map Va.d) = some (lvD lv0) := datas_map _
                have so : pSome (eNeg (eC (.int 1))) G L = .ok (some (-1)) L := by simp
                have sn : pNone G L = .ok none L := by simp
                have op : opSl (.d (.list (lvD s.lv))) none (some (-1)) L = .ok (.d (.list (lvD lv0))) L := by
                  show (match datas (cutA ((lvD s.lv).map Va.d) none (some (-1))) with
                    | some ys => Res.ok (Va.d (.list ys)) L
                    | none => .stuck) = _
                  rw [cu, dd]
                unfold eSl
                rw [u_eVar, g2]
                simp only [Res.bind_ok, so, sn, op]
              have on5 : eDat (fLst (aCons (eVar 5) aNil)) G L = .ok (.d (.list [t])) L := one_ev (by rw [u_eVar, g5])
              have tt : eOp opAdd (eVar 7) (eDat (fLst (aCons (eVar 5) aNil))) G L = .ok (.d (.list (ts ++ [t]))) L := by
                exact cat_ev (by rw [u_eVar, g7]) on5 (by simp; omega)
              by_cases c44 : c = 44
              · rw [if_pos c44]
                refine seq_rt ?_
                rw [u_sIf, c5, decide_eq_true c44]
                simp only [then_ok, if_true]
                have on : eDat (fLst (aCons (eTup (aCons (eVar 6) (aCons (eOp opAdd (eVar 7) (eDat (fLst (aCons (eVar 5) aNil)))) aNil))) aNil)) G L = .ok (.d (.list [.tuple [.str nm, .list (ts ++ [t])]])) L := by
                  refine one_ev ?_
                  rw [u_eTup, u_aCons, u_eVar, g6]
                  simp only [Res.bind_ok, u_aCons, tt, u_aNil]
                  simp [zs, mkTup, datas]
                have ca := cat_ev sl on (by rw [lvD_len]; have : lv0.length ≤ 40 := (by rw [hlv0, List.length_dropLast]; omega); simp; omega)
                have ee : lvD lv0 ++ [.tuple [.str nm, .list (ts ++ [t])]] = lvD (lv0 ++ [(nm, ts ++ [t])]) := by unfold lvD; rw [List.map_append]; rfl
                rw [ee] at ca
                rw [← hlv0, u_sRet, u_eTup, u_aCons, ca]
                simp only [Res.bind_ok, u_aCons, u_eC, u_aNil]
                have e0 : ofL [] = "" := em_eq.symm
                simp [zs, mkTup, datas, optTS, tsD, rdD, e0]
              · rw [if_neg c44]
                refine seq_nx (env1 := G) (L1 := L) (by rw [u_sIf, c5, decide_eq_false c44]; simp) ?_
                have ct : eCallB cTuple (aCons (eOp opAdd (eVar 7) (eDat (fLst (aCons (eVar 5) aNil)))) aNil) G L = .ok (.d (.tuple (ts ++ [t]))) L := by
                  rw [u_eCallB, u_aCons, tt]
                  simp only [Res.bind_ok, u_aNil, u_cTuple, isl]
                  simp [-List.map_append, mkTup, datas_map]
                have tp : eTup (aCons (eVar 6) (aCons (eCallB cTuple (aCons (eOp opAdd (eVar 7) (eDat (fLst (aCons (eVar 5) aNil)))) aNil)) aNil)) G L = .ok (.d (.tuple [.str nm, .tuple (ts ++ [t])])) L := by
                  rw [u_eTup, u_aCons, u_eVar, g6]
                  simp only [Res.bind_ok, u_aCons, ct, u_aNil]
                  simp [zs, mkTup, datas]
                rw [← hlv0, u_sRet, u_eTup, u_aCons, sl]
                simp only [Res.bind_ok, u_aCons, u_eC, tp, u_aNil]
                have e0 : ofL [] = "" := em_eq.symm
                simp [zs, mkTup, datas, optTS, tsD, rdD, e0]
      · refine seq_nx (env1 := E none none none none) (L1 := L) (by rw [u_sIf, t3]; simp [hc]) ?_
        have st : stepT s c = if s.rd.isSome || decide (s.lv.length = 40) || !(decide (s.wd ++ [c] = bhL.take (s.wd.length + 1)) || decide (s.wd ++ [c] = bsL.take (s.wd.length + 1))) then none else some ⟨s.lv, s.wd ++ [c], none⟩ := by
          unfold stepT
          rw [if_neg (by rw [hd]; decide), if_neg h40, if_neg hc]
        rw [st]
        obtain ⟨F, hF⟩ : ∃ F : En, F = E none none none (some (.d (.str (ofL (s.wd ++ [c]))))) := ⟨_, rfl⟩
        have f2 : F[2]? = some (some (.d (.list (lvD s.lv)))) := by rw [hF, hE]; rfl
        have f8 : F[8]? = some (some (.d (.str (ofL (s.wd ++ [c]))))) := by rw [hF, hE]; rfl
        have s8 : sSet 8 (eOp opAdd (eVar 3) (eVar 1)) (E none none none none) L = .nx F L := by
          have k : (ofL s.wd).length + (⟨#[c]⟩ : Str).length ≤ sizeLine := by
            have : (⟨#[c]⟩ : Str).length = 1 := rfl
            rw [len_ofL, this]
            omega
          rw [u_sSet, u_eOp, u_eVar, e3]
          simp only [Res.bind_ok, u_eVar, e1, u_opAdd, if_pos k, ofL_app, then_ok]
          rw [hF, hE]
          rfl
        refine seq_nx s8 ?_
        have sl : ∀ (z : Str) (zl : List Nat), tl z = zl → z.length ≤ 100 → eSl (eC (.str z)) pNone (pSome (eCallB cLen (aCons (eVar 8) aNil))) F L = .ok (.d (.str (ofL (zl.take (s.wd.length + 1))))) L := fun z zl hz' hl => by
          have k : s.wd.length + 1 ≤ sizeLine := by omega
          have lc : eCallB cLen (aCons (eVar 8) aNil) F L = .ok (.d (.int ((s.wd.length + 1 : Nat) : Int))) L := by
            rw [u_eCallB, u_aCons, u_eVar, f8]
            simp only [Res.bind_ok, u_aNil, u_cLen, len_ofL, List.length_append, List.length_singleton, if_pos k]
          have so : pSome (eCallB cLen (aCons (eVar 8) aNil)) F L = .ok (some ((s.wd.length + 1 : Nat) : Int)) L := by simp only [u_pSome, lc, Res.bind_ok]
          have sn : pNone F L = .ok none L := by simp
          have kk : z.length ≤ sizeLine := by omega
          have op : opSl (.d (.str z)) none (some ((s.wd.length + 1 : Nat) : Int)) L = .ok (.d (.str (cutS z none (some ((s.wd.length + 1 : Nat) : Int))))) L := by
            show (if z.length ≤ sizeLine then _ else _) = _
            rw [if_pos kk]
          unfold eSl
          rw [u_eC]
          simp only [Res.bind_ok, so, sn, op]
          have : tl (cutS z none (some ((s.wd.length + 1 : Nat) : Int))) = zl.take (s.wd.length + 1) := by rw [cutS_to, hz']
          rw [← this, ofL_tl]
        have nq : ∀ (z : Str) (zl : List Nat), tl z = zl → z.length ≤ 100 → tVal (eOp opNe (eVar 8) (eSl (eC (.str z)) pNone (pSome (eCallB cLen (aCons (eVar 8) aNil))))) F L = .ok (!decide (s.wd ++ [c] = zl.take (s.wd.length + 1))) L := fun z zl hz' hl => by
          have k := str_ok (ofL (s.wd ++ [c])) (ofL (zl.take (s.wd.length + 1)))
          have e : decide (ofL (s.wd ++ [c]) = ofL (zl.take (s.wd.length + 1))) = decide (s.wd ++ [c] = zl.take (s.wd.length + 1)) := decide_eq_decide.mpr ofL_inj
          rw [u_tVal, u_eOp, u_eVar, f8]
          simp only [Res.bind_ok, sl z zl hz' hl, u_opNe, data_d, if_pos k, str_dec, e]
        have n1 := nq "behind" bhL (by decide +kernel) (by decide +kernel)
        have n2 := nq "beside" bsL (by decide +kernel) (by decide +kernel)
        have cnd : tOrF (tVal (eOp opNotN (eVar 4) (eC .none))) (tOrF (tVal (eOp opEq (eCallB cLen (aCons (eVar 2) aNil)) (eC (.int 40)))) (tAndF (tVal (eOp opNe (eVar 8) (eSl (eC (.str "behind")) pNone (pSome (eCallB cLen (aCons (eVar 8) aNil)))))) (tVal (eOp opNe (eVar 8) (eSl (eC (.str "beside")) pNone (pSome (eCallB cLen (aCons (eVar 8) aNil)))))))) F L = .ok (s.rd.isSome || decide (s.lv.length = 40) || !(decide (s.wd ++ [c] = bhL.take (s.wd.length + 1)) || decide (s.wd ++ [c] = bsL.take (s.wd.length + 1)))) L := by
          have a4 := tN4 none none none (some (.d (.str (ofL (s.wd ++ [c])))))
          have a5 := tl40 none none none (some (.d (.str (ofL (s.wd ++ [c])))))
          rw [← hF] at a4 a5
          rw [u_tOrF, a4]
          cases s.rd.isSome with
          | true => simp
          | false =>
            simp only [Res.bind_ok, Bool.false_eq_true, if_false, Bool.false_or]
            rw [u_tOrF, a5]
            cases decide (s.lv.length = 40) with
            | true => simp
            | false =>
              simp only [Res.bind_ok, Bool.false_eq_true, if_false, Bool.false_or]
              rw [u_tAndF, n1]
              cases decide (s.wd ++ [c] = bhL.take (s.wd.length + 1)) with
              | true => simp
              | false =>
                simp only [Res.bind_ok, Bool.not_false, if_true, Bool.false_or]
                rw [n2]
        cases b : (s.rd.isSome || decide (s.lv.length = 40) || !(decide (s.wd ++ [c] = bhL.take (s.wd.length + 1)) || decide (s.wd ++ [c] = bsL.take (s.wd.length + 1)))) with
        | true =>
          rw [b] at cnd
          rw [if_pos rfl]
          refine seq_rt ?_
          rw [u_sIf, cnd]
          simp only [then_ok, if_true]
          exact retN _
        | false =>
          rw [b] at cnd
          rw [if_neg (by decide)]
          refine seq_nx (env1 := F) (L1 := L) (by rw [u_sIf, cnd]; simp) ?_
          rw [u_sRet, u_eTup, u_aCons, u_eVar, f2]
          simp only [Res.bind_ok, u_aCons, u_eVar, f8, u_eC, u_aNil]
          simp [zs, mkTup, datas, optTS, tsD, rdD]
end L2.HW
namespace L2.HW
open PySem PySem.Spec PyProof.Rows L2.HW.G PySem.NumText TL
def dOk : Nat → List (Str × List PyData) → Prop
  | _, [] => True
  | j, p :: r => (∀ t ∈ p.2, t.depth + 2 * j + 2 ≤ 80) ∧ dOk (j + 1) r
theorem dOk_app : ∀ {j : Nat} {l : List (Str × List PyData)} {p : Str × List PyData}, dOk j (l ++ [p]) ↔ dOk j l ∧ ∀ t ∈ p.2, t.depth + 2 * (j + l.length) + 2 ≤ 80
  | j, [], p => by simp [dOk]
  | j, q :: l, p => by
    have := dOk_app (j := j + 1) (l := l) (p := p)
    have e : j + 1 + l.length = j + (l.length + 1) := by omega
    simp only [List.cons_append, dOk, this, List.length_cons, e, and_assoc]
def lvW : List (Str × List PyData) → Nat
  | [] => 0
  | p :: r => 8 + PyData.bulkAll p.2 + lvW r
theorem lvW_app : ∀ (l : List (Str × List PyData)) (p : Str × List PyData), lvW (l ++ [p]) = lvW l + (8 + PyData.bulkAll p.2)
  | [], p => by simp [lvW]
  | q :: l, p => by simp only [List.cons_append, lvW, lvW_app l p]; omega
def rdW : Option PyData → Nat
  | some x => x.bulk
  | none => 0
structure TSz (s : TS) (k : Nat) : Prop where
  fn : ∀ p ∈ s.lv, PyData.strOk p.1 = true ∧ p.1.length = 6 ∧ ∀ t ∈ p.2, fine t = true
  fr : ∀ x, s.rd = some x → fine x = true
  dl : dOk 0 s.lv
  dr : ∀ x, s.rd = some x → x.depth + 2 * s.lv.length ≤ 80
  bk : lvW s.lv + rdW s.rd + s.wd.length ≤ 2 * k
theorem init0_sz : TSz init0 0 := ⟨fun p hp => (by cases hp), fun x hx => (by cases hx), trivial, fun x hx => (by cases hx), Nat.le_refl _⟩
theorem end_sz {s : TS} {k : Nat} (ok : TOk s) (z : TSz s k) {x : PyData} (h : endT s = some x) : fine x = true ∧ x.depth + 2 * s.lv.length ≤ 80 ∧ lvW s.lv + x.bulk ≤ 2 * k := by
  have bk := z.bk
  have ll := ok.ll
  unfold endT at h
  split at h
  · rename_i b
    cases h
    obtain ⟨b1, b2⟩ := Bool.and_eq_true_iff.mp b
    have hb : ((digitsVal s.wd : Nat) : Int) < 10 ^ 30 := by
      have h1 := digitsVal_lt s.wd (fun c hc => (digB_iff c).mp (List.all_eq_true.mp (ok.dg b2) c hc))
      have h2 : (10 : Nat) ^ s.wd.length ≤ 10 ^ 30 := Nat.pow_le_pow_right (by omega) ok.wl
      have e : ((10 : Int) ^ 30) = ((10 ^ 30 : Nat) : Int) := by decide +kernel
      rw [e]
      omega
    refine ⟨fine_num ⟨Int.natCast_nonneg _, hb⟩, by simp only [PyData.depth]; omega, by simp only [PyData.bulk]; omega⟩
  · refine ⟨z.fr x h, z.dr x h, ?_⟩
    rw [h] at bk
    simp only [rdW] at bk
    omega
theorem step_sz {s s' : TS} {k c : Nat} (ok : TOk s) (z : TSz s k) (e : stepT s c = some s') : TSz s' (k + 1) := by
  have bk := z.bk
  unfold stepT at e
  split at e
  · split at e
    · cases e
    · cases e
      refine ⟨z.fn, fun x hx => (by cases hx), z.dl, fun x hx => (by cases hx), ?_⟩
      simp only [rdW, List.length_append, List.length_singleton]
      omega
  · split at e
    · split at e
      · cases e
      · rename_i hc
        cases e
        simp only [Bool.or_eq_true, decide_eq_true_eq, not_or, Bool.not_eq_true', Bool.or_eq_false_iff, decide_eq_false_iff_not, not_and, Decidable.not_not] at hc
        have hw : s.wd = bhL ∨ s.wd = bsL := by
          by_cases q : s.wd = bhL
          · exact .inl q
          · exact .inr (hc.1 q)
        have l6 : s.wd.length = 6 := by rcases hw with h | h <;> rw [h] <;> rfl
        refine ⟨fun p hp => ?_, fun x hx => (by cases hx), dOk_app.mpr ⟨z.dl, fun t ht => (by cases ht)⟩, fun x hx => (by cases hx), ?_⟩
        · rcases List.mem_append.mp hp with hp | hp
          · exact z.fn p hp
          · rw [List.mem_singleton.mp hp]
            exact ⟨strOk_ascii fun x hx => ok.wc x hx, by rw [len_ofL]; exact l6, fun t ht => (by cases ht)⟩
        · rw [lvW_app]
          simp only [rdW, List.length_nil, PyData.bulkAll]
          omega
    · split at e
      · split at e
        · rename_i nm ts t e1 e2
          obtain ⟨e3, e4, e5⟩ := end_sz ok z e2
          have elv := lv_last e1
          obtain ⟨lv0, hlv0⟩ : ∃ lv0, lv0 = s.lv.dropLast := ⟨_, rfl⟩
          rw [← hlv0] at elv e
          have fn := z.fn
          have dl := z.dl
          rw [elv] at fn dl e4 e5
          obtain ⟨d1, d2⟩ := dOk_app.mp dl
          rw [lvW_app] at e5
          rw [List.length_append, List.length_singleton] at e4
          obtain ⟨n1, n2, n3⟩ := fn (nm, ts) (List.mem_append_right _ List.mem_cons_self)
          have n1 : PyData.strOk nm = true := n1
          have n2 : nm.length = 6 := n2
          have n3 : ∀ t ∈ ts, fine t = true := n3
          have d2 : ∀ t ∈ ts, t.depth + 2 * (0 + lv0.length) + 2 ≤ 80 := d2
          have e5 : lvW lv0 + (8 + PyData.bulkAll ts) + t.bulk ≤ 2 * k := e5
          have fa : ∀ x ∈ ts ++ [t], fine x = true := fun x hx => by
            rcases List.mem_append.mp hx with hx | hx
            · exact n3 x hx
            · rw [List.mem_singleton.mp hx]; exact e3
          have da : ∀ x ∈ ts ++ [t], x.depth + 2 * (0 + lv0.length) + 2 ≤ 80 := fun x hx => by
            rcases List.mem_append.mp hx with hx | hx
            · exact d2 x hx
            · rw [List.mem_singleton.mp hx]; omega
          have ba : PyData.bulkAll (ts ++ [t]) = PyData.bulkAll ts + (t.bulk + 1) := by rw [bulkAll_app]; simp [PyData.bulkAll]
          split at e
          · cases e
          · split at e
            · cases e
              refine ⟨fun p hp => ?_, fun x hx => (by cases hx), dOk_app.mpr ⟨d1, da⟩, fun x hx => (by cases hx), ?_⟩
              · rcases List.mem_append.mp hp with hp | hp
                · exact fn p (List.mem_append_left _ hp)
                · rw [List.mem_singleton.mp hp]
                  exact ⟨n1, n2, fa⟩
              · rw [lvW_app]
                simp only [rdW, List.length_nil]
                rw [ba]
                omega
            · cases e
              have fin : fine (.tuple [.str nm, .tuple (ts ++ [t])]) = true := by
                simp only [fine, fineAll, n1, Bool.true_and, Bool.and_true]
                exact fineAll_iff.mpr fa
              have dep : (PyData.tuple [.str nm, .tuple (ts ++ [t])]).depth + 2 * lv0.length ≤ 80 := by
                have := depthAll_le (n := 78 - 2 * lv0.length).mpr fun x hx => by have := da x hx; omega
                have l40 := ok.ll
                rw [elv, List.length_append, List.length_singleton] at l40
                simp only [PyData.depth, PyData.depthAll]
                omega
              refine ⟨fun p hp => fn p (List.mem_append_left _ hp), fun x hx => ?_, d1, fun x hx => ?_, ?_⟩
              · cases hx; exact fin
              · cases hx; exact dep
              · simp only [rdW, List.length_nil, PyData.bulk, PyData.bulkAll]
                have : nm.cps.size = 6 := n2
                rw [ba, this]
                omega
        · cases e
      · split at e
        · cases e
        · cases e
          refine ⟨z.fn, fun x hx => (by cases hx), z.dl, fun x hx => (by cases hx), ?_⟩
          simp only [rdW, List.length_append, List.length_singleton]
          omega
theorem run_sz : ∀ (cs : List Nat) (s : TS) (k j : Nat) {s' : TS}, TOk s → TSz s k → lvB s k → runT s j cs = .ok s' → TOk s' ∧ TSz s' (k + cs.length) ∧ lvB s' (k + cs.length)
  | [], s, k, j, s', ok, z, b, h => by
    cases h
    exact ⟨ok, z, b⟩
  | c :: cs, s, k, j, s', ok, z, b, h => by
    unfold runT at h
    split at h
    · cases h
    · rename_i s2 hs
      have := run_sz cs s2 (k + 1) (j + 1) (tstep_ok ok hs) (step_sz ok z hs) (lvB_step b hs) h
      rw [List.length_cons, show k + (cs.length + 1) = k + 1 + cs.length by omega]
      exact this
theorem tree_show {t : Str} {x : PyData} (h : treeT t = .ok x) (hl : t.length ≤ 4000) : okShow x ∧ treeD x = true ∧ fine x = true := by
  unfold treeT at h
  cases hr : runT init0 0 (tl t) with
  | error j => rw [hr] at h; cases h
  | ok s =>
    rw [hr] at h
    obtain ⟨ok, z, b⟩ := run_sz _ _ 0 0 init0_ok init0_sz (fun p hp => (by cases hp)) hr
    simp only at h
    split at h
    · rename_i x' h1 h2
      cases h
      obtain ⟨e1, e2, e3⟩ := end_sz ok z h2
      rw [← len_tl] at e3
      exact ⟨okShow_of e1 (by omega) (by omega), endT_tree ok h2, e1⟩
    · cases h
def due9 (t : Str) : PyData := match treeT t with
  | .error k => .tuple [.int (k : Int), .bool true]
  | .ok x => .tuple [x, .bool false]
theorem due9_loop {text : Str} (hl : text.length ≤ 900000) {x4 : Option Va} (L : LH) : ∀ (cs : List Nat) (k : Nat) (s : TS) (x2 x3 : Option Va), (tl text).drop k = cs → TOk s → lvB s k →
    match runT s k cs with
    | .ok s' => ∃ y2 y3, forL (tN 2) b_l_due_v9_1 ((List.range' k cs.length).map fun i : Nat => Va.d (.int (i : Int))) [some (.d (.str text)), some (.d (tsD s)), x2, x3, x4] L = .nx [some (.d (.str text)), some (.d (tsD s')), y2, y3, x4] L ∧ TOk s'
    | .error j => forL (tN 2) b_l_due_v9_1 ((List.range' k cs.length).map fun i : Nat => Va.d (.int (i : Int))) [some (.d (.str text)), some (.d (tsD s)), x2, x3, x4] L = .rt (.d (.tuple [.int (j : Int), .bool true])) L
  | [], k, s, x2, x3, hk, ok, hb => ⟨x2, x3, rfl, ok⟩
  | c :: cs, k, s, x2, x3, hk, ok, hb => by
    have zs := sizeLine_eq
    have hk1 : (tl text)[k]? = some c := by
      have := List.getElem?_drop (xs := tl text) (i := k) (j := 0)
      rw [hk] at this
      simpa using this.symm
    have hlt : k < (tl text).length := (List.getElem?_eq_some_iff.mp hk1).1
    have hk2 : (tl text).drop (k + 1) = cs := by
      rw [← List.drop_drop, hk]
      rfl
    have sg := sign_run ok (fun p hp => by have := hb p hp; rw [← len_tl] at hlt; omega) c L
    have a0 : atI text.cps.toList (k : Int) = some c := by
      have hlt : k < text.cps.toList.length := hlt
      unfold atI ixN
      rw [if_pos (by omega), if_pos (by omega)]
      exact hk1
    have ix : eOp opIx (eVar 0) (eVar 2) [some (.d (.str text)), some (.d (tsD s)), some (.d (.int (k : Int))), x3, x4] L = .ok (.d (.str ⟨#[c]⟩)) L := by
      have k' : text.length ≤ sizeLine := by omega
      have dg : Va.dget L (.d (.str text)) (.d (.int (k : Int))) = none := rfl
      have sq : Va.seq L (.d (.str text)) = none := rfl
      rw [u_eOp, u_eVar]
      simp only [List.getElem?_cons_zero, Res.bind_ok, u_eVar, List.getElem?_cons_succ, u_opIx, dg, sq, if_pos k', a0]
    have s3 : sSet 3 (eCall F_l_sign (aCons (eVar 1) (aCons (eOp opIx (eVar 0) (eVar 2)) aNil))) [some (.d (.str text)), some (.d (tsD s)), some (.d (.int (k : Int))), x3, x4] L = .nx [some (.d (.str text)), some (.d (tsD s)), some (.d (.int (k : Int))), some (.d (optTS (stepT s c))), x4] L := by
      rw [u_sSet, u_eCall, u_aCons, u_eVar]
      simp only [List.getElem?_cons_zero, List.getElem?_cons_succ, Res.bind_ok, u_aCons, ix, u_aNil, sg, then_ok]
      rfl
    have step : ∀ o, b_l_due_v9_1 [some (.d (.str text)), some (.d (tsD s)), some (.d (.int (k : Int))), x3, x4] L = o → forL (tN 2) b_l_due_v9_1 ((List.range' k (c :: cs).length).map fun i : Nat => Va.d (.int (i : Int))) [some (.d (.str text)), some (.d (tsD s)), x2, x3, x4] L = match o with
      | .nx env2 L2 => forL (tN 2) b_l_due_v9_1 ((List.range' (k + 1) cs.length).map fun i : Nat => Va.d (.int (i : Int))) env2 L2
      | .ct env2 L2 => forL (tN 2) b_l_due_v9_1 ((List.range' (k + 1) cs.length).map fun i : Nat => Va.d (.int (i : Int))) env2 L2
      | .bk env2 L2 => .nx env2 L2
      | o => o := fun o ho => by
      rw [List.length_cons, List.range'_succ, List.map_cons]
      conv => lhs; unfold forL
      (simp only [u_tN, List.set_cons_succ, List.set_cons_zero, ho]) <;> (cases o <;> rfl)
    unfold runT
    cases hs : stepT s c with
    | none =>
      rw [hs] at s3
      have bd : b_l_due_v9_1 [some (.d (.str text)), some (.d (tsD s)), some (.d (.int (k : Int))), x3, x4] L = .rt (.d (.tuple [.int (k : Int), .bool true])) L := by
        refine seq_nx s3 (seq_rt ?_)
        simp [optTS, Va.isN, zs, mkTup, datas]
      exact step _ bd
    | some s' =>
      rw [hs] at s3
      have bd : b_l_due_v9_1 [some (.d (.str text)), some (.d (tsD s)), some (.d (.int (k : Int))), x3, x4] L = .nx [some (.d (.str text)), some (.d (tsD s')), some (.d (.int (k : Int))), some (.d (tsD s')), x4] L := by
        refine seq_nx s3 ?_
        have nn : Va.isN (.d (tsD s')) = false := rfl
        refine seq_nx (env1 := [some (.d (.str text)), some (.d (tsD s)), some (.d (.int (k : Int))), some (.d (tsD s')), x4]) (L1 := L) (by simp [optTS, nn]) ?_
        simp
      have ih := due9_loop hl (x4 := x4) L cs (k + 1) s' (some (.d (.int (k : Int)))) (some (.d (tsD s'))) hk2 (tstep_ok ok hs) (lvB_step hb hs)
      have sp := step _ bd
      show match runT s' (k + 1) cs with
        | .ok s' => _
        | .error j => _
      cases hr : runT s' (k + 1) cs with
      | ok s2 =>
        rw [hr] at ih
        obtain ⟨y2, y3, i1, i2⟩ := ih
        exact ⟨y2, y3, sp.trans i1, i2⟩
      | error j =>
        rw [hr] at ih
        exact sp.trans ih
theorem due9_run (text : Str) (hl : text.length ≤ 900000) (L : LH) : F_l_due_v9 [.d (.str text)] L = .ok (.d (due9 text)) L := by
  have zs := sizeLine_eq
  refine fn_rt (L' := L) (x := due9 text) rfl ?_
  show b_l_due_v9 [some (.d (.str text)), none, none, none, none] L = _
  have s1 : sSet 1 (eTup (aCons (eDat (fLst aNil)) (aCons (eC (.str "")) (aCons (eC .none) aNil)))) [some (.d (.str text)), none, none, none, none] L = .nx [some (.d (.str text)), some (.d (tsD init0)), none, none, none] L := by
    have e0 : ofL [] = "" := em_eq.symm
    simp [zs, mkTup, datas, tsD, init0, lvD, rdD, e0]
  have lp := due9_loop hl (x4 := none) L (tl text) 0 init0 none none rfl init0_ok (fun p hp => by cases hp)
  have src : srcR1 (aCons (eCallB cLen (aCons (eVar 0) aNil)) aNil) [some (.d (.str text)), some (.d (tsD init0)), none, none, none] L = .ok ((List.range' 0 (tl text).length).map fun i : Nat => Va.d (.int (i : Int)), none) L := by
    have k : text.length ≤ sizeLine := by omega
    have := srcR1_nat (fs := aCons (eCallB cLen (aCons (eVar 0) aNil)) aNil) (n := text.length) (env := [some (.d (.str text)), some (.d (tsD init0)), none, none, none]) (L := L) (L1 := L) (by simp [k]) (by omega)
    rw [this, ← len_tl, ← List.range_eq_range']
    simp [rngV]
  cases hr : runT init0 0 (tl text) with
  | error j =>
    rw [hr] at lp
    have et : due9 text = .tuple [.int (j : Int), .bool true] := by unfold due9 treeT; rw [hr]
    rw [et]
    refine seq_nx s1 (seq_rt ?_)
    exact for_rt src lp
  | ok s =>
    rw [hr] at lp
    have et : treeT text = match s.lv, endT s with
      | [], some x => .ok x
      | _, _ => .error text.length := by unfold treeT; (rw [hr]) <;> rfl
    obtain ⟨y2, y3, e1, ok⟩ := lp
    have en := ended_run ok L
    obtain ⟨E, hE⟩ : ∃ E : En, E = [some (.d (.str text)), some (.d (tsD s)), y2, y3, some (.d (rdD (endT s)))] := ⟨_, rfl⟩
    have s4 : sSet 4 (eCall F_l_ended (aCons (eVar 1) aNil)) [some (.d (.str text)), some (.d (tsD s)), y2, y3, none] L = .nx E L := by
      rw [hE]
      simp [en]
    have c1 : tVal (eOp (opEqE true) (eOp opIx (eVar 1) (eC (.int 0))) (eDat (fLst aNil))) E L = .ok (!s.lv.isEmpty) L := by
      have ix : eOp opIx (eVar 1) (eC (.int 0)) E L = .ok (.d (.list (lvD s.lv))) L := by
        have al : atI ([PyData.list (lvD s.lv), .str (ofL s.wd), rdD s.rd].map Va.d) 0 = some (.d (.list (lvD s.lv))) := rfl
        have e1 : E[1]? = some (some (.d (tsD s))) := by rw [hE]; rfl
        rw [u_eOp, u_eVar, e1]
        simp only [Res.bind_ok, u_eC, u_opIx, dget_d, tsD, seq_tuple, al]
      have isl : ∀ (xs : List PyData), Va.items L (.d (.list xs)) = some (xs.map Va.d) := fun xs => rfl
      have em0 : eDat (fLst aNil) E L = .ok (.d (.list [])) L := by simp
      rw [u_tVal, u_eOp, ix]
      simp only [Res.bind_ok, em0, u_opEqE, isl, List.map_nil]
      unfold lvD
      cases s.lv <;> rfl
    have c2 : tVal (eOp opIsN (eVar 4) (eC .none)) E L = .ok (endT s).isNone L := by
      have e4 : E[4]? = some (some (.d (rdD (endT s)))) := by rw [hE]; rfl
      rw [u_tVal, u_eOp, u_eVar, e4]
      simp only [Res.bind_ok, u_eC, u_opIsN, isN_rd (r := endT s) (fun x hx => endT_tree ok hx)]
    have bad : tOrF (tVal (eOp (opEqE true) (eOp opIx (eVar 1) (eC (.int 0))) (eDat (fLst aNil)))) (tVal (eOp opIsN (eVar 4) (eC .none))) E L = .ok true L → b_l_due_v9 [some (.d (.str text)), none, none, none, none] L = .rt (.d (.tuple [.int (text.length : Int), .bool true])) L := fun hb => by
      refine seq_nx s1 (seq_nx (for_nx src e1) (seq_nx s4 (seq_rt ?_)))
      have k : text.length ≤ 16777216 := by omega
      rw [u_sIf, hb, hE]
      simp [k, zs, mkTup, datas]
    cases hlv : s.lv with
    | cons p q =>
      rw [hlv] at c1
      have e9 : due9 text = .tuple [.int (text.length : Int), .bool true] := by unfold due9; rw [et, hlv]
      rw [e9]
      exact bad (by rw [u_tOrF, c1]; simp)
    | nil =>
      rw [hlv] at c1
      have to : tOrF (tVal (eOp (opEqE true) (eOp opIx (eVar 1) (eC (.int 0))) (eDat (fLst aNil)))) (tVal (eOp opIsN (eVar 4) (eC .none))) E L = .ok (endT s).isNone L := by
        rw [u_tOrF, c1]
        simp only [Res.bind_ok, List.isEmpty_nil, Bool.not_true, Bool.false_eq_true, if_false]
        exact c2
      cases ht : endT s with
      | none =>
        rw [ht] at to
        have e9 : due9 text = .tuple [.int (text.length : Int), .bool true] := by unfold due9; rw [et, hlv, ht]
        rw [e9]
        exact bad to
      | some x =>
        rw [ht] at to
        have e9 : due9 text = .tuple [x, .bool false] := by unfold due9; rw [et, hlv, ht]
        rw [e9]
        refine seq_nx s1 (seq_nx (for_nx src e1) (seq_nx s4 (seq_nx (env1 := E) (L1 := L) ?_ ?_)))
        · rw [u_sIf, to]
          rfl
        · have e4 : E[4]? = some (some (.d x)) := by rw [hE, ht]; rfl
          rw [u_sRet, u_eTup, u_aCons, u_eVar, e4]
          simp [zs, mkTup, datas]
theorem both9_run (text : Str) (hl : text.length ≤ 4000) (L : LH) : F_l_both_v3 [.d (.str text)] L = .ok (.d (.bool true)) L := by
  have zs := sizeLine_eq
  have rr := read_tree_run text (by omega) L
  have du := due9_run text (by omega) L
  have wd := fun x => word_text x L
  have t1 : ("NoText" : Str) ∈ ten := by decide
  unfold due9 at du
  refine fn_rt (L' := L) (x := .bool true) rfl ?_
  show b_l_both_v3 [some (.d (.str text)), none, none, none, none, none] L = _
  cases hp : treeT text with
  | error j =>
    rw [hp] at rr du
    have hj : j ≤ text.length := by
      unfold treeT at hp
      have go : ∀ (cs : List Nat) (s : TS) (k j : Nat), runT s k cs = .error j → j ≤ k + cs.length := by
        intro cs
        induction cs with
        | nil => intro s k j h; cases h
        | cons c cs ih =>
          intro s k j h
          unfold runT at h
          split at h
          · cases h; omega
          · have := ih _ _ _ h
            rw [List.length_cons]
            omega
      cases hr : runT init0 0 (tl text) with
      | error i =>
        rw [hr] at hp
        cases hp
        have := go _ _ _ _ hr
        rw [← len_tl] at this
        omega
      | ok s =>
        rw [hr] at hp
        simp only at hp
        split at hp
        · cases hp
        · cases hp; omega
    have rr : F_read_tree [.d (.str text)] L = .exc "NoText" (some (.int (j : Int))) L := rr
    have du : F_l_due_v9 [.d (.str text)] L = .ok (.d (.tuple [.int (j : Int), .bool true])) L := du
    have sh := show_nat j (by omega)
    have wd := wd (.int (j : Int))
    generalize hS : (PyData.int (j : Int)).shown = S
    have sm := str_same S
    have so := str_ok S S
    have sm2 := str_same "text"
    have so2 := str_ok "text" "text"
    refine seq_nx (env1 := [some (.d (.str text)), some (.d (.int (j : Int))), some (.d (.bool true)), none, none, none]) (L1 := L) (by simp [du, Va.seq]) ?_
    refine seq_nx (env1 := [some (.d (.str text)), some (.d (.int (j : Int))), some (.d (.bool true)), some (.d .none), none, none]) (L1 := L) (by simp) ?_
    refine seq_nx (env1 := [some (.d (.str text)), some (.d (.int (j : Int))), some (.d (.bool true)), some (.d .none), some (.d .none), none]) (L1 := L) (by simp) ?_
    refine seq_nx (env1 := [some (.d (.str text)), some (.d (.int (j : Int))), some (.d (.bool true)), some (.d .none), some (.exc "NoText" (some (.int (j : Int)))), none]) (L1 := L) (by simp [rr, t1]) ?_
    refine seq_rt ?_
    simp [wd, sh, hS, sm, so, sm2, so2, Va.isN]
  | ok x =>
    rw [hp] at rr du
    obtain ⟨sh, -, -⟩ := tree_show hp hl
    have rr : F_read_tree [.d (.str text)] L = .ok (.d x) L := rr
    have du : F_l_due_v9 [.d (.str text)] L = .ok (.d (.tuple [x, .bool false])) L := du
    generalize hS : x.shown = S
    have sm := str_same S
    have so := str_ok S S
    refine seq_nx (env1 := [some (.d (.str text)), some (.d x), some (.d (.bool false)), none, none, none]) (L1 := L) (by simp [du, Va.seq]) ?_
    refine seq_nx (env1 := [some (.d (.str text)), some (.d x), some (.d (.bool false)), some (.d .none), none, none]) (L1 := L) (by simp) ?_
    refine seq_nx (env1 := [some (.d (.str text)), some (.d x), some (.d (.bool false)), some (.d .none), some (.d .none), none]) (L1 := L) (by simp) ?_
    refine seq_nx (env1 := [some (.d (.str text)), some (.d x), some (.d (.bool false)), some (.d x), some (.d .none), none]) (L1 := L) (by simp [rr]) ?_
    refine seq_nx (env1 := [some (.d (.str text)), some (.d x), some (.d (.bool false)), some (.d x), some (.d .none), none]) (L1 := L) (by simp [Va.isN]) ?_
    simp [sh, hS, sm, so]
end L2.HW
namespace L2.HW
open PySem PySem.Spec PyProof.Rows L2.HW.G PySem.NumText TL
mutual
def txL : Tr → List Nat
  | .rd i => digs i
  | .nd w ts => (if w then bhL else bsL) ++ 40 :: (txsL ts ++ [41])
def txsL : List Tr → List Nat
  | [] => []
  | [t] => txL t
  | t :: u :: ts => txL t ++ 44 :: txsL (u :: ts)
end
mutual
def depT : Tr → Nat
  | .rd _ => 0
  | .nd _ ts => 1 + depTs ts
def depTs : List Tr → Nat
  | [] => 0
  | t :: ts => max (depT t) (depTs ts)
end
mutual
/-- all numbers of at most 30 figures, nodes of two parts at least -/
def okTr : Tr → Prop
  | .rd i => i < 10 ^ 30
  | .nd _ ts => 2 ≤ ts.length ∧ okTrs ts
def okTrs : List Tr → Prop
  | [] => True
  | t :: ts => okTr t ∧ okTrs ts
end
def aft (lv : List (Str × List PyData)) : Tr → TS
  | .rd i => ⟨lv, digs i, none⟩
  | .nd w ts => ⟨lv, [], some (Tr.nd w ts).d⟩
theorem aft_lv (lv : List (Str × List PyData)) (t : Tr) : (aft lv t).lv = lv := by cases t <;> rfl
theorem digs_head (k : Nat) : headD (digs k) = true := by
  obtain ⟨a, b, c, d, e⟩ := digs_ok k
  cases h : digs k with
  | nil => exact absurd h b
  | cons x r =>
    rw [h] at a
    exact (digB_iff x).mpr (a x List.mem_cons_self)
theorem aft_end (lv : List (Str × List PyData)) (t : Tr) : endT (aft lv t) = some t.d := by
  cases t with
  | rd i =>
    have h := digs_head i
    have c := (digs_ok i).2.2.1
    unfold aft endT
    simp [h, c, Tr.d]
  | nd w ts => rfl
theorem runT_cons {s s' : TS} {k c : Nat} {cs : List Nat} (h : stepT s c = some s') : runT s k (c :: cs) = runT s' (k + 1) cs := by
  conv => lhs; unfold runT
  rw [h]
theorem digs_run (lv : List (Str × List PyData)) {i : Nat} (hi : i < 10 ^ 30) (k : Nat) (rest : List Nat) : runT ⟨lv, [], none⟩ k (digs i ++ rest) = runT ⟨lv, digs i, none⟩ (k + (digs i).length) rest := by
  obtain ⟨a, b, c, d, e⟩ := digs_ok i
  have hl := d 30 (by omega) hi
  have go : ∀ (q p : List Nat) (k : Nat), p ++ q = digs i → runT ⟨lv, p, none⟩ k (q ++ rest) = runT ⟨lv, digs i, none⟩ (k + q.length) rest := by
    intro q
    induction q with
    | nil => intro p k h; rw [List.append_nil] at h; rw [h]; rfl
    | cons x q ih =>
      intro p k h
      have hx : digB x = true := (digB_iff x).mpr (a x (by rw [← h]; exact List.mem_append_right _ List.mem_cons_self))
      have lp : p.length < 30 := by
        have := congrArg List.length h
        rw [List.length_append, List.length_cons] at this
        omega
      have n48 : p ≠ [48] := by
        intro z
        rw [z] at h
        by_cases i10 : i < 10
        · have := digs_lt i10
          rw [this] at h
          simp at h
        · obtain ⟨c', r, e1, e2⟩ := e (by omega)
          rw [e1] at h
          simp at h
          omega
      have hp : (decide (p ≠ []) && !headD p) = false := by
        cases p with
        | nil => rfl
        | cons y p =>
          have : digB y = true := (digB_iff y).mpr (a y (by rw [← h]; exact List.mem_append_left _ List.mem_cons_self))
          simp [headD, this]
      have st : stepT ⟨lv, p, none⟩ x = some ⟨lv, p ++ [x], none⟩ := by
        unfold stepT
        rw [if_pos hx]
        rw [if_neg]
        simp only [hp, Option.isSome_none, Bool.false_or, Bool.or_false, Bool.or_eq_true, decide_eq_true_eq, n48, false_or]
        omega
      rw [List.cons_append, runT_cons st, ih (p ++ [x]) (k + 1) (by rw [List.append_assoc]; exact h), List.length_cons]
      rw [show k + 1 + q.length = k + (q.length + 1) by omega]
  exact go (digs i) [] k rfl
theorem letter_step {lv : List (Str × List PyData)} {p : List Nat} {c : Nat} (h1 : digB c = false) (h2 : c ≠ 40) (h3 : ¬ (c = 44 ∨ c = 41)) (hl : lv.length ≠ 40) (h : p ++ [c] = bhL.take (p.length + 1) ∨ p ++ [c] = bsL.take (p.length + 1)) : stepT ⟨lv, p, none⟩ c = some ⟨lv, p ++ [c], none⟩ := by
  unfold stepT
  rw [if_neg (by rw [h1]; decide), if_neg h2, if_neg h3, if_neg]
  have : (decide (p ++ [c] = bhL.take (p.length + 1)) || decide (p ++ [c] = bsL.take (p.length + 1))) = true := by
    rcases h with h | h <;> simp [h]
  rw [this]
  simp [hl]
theorem name_run (w : Bool) (lv : List (Str × List PyData)) (hl : lv.length < 40) (k : Nat) (rest : List Nat) : runT ⟨lv, [], none⟩ k ((if w then bhL else bsL) ++ 40 :: rest) = runT ⟨lv ++ [((if w then "behind" else "beside" : Str), [])], [], none⟩ (k + 7) rest := by
  have l40 : lv.length ≠ 40 := by omega
  have dg : ∀ c ∈ bhL ++ bsL, digB c = false ∧ c ≠ 40 ∧ ¬ (c = 44 ∨ c = 41) := by
    have : ∀ c ∈ bhL ++ bsL, (!digB c && decide (c ≠ 40) && !decide (c = 44 ∨ c = 41)) = true := by decide +kernel
    intro c hc
    have := this c hc
    simp only [Bool.and_eq_true, Bool.not_eq_true', decide_eq_true_eq, decide_eq_false_iff_not] at this
    exact ⟨this.1.1, this.1.2, this.2⟩
  have op : ∀ nm : List Nat, (nm = bhL ∨ nm = bsL) → stepT ⟨lv, nm, none⟩ 40 = some ⟨lv ++ [(ofL nm, [])], [], none⟩ := fun nm h => by
    rw [step_open dig40, if_neg]
    have : (decide (nm = bhL) || decide (nm = bsL)) = true := by rcases h with h | h <;> simp [h]
    simp [this, l40]
  cases w with
  | true =>
    have s := fun (p : List Nat) (c : Nat) (hc : c ∈ bhL ++ bsL) (h : p ++ [c] = bhL.take (p.length + 1) ∨ p ++ [c] = bsL.take (p.length + 1)) => letter_step (lv := lv) (dg c hc).1 (dg c hc).2.1 (dg c hc).2.2 l40 h
    show runT ⟨lv, [], none⟩ k (98 :: 101 :: 104 :: 105 :: 110 :: 100 :: 40 :: rest) = _
    refine (runT_cons (s [] 98 (by decide) (.inl rfl))).trans ?_
    refine (runT_cons (s [98] 101 (by decide) (.inl rfl))).trans ?_
    refine (runT_cons (s [98, 101] 104 (by decide) (.inl rfl))).trans ?_
    refine (runT_cons (s [98, 101, 104] 105 (by decide) (.inl rfl))).trans ?_
    refine (runT_cons (s [98, 101, 104, 105] 110 (by decide) (.inl rfl))).trans ?_
    refine (runT_cons (s [98, 101, 104, 105, 110] 100 (by decide) (.inl rfl))).trans ?_
    refine (runT_cons (op bhL (.inl rfl))).trans ?_
    rw [← bh_eq]
    rfl
  | false =>
    have s := fun (p : List Nat) (c : Nat) (hc : c ∈ bhL ++ bsL) (h : p ++ [c] = bhL.take (p.length + 1) ∨ p ++ [c] = bsL.take (p.length + 1)) => letter_step (lv := lv) (dg c hc).1 (dg c hc).2.1 (dg c hc).2.2 l40 h
    show runT ⟨lv, [], none⟩ k (98 :: 101 :: 115 :: 105 :: 100 :: 101 :: 40 :: rest) = _
    refine (runT_cons (s [] 98 (by decide) (.inl rfl))).trans ?_
    refine (runT_cons (s [98] 101 (by decide) (.inl rfl))).trans ?_
    refine (runT_cons (s [98, 101] 115 (by decide) (.inr rfl))).trans ?_
    refine (runT_cons (s [98, 101, 115] 105 (by decide) (.inr rfl))).trans ?_
    refine (runT_cons (s [98, 101, 115, 105] 100 (by decide) (.inr rfl))).trans ?_
    refine (runT_cons (s [98, 101, 115, 105, 100] 101 (by decide) (.inr rfl))).trans ?_
    refine (runT_cons (op bsL (.inr rfl))).trans ?_
    rw [← bs_eq]
    rfl
theorem comma_step (lv : List (Str × List PyData)) (nm : Str) (acc : List PyData) (t : Tr) : stepT (aft (lv ++ [(nm, acc)]) t) 44 = some ⟨lv ++ [(nm, acc ++ [t.d])], [], none⟩ := by
  unfold stepT
  rw [if_neg (by rw [dig44]; decide), if_neg (by omega), if_pos (.inl rfl), aft_end, aft_lv]
  simp
theorem shut_step (lv : List (Str × List PyData)) (nm : Str) (acc : List PyData) (h : acc ≠ []) (t : Tr) : stepT (aft (lv ++ [(nm, acc)]) t) 41 = some ⟨lv, [], some (.tuple [.str nm, .tuple (acc ++ [t.d])])⟩ := by
  unfold stepT
  rw [if_neg (by rw [dig41]; decide), if_neg (by omega), if_pos (.inr rfl), aft_end, aft_lv]
  simp [h]
mutual
theorem tx_run : ∀ (t : Tr) (lv : List (Str × List PyData)) (k : Nat) (rest : List Nat), okTr t → lv.length + depT t ≤ 40 → runT ⟨lv, [], none⟩ k (txL t ++ rest) = runT (aft lv t) (k + (txL t).length) rest
  | .rd i, lv, k, rest, h, _ => by
    simp only [okTr] at h
    simp only [txL, aft]
    exact digs_run lv h k rest
  | .nd w ts, lv, k, rest, h, hd => by
    simp only [okTr] at h
    simp only [depT] at hd
    obtain ⟨h2, h3⟩ := h
    have ln : (if w then bhL else bsL).length = 6 := by cases w <;> rfl
    have e : txL (.nd w ts) ++ rest = (if w then bhL else bsL) ++ 40 :: (txsL ts ++ 41 :: rest) := by simp [txL]
    have le : (txL (.nd w ts)).length = 7 + (txsL ts).length + 1 := by
      simp only [txL, List.length_append, List.length_cons, List.length_nil, ln]
      omega
    rw [e, name_run w lv (by omega)]
    match ts, h2, h3, hd with
    | t :: u :: ts', h2, h3, hd =>
      have := txs_run (t :: u :: ts') lv (if w then "behind" else "beside") [] (k + 7) rest h3 (by omega) (.inr (by simp)) (by simp)
      rw [this, le]
      show runT ⟨lv, [], some (.tuple [.str (if w then "behind" else "beside"), .tuple ([] ++ Tr.ds (t :: u :: ts'))])⟩ _ rest = runT (aft lv (.nd w (t :: u :: ts'))) _ rest
      rw [show k + 7 + (txsL (t :: u :: ts')).length + 1 = k + (7 + (txsL (t :: u :: ts')).length + 1) by omega]
      rfl
theorem txs_run : ∀ (ts : List Tr) (lv : List (Str × List PyData)) (nm : Str) (acc : List PyData) (k : Nat) (rest : List Nat), okTrs ts → lv.length + 1 + depTs ts ≤ 40 → (acc ≠ [] ∨ 2 ≤ ts.length) → ts ≠ [] →
    runT ⟨lv ++ [(nm, acc)], [], none⟩ k (txsL ts ++ 41 :: rest) = runT ⟨lv, [], some (.tuple [.str nm, .tuple (acc ++ Tr.ds ts)])⟩ (k + (txsL ts).length + 1) rest
  | [], _, _, _, _, _, _, _, _, h => absurd rfl h
  | [t], lv, nm, acc, k, rest, ho, hd, ha, _ => by
    simp only [okTrs, depTs] at ho hd
    have hacc : acc ≠ [] := by
      rcases ha with ha | ha
      · exact ha
      · simp at ha
    have := tx_run t (lv ++ [(nm, acc)]) k (41 :: rest) ho.1 (by rw [List.length_append, List.length_singleton]; omega)
    simp only [txsL]
    rw [this, runT_cons (shut_step lv nm acc hacc t)]
    rfl
  | t :: u :: ts, lv, nm, acc, k, rest, ho, hd, ha, _ => by
    have h1 : okTr t ∧ okTrs (u :: ts) := by simpa only [okTrs] using ho
    have h2 : lv.length + 1 + max (depT t) (depTs (u :: ts)) ≤ 40 := by simpa only [depTs] using hd
    have r1 := tx_run t (lv ++ [(nm, acc)]) k (44 :: (txsL (u :: ts) ++ 41 :: rest)) h1.1 (by rw [List.length_append, List.length_singleton]; omega)
    have r2 := txs_run (u :: ts) lv nm (acc ++ [t.d]) (k + (txL t).length + 1) rest h1.2 (by omega) (.inl (by simp)) (by simp)
    have e : txsL (t :: u :: ts) ++ 41 :: rest = txL t ++ 44 :: (txsL (u :: ts) ++ 41 :: rest) := by simp [txsL]
    have le : (txsL (t :: u :: ts)).length = (txL t).length + 1 + (txsL (u :: ts)).length := by simp [txsL]; omega
    rw [e, r1, runT_cons (comma_step lv nm acc t), r2, le]
    have ed : acc ++ [t.d] ++ Tr.ds (u :: ts) = acc ++ Tr.ds (t :: u :: ts) := by simp [Tr.ds]
    rw [ed, show k + (txL t).length + 1 + (txsL (u :: ts)).length + 1 = k + ((txL t).length + 1 + (txsL (u :: ts)).length) + 1 by omega]
end
theorem treeT_tx {t : Tr} (h : okTr t) (hd : depT t ≤ 40) : treeT (ofL (txL t)) = .ok t.d := by
  have r := tx_run t [] 0 [] h (by simpa using hd)
  rw [List.append_nil] at r
  have r : runT init0 0 (tl (ofL (txL t))) = .ok (aft [] t) := r
  unfold treeT
  rw [r]
  show (match (aft [] t).lv, endT (aft [] t) with | [], some x => _ | _, _ => _) = _
  rw [aft_end, aft_lv]
end L2.HW
namespace L2.HW
open PySem PySem.Spec PyProof.Rows L2.HW.G PySem.NumText TL
abbrev txS (t : Tr) : Str := ofL (txL t)
theorem txs_join : ∀ ts : List Tr, txsL ts = joinL [44] (ts.map txL)
  | [] => by simp [txsL, joinL]
  | [t] => by simp [txsL, joinL]
  | t :: u :: ts => by
    have := txs_join (u :: ts)
    simp only [txsL, List.map_cons, joinL] at this ⊢
    rw [this]
    simp
theorem txs_sum : ∀ ts : List Tr, (ts.map fun t => (txL t).length).sum + ts.length ≤ (txsL ts).length + 1
  | [] => by simp [txsL]
  | [t] => by simp [txsL]
  | t :: u :: ts => by
    have := txs_sum (u :: ts)
    simp only [txsL, List.map_cons, List.sum_cons, List.length_cons, List.length_append] at this ⊢
    omega
theorem txs_mem : ∀ {ts : List Tr} {t : Tr}, t ∈ ts → (txL t).length ≤ (txsL ts).length
  | [], _, h => by cases h
  | [a], t, h => by rw [List.mem_singleton.mp h]; exact Nat.le_refl _
  | a :: b :: ts, t, h => by
    have e : (txsL (a :: b :: ts)).length = (txL a).length + 1 + (txsL (b :: ts)).length := by simp [txsL]; omega
    rcases List.mem_cons.mp h with rfl | h
    · omega
    · have := txs_mem h
      omega
theorem depTs_mem : ∀ {ts : List Tr} {t : Tr}, t ∈ ts → depT t ≤ depTs ts
  | a :: ts, t, h => by
    have e : depTs (a :: ts) = max (depT a) (depTs ts) := rfl
    rcases List.mem_cons.mp h with rfl | h
    · omega
    · have := depTs_mem h
      omega
theorem okTrs_iff : ∀ {ts : List Tr}, okTrs ts ↔ ∀ t ∈ ts, okTr t
  | [] => by simp [okTrs]
  | a :: ts => by simp [okTrs, okTrs_iff (ts := ts)]
theorem txL_nd (w : Bool) (ts : List Tr) : (txL (.nd w ts)).length = 8 + (txsL ts).length := by
  have ln : (if w then bhL else bsL).length = 6 := by cases w <;> rfl
  simp only [txL, List.length_append, List.length_cons, List.length_nil, ln]
  omega
theorem node_tx {self : Fn} {w : Bool} {ts : List Tr} {env1 : Option Va} (hl : (txL (.nd w ts)).length ≤ 100000) (ih : ∀ t ∈ ts, ∀ L, self [.d t.d] L = .ok (.d (.str (txS t))) L) (L : LH) :
    eOp opAdd (eOp opAdd (eOp opAdd (eOp opIx (eVar 0) (eC (.int 0))) (eC (.str "("))) (eJoin (eC (.str ",")) (eDat (fComp (srcV (eOp opIx (eVar 0) (eC (.int 1)))) (tN 1) tTrue (eCall self (aCons (eVar 1) aNil)) [1])))) (eC (.str ")")) [some (.d (Tr.nd w ts).d), env1] L = .ok (.d (.str (txS (.nd w ts)))) L := by
  have zs := sizeLine_eq
  have ln := txL_nd w ts
  have sm := txs_sum ts
  obtain ⟨E, hE⟩ : ∃ E : En, E = [some (.d (Tr.nd w ts).d), env1] := ⟨_, rfl⟩
  have he : E[0]? = some (some (.d (Tr.nd w ts).d)) := by rw [hE]; rfl
  have ed : (Tr.nd w ts).d = .tuple [.str (if w then "behind" else "beside"), .tuple (ts.map Tr.d)] := by
    rw [← ds_map]
    rfl
  have e0 : eOp opIx (eVar 0) (eC (.int 0)) E L = .ok (.d (.str (if w then "behind" else "beside"))) L := by
    have al : atI ([PyData.str (if w then "behind" else "beside"), .tuple (ts.map Tr.d)].map Va.d) 0 = some (.d (.str (if w then "behind" else "beside"))) := rfl
    rw [u_eOp, u_eVar, he, ed]
    simp only [Res.bind_ok, u_eC, u_opIx, dget_d, seq_tuple, al]
  have e1 : eOp opIx (eVar 0) (eC (.int 1)) E L = .ok (.d (.tuple (ts.map Tr.d))) L := by
    have al : atI ([PyData.str (if w then "behind" else "beside"), .tuple (ts.map Tr.d)].map Va.d) 1 = some (.d (.tuple (ts.map Tr.d))) := rfl
    rw [u_eOp, u_eVar, he, ed]
    simp only [Res.bind_ok, u_eC, u_opIx, dget_d, seq_tuple, al]
  have src : srcV (eOp opIx (eVar 0) (eC (.int 1))) E L = .ok (ts.map fun t => Va.d t.d, none) L := by
    have so : srcOf (.d (.tuple (ts.map Tr.d))) L = some (ts.map fun t => Va.d t.d, none) := by rw [← ds_va]; rfl
    rw [u_srcV, e1]
    simp only [Res.bind_ok, so]
  have c := fComp_tym (s := srcV (eOp opIx (eVar 0) (eC (.int 1)))) (g := tN 1) (f := eCall self (aCons (eVar 1) aNil)) (vs := [1]) (env := E) (L := L) (fun t : Tr => Va.d t.d) (fun t => Va.d (.str (txS t))) ts src (by omega) (fun t ht => ⟨(wipeE E [1]).set 1 (some (.d t.d)), by rw [u_tN], by
    have e : ((wipeE E [1]).set 1 (some (.d t.d)))[1]? = some (some (.d t.d)) := by rw [hE]; rfl
    have i := ih t ht L
    rw [u_eCall, u_aCons, u_eVar, e]
    simp only [Res.bind_ok, u_aNil, i]⟩)
  have cd : eDat (fComp (srcV (eOp opIx (eVar 0) (eC (.int 1)))) (tN 1) tTrue (eCall self (aCons (eVar 1) aNil)) [1]) E L = .ok (.d (.list ((ts.map txS).map PyData.str))) L := by
    have e : ts.map (fun t => Va.d (.str (txS t))) = ((ts.map txS).map PyData.str).map Va.d := by rw [List.map_map, List.map_map]; rfl
    rw [u_eDat, c, e]
    simp only [Res.bind_ok, va_lst]
  have jo : joinOk "," (ts.map txS) = true := by
    have e : ((ts.map txS).map (·.length)).sum = (ts.map fun t => (txL t).length).sum := by
      rw [List.map_map]
      exact congrArg List.sum (List.map_congr_left fun t _ => len_ofL (txL t))
    have e1 : ("," : Str).length = 1 := by decide +kernel
    unfold joinOk
    rw [decide_eq_true_eq, e, e1, List.length_map]
    omega
  have j := join_ev (m := ",") (ys := ts.map txS) cd jo
  have tj : tl (Txt.join "," (ts.map txS)) = txsL ts := by
    rw [tl_join', txs_join, List.map_map]
    have e : tl ("," : Str) = [44] := by decide +kernel
    rw [e]
    rfl
  have lj : (Txt.join "," (ts.map txS)).length = (txsL ts).length := by rw [len_tl, tj]
  have ln6 : (if w then "behind" else "beside" : Str).length = 6 := by cases w <;> decide +kernel
  have l1 : ("(" : Str).length = 1 := by decide +kernel
  have l2 : (")" : Str).length = 1 := by decide +kernel
  rw [← hE]
  have a1 := add_str_ev (f := eOp opIx (eVar 0) (eC (.int 0))) (g := eC (.str "(")) e0 (by rw [u_eC]) (by omega)
  have a2 := add_str_ev a1 j (by rw [len_app]; omega)
  have a3 := add_str_ev (g := eC (.str ")")) a2 (by rw [u_eC]) (by rw [len_app, len_app]; omega)
  rw [a3]
  congr 3
  rw [← ofL_tl (_ ++ _)]
  congr 1
  rw [tl_append, tl_append, tl_append, tj]
  have t1 : tl ("(" : Str) = [40] := by decide +kernel
  have t2 : tl (")" : Str) = [41] := by decide +kernel
  have t3 : tl (if w then "behind" else "beside" : Str) = if w then bhL else bsL := by cases w <;> decide +kernel
  rw [t1, t2, t3]
  simp [txL]
theorem leaf_tx {i : Nat} (h : i < 10 ^ 30) (L : LH) : cStr [.d (.int (i : Int))] L = .ok (.d (.str (ofL (digs i)))) L := by
  have e : ((10 : Int) ^ 30) = ((10 ^ 30 : Nat) : Int) := by decide +kernel
  have := str_run (n := (i : Int)) ⟨Int.natCast_nonneg _, by rw [e]; omega⟩ L
  rw [this, ← numS_tl, ofL_tl]
theorem form_text_run : ∀ (k : Nat) (t : Tr) (L : LH), okTr t → depT t < k → (txL t).length ≤ 100000 → F_form_text k [.d t.d] L = .ok (.d (.str (txS t))) L
  | 0, t, L, _, h, _ => by omega
  | k + 1, .rd i, L, ho, _, _ => by
    have ho : i < 10 ^ 30 := by simpa only [okTr] using ho
    have lf := leaf_tx ho L
    refine fn_rt (L' := L) (x := .str (txS (.rd i))) rfl ?_
    show b_form_text (F_form_text k) [some (.d (Tr.rd i).d), none] L = _
    have ed : (Tr.rd i).d = .int (i : Int) := rd_d i
    rw [ed]
    refine seq_rt ?_
    have is : tVal (eIsi "int" (eVar 0)) [some (.d (.int (i : Int))), none] L = .ok true L := by simp [Va.kind, isKind]
    rw [u_sIf, is]
    simp only [then_ok, if_true]
    rw [u_sRet, u_eCallB, u_aCons, u_eVar]
    simp only [List.getElem?_cons_zero, Res.bind_ok, u_aNil, lf, then_ok]
    rfl
  | k + 1, .nd w ts, L, ho, hd, hl => by
    have ho : 2 ≤ ts.length ∧ okTrs ts := by simpa only [okTr] using ho
    have hd : 1 + depTs ts < k + 1 := hd
    have ln := txL_nd w ts
    have nd := node_tx (self := F_form_text k) (w := w) (ts := ts) (env1 := none) hl (fun t ht M => form_text_run k t M (okTrs_iff.mp ho.2 t ht) (by have := depTs_mem ht; omega) (by have := txs_mem ht; omega)) L
    refine fn_rt (L' := L) (x := .str (txS (.nd w ts))) rfl ?_
    show b_form_text (F_form_text k) [some (.d (Tr.nd w ts).d), none] L = _
    refine seq_nx (env1 := [some (.d (Tr.nd w ts).d), none]) (L1 := L) ?_ ?_
    · have is : tVal (eIsi "int" (eVar 0)) [some (.d (Tr.nd w ts).d), none] L = .ok false L := by simp [Va.kind, isKind, Tr.d]
      rw [u_sIf, is]
      simp
    · rw [u_sRet, nd]
      rfl
theorem l_text_v3_run : ∀ (k : Nat) (t : Tr) (L : LH), okTr t → depT t < k → (txL t).length ≤ 100000 → F_l_text_v3 k [.d t.d] L = .ok (.d (.str (txS t))) L
  | 0, t, L, _, h, _ => by omega
  | k + 1, .rd i, L, ho, _, _ => by
    have ho : i < 10 ^ 30 := by simpa only [okTr] using ho
    have lf := leaf_tx ho L
    refine fn_rt (L' := L) (x := .str (txS (.rd i))) rfl ?_
    show b_l_text_v3 (F_l_text_v3 k) [some (.d (Tr.rd i).d), none] L = _
    have ed : (Tr.rd i).d = .int (i : Int) := rd_d i
    rw [ed]
    refine seq_rt ?_
    have is : tNotF (tVal (eIsi "tuple" (eVar 0))) [some (.d (.int (i : Int))), none] L = .ok true L := by simp [Va.kind, isKind]
    rw [u_sIf, is]
    simp only [then_ok, if_true]
    rw [u_sRet, u_eCallB, u_aCons, u_eVar]
    simp only [List.getElem?_cons_zero, Res.bind_ok, u_aNil, lf, then_ok]
    rfl
  | k + 1, .nd w ts, L, ho, hd, hl => by
    have ho : 2 ≤ ts.length ∧ okTrs ts := by simpa only [okTr] using ho
    have hd : 1 + depTs ts < k + 1 := hd
    have ln := txL_nd w ts
    have nd := node_tx (self := F_l_text_v3 k) (w := w) (ts := ts) (env1 := none) hl (fun t ht M => l_text_v3_run k t M (okTrs_iff.mp ho.2 t ht) (by have := depTs_mem ht; omega) (by have := txs_mem ht; omega)) L
    refine fn_rt (L' := L) (x := .str (txS (.nd w ts))) rfl ?_
    show b_l_text_v3 (F_l_text_v3 k) [some (.d (Tr.nd w ts).d), none] L = _
    refine seq_nx (env1 := [some (.d (Tr.nd w ts).d), none]) (L1 := L) ?_ ?_
    · have is : tNotF (tVal (eIsi "tuple" (eVar 0))) [some (.d (Tr.nd w ts).d), none] L = .ok false L := by simp [Va.kind, isKind, Tr.d]
      rw [u_sIf, is]
      simp
    · rw [u_sRet, nd]
      rfl
theorem tree_text_run {t : Tr} (ho : okTr t) (hd : depT t < 70) (hl : (txL t).length ≤ 100000) (lk : ∀ L, F_look_at_form [.d t.d] L = .ok (.d .none) L) (L : LH) : F_tree_text [.d t.d] L = .ok (.d (.str (txS t))) L := by
  have ft := form_text_run 70 t L ho hd hl
  have lk := lk L
  refine fn_rt (L' := L) (x := .str (txS t)) rfl ?_
  show b_tree_text [some (.d t.d)] L = _
  generalize t.d = D at *
  refine seq_nx (env1 := [some (.d D)]) (L1 := L) (by simp [lk]) ?_
  simp [ft]
end L2.HW
namespace L2.HW
open PySem PySem.Spec PyProof.Rows L2.HW.G PySem.NumText TL
theorem mul_ev {env : En} {M : LH} {k : Nat} {m : Str} (h : (2 : Int) ≤ (k : Int) ∧ (k : Int) ≤ 1000 ∧ 0 < m.length ∧ m.length ≤ 1000) : eOp opMulS (eC (.str m)) (eC (.int (k : Int))) env M = .ok (.d (.str (strRep k m))) M := by
  rw [u_eOp, u_eC]
  simp only [Res.bind_ok, u_eC, u_opMulS]
  rw [if_pos h]
  rfl
theorem cat3_ev {f : EF} {env : En} {M : LH} {a b c : Str} (h : f env M = .ok (.d (.str b)) M) (h1 : a.length + b.length + c.length ≤ 1000000) : eOp opAdd (eOp opAdd (eC (.str a)) f) (eC (.str c)) env M = .ok (.d (.str (a ++ b ++ c))) M := by
  have q := add_str_ev (f := eC (.str a)) (g := f) (env := env) (L := M) (M := M) (by rw [u_eC]) h (by omega)
  exact add_str_ev q (by rw [u_eC]) (by rw [len_app]; omega)
theorem two_ev {f g : EF} {env : En} {M : LH} {a b : PyData} (h1 : f env M = .ok (.d a) M) (h2 : g env M = .ok (.d b) M) : fLst (aCons f (aCons g aNil)) env M = .ok (.lst [.d a, .d b]) M := by
  have zs := sizeLine_eq
  have k : 0 + 1 + 1 ≤ sizeLine := by omega
  rw [u_fLst, u_aCons, h1]
  simp only [Res.bind_ok, u_aCons, h2, u_aNil, List.length_cons, List.length_nil, if_pos k]
theorem catS_ev {f g : EF} {env : En} {M M' : LH} {n : Nat} {xs ys : List Str} (h1 : f env M = .ok (.loc n) M) (hn : M[n]? = some (lstS xs)) (h2 : g env M = .ok (.d (.list (ys.map PyData.str))) M) (hz : xs.length + ys.length ≤ 1000) : fCat f g env M = .ok (.lst (((xs ++ ys).map PyData.str).map Va.d)) M := by
  have zs := sizeLine_eq
  have hn' : M[n]? = some (some (.lst ((xs.map PyData.str).map Va.d))) := hn
  have i1 : Va.items M (.loc n) = some ((xs.map PyData.str).map Va.d) := by
    unfold Va.items
    simp only [hn']
  have i2 : Va.items M (.d (.list (ys.map PyData.str))) = some ((ys.map PyData.str).map Va.d) := rfl
  have k : ((xs.map PyData.str).map Va.d).length + ((ys.map PyData.str).map Va.d).length ≤ sizeLine := by simp only [List.length_map]; omega
  rw [u_fCat, h1]
  simp only [Res.bind_ok, h2, i1, i2, if_pos k]
  rw [List.map_append, List.map_append]
end L2.HW
namespace L2.HW
open PySem PySem.Spec PyProof.Rows L2.HW.G PySem.NumText TL
def szB : Nat → Nat
  | 0 => 30
  | d + 1 => 8 + 3 * (szB d + 1)
theorem szB_ge : ∀ d, 30 ≤ szB d
  | 0 => Nat.le_refl _
  | d + 1 => by have := szB_ge d; show 30 ≤ 8 + 3 * (szB d + 1); omega
def Dr (d : Nat) (t : Tr) : Prop := wf2 t ∧ (allR t).length ≤ 3 ^ d ∧ okTr t ∧ depT t ≤ d ∧ (txL t).length ≤ szB d
theorem leaf57 {L : LH} {n : Nat} {p : Int} (hn : n < L.length) : ∃ (i : Nat) (p' : Int), i < 10 ^ 30 ∧ ∀ env : En, env[0]? = some (some (.loc n)) → eOp opIx (eDat (fLst (aCons (eC (.int 0)) (aCons (eC (.int 1)) (aCons (eC (.int 2)) (aCons (eC (.int 10)) (aCons (eC (.int 345)) (aCons (eOp opPow (eC (.int 10)) (eC (.int 29))) aNil)))))))) (eCall F_l_take (aCons (eVar 0) (aCons (eC (.int 6)) aNil))) env (L.set n (P1 p)) = .ok (.d (Tr.rd i).d) (L.set n (P1 p')) := by
  have zs := sizeLine_eq
  have q : powC 10 29 = true := by decide
  obtain ⟨u, p1, u0, u1, e⟩ := take_ex (L := L) (n := n) (p := p) (s := 6) hn (by omega)
  have l6 : ∀ env M, eDat (fLst (aCons (eC (.int 0)) (aCons (eC (.int 1)) (aCons (eC (.int 2)) (aCons (eC (.int 10)) (aCons (eC (.int 345)) (aCons (eOp opPow (eC (.int 10)) (eC (.int 29))) aNil))))))) env M = .ok (.d (.list [.int 0, .int 1, .int 2, .int 10, .int 345, .int (10 ^ 29)])) M := fun env M => by
    simp [zs, q, Ob.va]
  have tk : ∀ env : En, env[0]? = some (some (.loc n)) → eCall F_l_take (aCons (eVar 0) (aCons (eC (.int 6)) aNil)) env (L.set n (P1 p)) = .ok (.d (.int u)) (L.set n (P1 p1)) := fun env he => by
    rw [u_eCall, u_aCons, u_eVar, he]
    simp [e]
  have go : ∀ (i : Nat), atI ([PyData.int 0, .int 1, .int 2, .int 10, .int 345, .int (10 ^ 29)].map Va.d) u = some (.d (.int (i : Int))) → i < 10 ^ 30 → ∃ (i : Nat) (p' : Int), i < 10 ^ 30 ∧ ∀ env : En, env[0]? = some (some (.loc n)) → eOp opIx (eDat (fLst (aCons (eC (.int 0)) (aCons (eC (.int 1)) (aCons (eC (.int 2)) (aCons (eC (.int 10)) (aCons (eC (.int 345)) (aCons (eOp opPow (eC (.int 10)) (eC (.int 29))) aNil)))))))) (eCall F_l_take (aCons (eVar 0) (aCons (eC (.int 6)) aNil))) env (L.set n (P1 p)) = .ok (.d (Tr.rd i).d) (L.set n (P1 p')) := fun i ha hi => ⟨i, p1, hi, fun env he => by
    rw [u_eOp, l6, rd_d]
    simp only [Res.bind_ok, tk env he, u_opIx, dget_d, seq_list, ha]⟩
  have hu : u = 0 ∨ u = 1 ∨ u = 2 ∨ u = 3 ∨ u = 4 ∨ u = 5 := by omega
  rcases hu with rfl | rfl | rfl | rfl | rfl | rfl
  · exact go 0 rfl (by decide)
  · exact go 1 rfl (by decide)
  · exact go 2 rfl (by decide)
  · exact go 10 rfl (by decide)
  · exact go 345 rfl (by decide)
  · exact go (10 ^ 29) (by
      have e : ((10 ^ 29 : Nat) : Int) = 10 ^ 29 := by decide +kernel
      rw [e]
      rfl) (by decide +kernel)
theorem drawn57_ex {L : LH} {n : Nat} (hn : n < L.length) : ∀ (k deep : Nat), deep < k → deep ≤ 3 → ∀ p : Int, ∃ (t : Tr) (p' : Int), F_l_drawn_v3 k [.loc n, .d (.int (deep : Int))] (L.set n (P1 p)) = .ok (.d t.d) (L.set n (P1 p')) ∧ Dr deep t
  | 0, deep, h, _, p => by omega
  | k + 1, deep, h, h3, p => by
    have zs := sizeLine_eq
    have one : ∀ i : Nat, i < 10 ^ 30 → Dr deep (.rd i) := fun i hi => by
      refine ⟨by unfold wf2; trivial, ?_, by simpa only [okTr] using hi, Nat.zero_le _, ?_⟩
      · rw [allR_rd]
        exact Nat.one_le_pow _ _ (by omega)
      · have := (digs_ok i).2.2.2.1 30 (by omega) hi
        have h2 := szB_ge deep
        show (digs i).length ≤ szB deep
        omega
    by_cases d0 : deep = 0
    · obtain ⟨i, p1, hi, e⟩ := leaf57 (p := p) hn
      refine ⟨.rd i, p1, ?_, one i hi⟩
      refine fn_out (w := .d (Tr.rd i).d) (L' := L.set n (P1 p1)) rfl ?_ (settle_d _ _ _ _) (outV_set0 _ hn)
      show b_l_drawn_v3 (F_l_drawn_v3 k) [some (.loc n), some (.d (.int (deep : Int))), none, none] (L.set n (P1 p)) = _
      unfold b_l_drawn_v3
      refine seq_rt ?_
      have c0 : tOrF (tVal (eOp opEq (eVar 1) (eC (.int 0)))) (tVal (eOp opEq (eCall F_l_take (aCons (eVar 0) (aCons (eC (.int 3)) aNil))) (eC (.int 0)))) [some (.loc n), some (.d (.int (deep : Int))), none, none] (L.set n (P1 p)) = .ok true (L.set n (P1 p)) := by
        rw [d0]
        simp [eqv_int]
      rw [u_sIf, c0]
      simp only [then_ok, if_true]
      rw [u_sRet, e _ rfl]
      rfl
    · obtain ⟨u, p1, u0, u1, e1⟩ := take_ex (L := L) (n := n) (p := p) (s := 3) hn (by omega)
      have dz : ¬ ((deep : Int) = 0) := by omega
      by_cases hu : u = 0
      · obtain ⟨i, p2, hi, e⟩ := leaf57 (p := p1) hn
        refine ⟨.rd i, p2, ?_, one i hi⟩
        refine fn_out (w := .d (Tr.rd i).d) (L' := L.set n (P1 p2)) rfl ?_ (settle_d _ _ _ _) (outV_set0 _ hn)
        show b_l_drawn_v3 (F_l_drawn_v3 k) [some (.loc n), some (.d (.int (deep : Int))), none, none] (L.set n (P1 p)) = _
        unfold b_l_drawn_v3
        refine seq_rt ?_
        rw [hu] at e1
        have c0 : tOrF (tVal (eOp opEq (eVar 1) (eC (.int 0)))) (tVal (eOp opEq (eCall F_l_take (aCons (eVar 0) (aCons (eC (.int 3)) aNil))) (eC (.int 0)))) [some (.loc n), some (.d (.int (deep : Int))), none, none] (L.set n (P1 p)) = .ok true (L.set n (P1 p1)) := by
          simp [e1, eqv_int, dz, d0]
        rw [u_sIf, c0]
        simp only [then_ok, if_true]
        rw [u_sRet, e _ rfl]
        rfl
      · obtain ⟨c, p2, c0, c1, e2⟩ := take_ex (L := L) (n := n) (p := p1) (s := 2) hn (by omega)
        obtain ⟨d, rfl⟩ : ∃ d, deep = d + 1 := ⟨deep - 1, by omega⟩
        have ed : ((d + 1 : Nat) : Int) - 1 = (d : Int) := by omega
        obtain ⟨us, p3, ec, pr⟩ := fComp_rel (s := srcR1 (aCons (eOp opAdd (eC (.int 2)) (eCall F_l_take (aCons (eVar 0) (aCons (eC (.int 2)) aNil)))) aNil)) (g := tN 3) (f := eCall (F_l_drawn_v3 k) (aCons (eVar 0) (aCons (eOp opSub (eVar 1) (eC (.int 1))) aNil))) (vs := [3]) (env := [some (.loc n), some (.d (.int ((d + 1 : Nat) : Int))), none, none]) (L := L) (n := n) (p := p2) (q := p1) (fun i : Nat => Va.d (.int (0 + (i : Nat)))) (fun _ t => Dr d t) (List.range (2 + c).toNat) (by
            have := srcR1_int (fs := aCons (eOp opAdd (eC (.int 2)) (eCall F_l_take (aCons (eVar 0) (aCons (eC (.int 2)) aNil)))) aNil) (i := 2 + c) (env := [some (.loc n), some (.d (.int ((d + 1 : Nat) : Int))), none, none]) (L := L.set n (P1 p1)) (L1 := L.set n (P1 p2)) (by simp [e2]) (by omega)
            rw [this]
            rfl) (by rw [List.length_range]; omega) fun i hi p => by
            obtain ⟨t, p', e, ht⟩ := drawn57_ex hn k d (by omega) (by omega) p
            refine ⟨[some (.loc n), some (.d (.int ((d + 1 : Nat) : Int))), none, some (.d (.int (0 + (i : Nat))))], t, p', rfl, ?_, ht⟩
            have ed2 : ((d : Int) + 1) - 1 = (d : Int) := by omega
            simp [e, ed2]
        obtain ⟨b, p4, b0, b1, e4⟩ := take_ex (L := L) (n := n) (p := p3) (s := 2) hn (by omega)
        have hlen : us.length = (2 + c).toNat := by rw [← paired_len pr, List.length_range]
        have all : ∀ t ∈ us, Dr d t := fun t ht => by
          obtain ⟨_, _, h⟩ := paired_mem pr t ht
          exact h
        have sum : ∀ l : List Tr, (∀ t ∈ l, (allR t).length ≤ 3 ^ d) → (l.flatMap allR).length ≤ l.length * 3 ^ d := by
          intro l
          induction l with
          | nil => intro _; simp
          | cons a l ih =>
            intro h
            have := ih fun t ht => h t (List.mem_cons_of_mem _ ht)
            have := h a List.mem_cons_self
            rw [List.flatMap_cons, List.length_append, List.length_cons, Nat.succ_mul]
            omega
        refine ⟨.nd (decide (b = 0)) us, p4, ?_, ?_, ?_, ?_, ?_, ?_⟩
        · refine fn_out (w := .d (Tr.nd (decide (b = 0)) us).d) (L' := L.set n (P1 p4)) rfl ?_ (settle_d _ _ _ _) (outV_set0 _ hn)
          show b_l_drawn_v3 (F_l_drawn_v3 k) [some (.loc n), some (.d (.int ((d + 1 : Nat) : Int))), none, none] (L.set n (P1 p)) = _
          unfold b_l_drawn_v3
          refine seq_nx (env1 := [some (.loc n), some (.d (.int ((d + 1 : Nat) : Int))), none, none]) (L1 := L.set n (P1 p1)) (by
            have dz : ¬ ((d : Int) + 1 = 0) := by omega
            simp [e1, eqv_int, hu, dz]) ?_
          refine seq_nx (env1 := [some (.loc n), some (.d (.int ((d + 1 : Nat) : Int))), some (.d (.list (us.map Tr.d))), none]) (L1 := L.set n (P1 p3)) (by
            rw [u_sSet, ec]
            simp only [then_ok, List.set_cons_succ, List.set_cons_zero]) ?_
          rw [nd_d]
          have lw : us.length ≤ sizeLine := by omega
          have k2 : 0 + 1 + 1 ≤ sizeLine := by omega
          have ct := tup_lst (us.map Tr.d) (L.set n (P1 p4))
          have wd : eOp opIx (eDat (fLst (aCons (eC (.str "behind")) (aCons (eC (.str "beside")) aNil)))) (eCall F_l_take (aCons (eVar 0) (aCons (eC (.int 2)) aNil))) [some (.loc n), some (.d (.int ((d + 1 : Nat) : Int))), some (.d (.list (us.map Tr.d))), none] (L.set n (P1 p3)) = .ok (.d (.str (wS (decide (b = 0))))) (L.set n (P1 p4)) := by
            have : b = 0 ∨ b = 1 := by omega
            generalize us.map Tr.d = E at *
            rcases this with rfl | rfl
            · simp [e4, zs, Ob.va, atI, ixN, wS]
            · simp [e4, zs, Ob.va, atI, ixN, wS]
          have ev2 : ∀ K, eVar 2 [some (.loc n), some (.d (.int ((d + 1 : Nat) : Int))), some (.d (.list (us.map Tr.d))), none] K = .ok (.d (.list (us.map Tr.d))) K := fun K => rfl
          simp only [u_sRet, u_eTup, u_aCons, u_aNil, wd, u_eCallB, ev2, ct, Res.bind_ok, List.length_cons, List.length_nil, if_pos k2, then_ok]
          rfl
        · rw [wf2_nd]
          exact ⟨by omega, fun t ht => (all t ht).1⟩
        · rw [allR_nd]
          have := sum us fun t ht => (all t ht).2.1
          have h5 : us.length * 3 ^ d ≤ 3 * 3 ^ d := Nat.mul_le_mul_right _ (by omega)
          rw [Nat.pow_succ]
          omega
        · show 2 ≤ us.length ∧ okTrs us
          exact ⟨by omega, okTrs_iff.mpr fun t ht => (all t ht).2.2.1⟩
        · have dm : ∀ l : List Tr, (∀ t ∈ l, depT t ≤ d) → depTs l ≤ d := by
            intro l
            induction l with
            | nil => intro _; exact Nat.zero_le _
            | cons a l ih =>
              intro h
              have := ih fun t ht => h t (List.mem_cons_of_mem _ ht)
              have := h a List.mem_cons_self
              show max (depT a) (depTs l) ≤ d
              omega
          have := dm us fun t ht => (all t ht).2.2.2.1
          show 1 + depTs us ≤ d + 1
          omega
        · have ls : ∀ l : List Tr, (∀ t ∈ l, (txL t).length ≤ szB d) → (txsL l).length ≤ l.length * (szB d + 1) := by
            intro l
            induction l with
            | nil => intro _; exact Nat.zero_le _
            | cons a l ih =>
              intro h
              have h1 := h a List.mem_cons_self
              have h2 := ih fun t ht => h t (List.mem_cons_of_mem _ ht)
              cases l with
              | nil => simp only [txsL, List.length_cons, List.length_nil]; omega
              | cons b l =>
                have e : (txsL (a :: b :: l)).length = (txL a).length + 1 + (txsL (b :: l)).length := by simp [txsL]; omega
                rw [e, List.length_cons, Nat.succ_mul]
                omega
          have h1 := ls us fun t ht => (all t ht).2.2.2.2
          have h5 : us.length * (szB d + 1) ≤ 3 * (szB d + 1) := Nat.mul_le_mul_right _ (by omega)
          rw [txL_nd]
          show 8 + (txsL us).length ≤ 8 + 3 * (szB d + 1)
          omega
def wrd6 : List Str := ["behind", "beside", "behind(", "beside(0,1)", "(", ")", ",", "0", "12", "00", strRep 30 "9", strRep 31 "9", ""]
def sgn6 : Str := "019(),,()behindsx A\n"
theorem wrd6_len : ∀ w ∈ wrd6, w.length ≤ 31 := by decide +kernel
theorem sgn6_len : sgn6.length = 20 := by decide +kernel
theorem cut_lenT (t : Str) (k : Nat) : (cutS t none (some (k : Int))).length ≤ k ∧ (cutS t none (some (k : Int))).length ≤ t.length := by
  rw [len_tl, cutS_to, List.length_take, ← len_tl]
  omega
theorem cut_lenF (t : Str) (k : Nat) : (cutS t (some (k : Int)) none).length = t.length - k := by rw [len_tl, cutS_from, List.length_drop, ← len_tl]
theorem bent6_ex {L : LH} {n : Nat} {p : Int} {t : Str} {B : Nat} (hn : n < L.length) (ht : t.length ≤ B) (hB : B ≤ 50000) : ∃ (t' : Str) (p' : Int), F_l_bent_v6 [.loc n, .d (.str t)] (L.set n (P1 p)) = .ok (.d (.str t')) (L.set n (P1 p')) ∧ t'.length ≤ B + 31 := by
  have zs := sizeLine_eq
  obtain ⟨a, p1, a0, a1, e1⟩ := take_ex (L := L) (n := n) (p := p) (s := ((t.length : Int) + 1)) hn (by omega) (log_small (by omega) (by omega))
  obtain ⟨d, p2, d0, d1, e2⟩ := take_ex (L := L) (n := n) (p := p1) (s := 20) hn (by omega)
  obtain ⟨w, p3, w0, w1, e3⟩ := take_ex (L := L) (n := n) (p := p2) (s := 5) hn (by omega)
  obtain ⟨ka, rfl⟩ := Int.eq_ofNat_of_zero_le a0
  obtain ⟨kd, rfl⟩ := Int.eq_ofNat_of_zero_le d0
  have hd : kd < (tl sgn6).length := by rw [← len_tl, sgn6_len]; omega
  obtain ⟨c, hc⟩ : ∃ c, (tl sgn6)[kd]? = some c := ⟨_, List.getElem?_eq_getElem hd⟩
  have hz : t.length ≤ 1000000 := by omega
  have tz : t.length ≤ sizeLine := by omega
  have sz : sgn6.length ≤ sizeLine := by rw [sgn6_len]; omega
  obtain ⟨W, hW⟩ : ∃ W : List PyData, W = wrd6.map PyData.str := ⟨_, rfl⟩
  obtain ⟨E, hE⟩ : ∃ E : Option Va → Option Va → Option Va → Option Va → Option Va → En, E = fun x2 x3 x4 x5 x6 => [some (.loc n), some (.d (.str t)), x2, x3, x4, x5, x6] := ⟨_, rfl⟩
  have s2 : sSet 2 (eC (.str "019(),,()behindsx A\n")) (E none none none none none) (L.set n (P1 p)) = .nx (E (some (.d (.str sgn6))) none none none none) (L.set n (P1 p)) := by rw [hE]; rfl
  have s3 : sSet 3 (eDat (fLst (aCons (eC (.str "behind")) (aCons (eC (.str "beside")) (aCons (eC (.str "behind(")) (aCons (eC (.str "beside(0,1)")) (aCons (eC (.str "(")) (aCons (eC (.str ")")) (aCons (eC (.str ",")) (aCons (eC (.str "0")) (aCons (eC (.str "12")) (aCons (eC (.str "00")) (aCons (eOp opMulS (eC (.str "9")) (eC (.int 30))) (aCons (eOp opMulS (eC (.str "9")) (eC (.int 31))) (aCons (eC (.str "")) aNil))))))))))))))) (E (some (.d (.str sgn6))) none none none none) (L.set n (P1 p)) = .nx (E (some (.d (.str sgn6))) (some (.d (.list W))) none none none) (L.set n (P1 p)) := by
    have m1 := mul_ev (env := E (some (.d (.str sgn6))) none none none none) (M := L.set n (P1 p)) (k := 30) (m := "9") (by decide +kernel)
    have m2 := mul_ev (env := E (some (.d (.str sgn6))) none none none none) (M := L.set n (P1 p)) (k := 31) (m := "9") (by decide +kernel)
    have m1 : eOp opMulS (eC (.str "9")) (eC (.int 30)) (E (some (.d (.str sgn6))) none none none none) (L.set n (P1 p)) = .ok (.d (.str (strRep 30 "9"))) (L.set n (P1 p)) := m1
    have m2 : eOp opMulS (eC (.str "9")) (eC (.int 31)) (E (some (.d (.str sgn6))) none none none none) (L.set n (P1 p)) = .ok (.d (.str (strRep 31 "9"))) (L.set n (P1 p)) := m2
    have k : 0 + 1 + 1 + 1 + 1 + 1 + 1 + 1 + 1 + 1 + 1 + 1 + 1 + 1 ≤ sizeLine := by omega
    rw [u_sSet, u_eDat, u_fLst]
    simp only [u_aCons, u_eC, Res.bind_ok, m1, m2, u_aNil, List.length_cons, List.length_nil, if_pos k, then_ok]
    rw [hE, hW]
    rfl
  have s4 : sSet 4 (eCall F_l_take (aCons (eVar 0) (aCons (eOp opAdd (eCallB cLen (aCons (eVar 1) aNil)) (eC (.int 1))) aNil))) (E (some (.d (.str sgn6))) (some (.d (.list W))) none none none) (L.set n (P1 p)) = .nx (E (some (.d (.str sgn6))) (some (.d (.list W))) (some (.d (.int (ka : Int)))) none none) (L.set n (P1 p1)) := by
    rw [hE]
    simp [tz, e1]
  have s5 : sSet 5 (eOp opIx (eVar 2) (eCall F_l_take (aCons (eVar 0) (aCons (eCallB cLen (aCons (eVar 2) aNil)) aNil)))) (E (some (.d (.str sgn6))) (some (.d (.list W))) (some (.d (.int (ka : Int)))) none none) (L.set n (P1 p1)) = .nx (E (some (.d (.str sgn6))) (some (.d (.list W))) (some (.d (.int (ka : Int)))) (some (.d (.str ⟨#[c]⟩))) none) (L.set n (P1 p2)) := by
    rw [hE]
    have dg : Va.dget (L.set n (P1 p2)) (.d (.str sgn6)) (.d (.int (kd : Int))) = none := rfl
    have sq : Va.seq (L.set n (P1 p2)) (.d (.str sgn6)) = none := rfl
    have a0 : atI sgn6.cps.toList (kd : Int) = some c := by
      have : kd < sgn6.cps.toList.length := hd
      unfold atI ixN
      rw [if_pos (by omega), if_pos (by omega)]
      simpa using hc
    have e2' : F_l_take [.loc n, .d (.int (sgn6.length : Int))] (L.set n (P1 p1)) = .ok (.d (.int (kd : Int))) (L.set n (P1 p2)) := by rw [sgn6_len]; exact e2
    have tk : eCall F_l_take (aCons (eVar 0) (aCons (eCallB cLen (aCons (eVar 2) aNil)) aNil)) [some (.loc n), some (.d (.str t)), some (.d (.str sgn6)), some (.d (.list W)), some (.d (.int (ka : Int))), none, none] (L.set n (P1 p1)) = .ok (.d (.int (kd : Int))) (L.set n (P1 p2)) := by
      simp [sz, e2']
    rw [u_sSet, u_eOp, u_eVar]
    simp only [List.getElem?_cons_succ, List.getElem?_cons_zero, Res.bind_ok, tk, u_opIx, dg, sq, if_pos sz, a0, then_ok]
    rfl
  have s6 : sSet 6 (eCall F_l_take (aCons (eVar 0) (aCons (eC (.int 5)) aNil))) (E (some (.d (.str sgn6))) (some (.d (.list W))) (some (.d (.int (ka : Int)))) (some (.d (.str ⟨#[c]⟩))) none) (L.set n (P1 p2)) = .nx (E (some (.d (.str sgn6))) (some (.d (.list W))) (some (.d (.int (ka : Int)))) (some (.d (.str ⟨#[c]⟩))) (some (.d (.int w)))) (L.set n (P1 p3)) := by
    rw [hE]
    simp [e3]
  obtain ⟨G, hG⟩ : ∃ G : En, G = E (some (.d (.str sgn6))) (some (.d (.list W))) (some (.d (.int (ka : Int)))) (some (.d (.str ⟨#[c]⟩))) (some (.d (.int w))) := ⟨_, rfl⟩
  have goal : ∀ (t' : Str) (p' : Int), (∀ g, g = G → (sSeq (sIf (tVal (eOp opEq (eVar 6) (eC (.int 4)))) (sRet (eOp opAdd (eOp opAdd (eSl (eVar 1) pNone (pSome (eVar 4))) (eCall F_l_pick (aCons (eVar 0) (aCons (eVar 3) aNil)))) (eSl (eVar 1) (pSome (eVar 4)) pNone))) sNil)
  (sSeq (sIf (tVal (eOp opEq (eVar 6) (eC (.int 3)))) (sRet (eSl (eVar 1) pNone (pSome (eVar 4)))) sNil)
  (sRet (eOp opAdd (eOp opAdd (eSl (eVar 1) pNone (pSome (eVar 4))) (eOp opIx (eDat (fLst (aCons (eC (.str "")) (aCons (eVar 5) (aCons (eVar 5) aNil))))) (eVar 6))) (eSl (eVar 1) (pSome (eOp opAdd (eVar 4) (eOp opIx (eDat (fLst (aCons (eC (.int 1)) (aCons (eC (.int 0)) (aCons (eC (.int 1)) aNil))))) (eVar 6)))) pNone))))) g (L.set n (P1 p3)) = .rt (.d (.str t')) (L.set n (P1 p'))) → F_l_bent_v6 [.loc n, .d (.str t)] (L.set n (P1 p)) = .ok (.d (.str t')) (L.set n (P1 p')) := fun t' p' h => by
    refine fn_out (w := .d (.str t')) (L' := L.set n (P1 p')) rfl ?_ (settle_d _ _ _ _) (outV_set0 _ hn)
    have : b_l_bent_v6 (E none none none none none) (L.set n (P1 p)) = .rt (.d (.str t')) (L.set n (P1 p')) := seq_nx s2 (seq_nx s3 (seq_nx s4 (seq_nx s5 (seq_nx s6 (h _ hG.symm)))))
    rw [hE] at this
    exact this
  have g1 : G[1]? = some (some (.d (.str t))) := by rw [hG, hE]; rfl
  have g4 : ∀ M, eVar 4 G M = .ok (.d (.int (ka : Int))) M := fun M => by rw [hG, hE]; rfl
  have g6 : G[6]? = some (some (.d (.int w))) := by rw [hG, hE]; rfl
  have tw : ∀ (x : Int), tVal (eOp opEq (eVar 6) (eC (.int x))) G (L.set n (P1 p3)) = .ok (decide (w = x)) (L.set n (P1 p3)) := fun x => by
    have k2 := cmpOk_int w x
    rw [u_tVal, u_eOp, u_eVar, g6]
    simp only [Res.bind_ok, u_eC, u_opEq, data_d, if_pos k2, eqv_int]
  have x1 := fun M => ssl_to (i := 1) (j := 0) (z := t) (k := ka) hz (env := G) (L := M) g1 (g := eVar 4) (g4 M)
  obtain ⟨cl1, cl2⟩ := cut_lenT t ka
  by_cases h4 : w = 4
  · obtain ⟨z, hz', p5, e5⟩ := pick_ex (R := W) (L := L) (n := n) (p := p3) hn (by rw [hW]; decide) (by rw [hW]; decide)
    rw [hW] at hz'
    obtain ⟨v, hv, rfl⟩ := List.mem_map.mp hz'
    have lv := wrd6_len v hv
    have pk : eCall F_l_pick (aCons (eVar 0) (aCons (eVar 3) aNil)) G (L.set n (P1 p3)) = .ok (.d (.str v)) (L.set n (P1 p5)) := by
      rw [hG, hE]
      simp [e5]
    have x2 := ssl_from (i := 1) (z := t) (k := ka) hz (env := G) (L := L.set n (P1 p5)) g1 (g := eVar 4) (g4 _)
    have cf := cut_lenF t ka
    have r1 := add_str_ev (x1 (L.set n (P1 p3))) pk (by omega)
    have r2 : eOp opAdd (eOp opAdd (eSl (eVar 1) pNone (pSome (eVar 4))) (eCall F_l_pick (aCons (eVar 0) (aCons (eVar 3) aNil)))) (eSl (eVar 1) (pSome (eVar 4)) pNone) G (L.set n (P1 p3)) = .ok (.d (.str (cutS t none (some (ka : Int)) ++ v ++ cutS t (some (ka : Int)) none))) (L.set n (P1 p5)) := by
      have k : (cutS t none (some (ka : Int)) ++ v).length + (cutS t (some (ka : Int)) none).length ≤ 16777216 := by rw [len_app]; omega
      rw [u_eOp, r1]
      simp only [Res.bind_ok, x2, u_opAdd, zs, if_pos k]
    refine ⟨_, p5, goal (cutS t none (some (ka : Int)) ++ v ++ cutS t (some (ka : Int)) none) p5 ?_, ?_⟩
    · rintro g rfl
      refine seq_rt ?_
      rw [u_sIf, tw, decide_eq_true h4]
      simp only [then_ok, if_true]
      rw [u_sRet, r2]
      rfl
    · rw [len_app, len_app]
      omega
  · have n4 : ∀ f, sIf (tVal (eOp opEq (eVar 6) (eC (.int 4)))) f sNil G (L.set n (P1 p3)) = .nx G (L.set n (P1 p3)) := fun f => by
      rw [u_sIf, tw, decide_eq_false h4]
      simp
    by_cases h3 : w = 3
    · refine ⟨_, p3, goal (cutS t none (some (ka : Int))) p3 ?_, by omega⟩
      rintro g rfl
      refine seq_nx (n4 _) (seq_rt ?_)
      rw [u_sIf, tw, decide_eq_true h3]
      simp only [then_ok, if_true]
      rw [u_sRet, x1]
      rfl
    · have n3 : ∀ f, sIf (tVal (eOp opEq (eVar 6) (eC (.int 3)))) f sNil G (L.set n (P1 p3)) = .nx G (L.set n (P1 p3)) := fun f => by
        rw [u_sIf, tw, decide_eq_false h3]
        simp
      have mid : ∃ (s : Str) (j : Nat), s.length ≤ 1 ∧ j ≤ 1 ∧ eOp opIx (eDat (fLst (aCons (eC (.str "")) (aCons (eVar 5) (aCons (eVar 5) aNil))))) (eVar 6) G (L.set n (P1 p3)) = .ok (.d (.str s)) (L.set n (P1 p3)) ∧ eOp opAdd (eVar 4) (eOp opIx (eDat (fLst (aCons (eC (.int 1)) (aCons (eC (.int 0)) (aCons (eC (.int 1)) aNil))))) (eVar 6)) G (L.set n (P1 p3)) = .ok (.d (.int ((ka + j : Nat) : Int))) (L.set n (P1 p3)) := by
        have hw3 : w = 0 ∨ w = 1 ∨ w = 2 := by omega
        have le : ("" : Str).length ≤ 1 := by decide +kernel
        rcases hw3 with rfl | rfl | rfl
        · refine ⟨"", 1, le, Nat.le_refl _, ?_, ?_⟩ <;> · rw [hG, hE]; simp [zs, Ob.va, atI, ixN]
        · refine ⟨⟨#[c]⟩, 0, Nat.le_refl _, Nat.zero_le _, ?_, ?_⟩ <;> · rw [hG, hE]; simp [zs, Ob.va, atI, ixN]
        · refine ⟨⟨#[c]⟩, 1, Nat.le_refl _, Nat.le_refl _, ?_, ?_⟩ <;> · rw [hG, hE]; simp [zs, Ob.va, atI, ixN]
      obtain ⟨s, j, ls, hj, m1, m2⟩ := mid
      have x2 := ssl_from (i := 1) (z := t) (k := ka + j) hz (env := G) (L := L.set n (P1 p3)) g1 m2
      have cf := cut_lenF t (ka + j)
      have r1 := add_str_ev (x1 (L.set n (P1 p3))) m1 (by omega)
      have r2 := add_str_ev r1 x2 (by rw [len_app]; omega)
      refine ⟨_, p3, goal (cutS t none (some (ka : Int)) ++ s ++ cutS t (some ((ka + j : Nat) : Int)) none) p3 ?_, by rw [len_app, len_app]; omega⟩
      rintro g rfl
      refine seq_nx (n4 _) (seq_nx (n3 _) ?_)
      rw [u_sRet, r2]
      rfl
end L2.HW
namespace L2.HW
open PySem PySem.Spec PyProof.Rows L2.HW.G PySem.NumText TL
structure TF (D : PyData) (T : Str) : Prop where
  lt : ∀ L, F_l_text_v3 70 [.d D] L = .ok (.d (.str T)) L
  tt : ∀ L, F_tree_text [.d D] L = .ok (.d (.str T)) L
  rt : ∀ L, F_read_tree [.d (.str T)] L = .ok (.d D) L
  sh : okShow D
  ln : T.length ≤ 1000
theorem tf_of {t : Tr} (ho : okTr t) (hd : depT t ≤ 40) (hl : (txL t).length ≤ 1000) (lk : ∀ L, F_look_at_form [.d t.d] L = .ok (.d .none) L) : TF t.d (txS t) := by
  have tr := treeT_tx ho hd
  have l0 : (txS t).length = (txL t).length := len_ofL _
  refine ⟨fun L => l_text_v3_run 70 t L ho (by omega) (by omega), tree_text_run ho (by omega) (by omega) lk, fun L => ?_, (tree_show tr (by rw [len_ofL]; omega)).1, by rw [len_ofL]; omega⟩
  have rr := read_tree_run (txS t) (by rw [len_ofL]; omega) L
  rw [tr] at rr
  exact rr
theorem tf_wf {t : Tr} (w : wf2 t) (ha : (allR t).length ≤ 70) (ho : okTr t) (hd : depT t ≤ 40) (hl : (txL t).length ≤ 1000) : TF t.d (txS t) := tf_of ho hd hl (look_form_run w ha)
theorem szB2 : szB 2 = 314 := by decide
theorem tf_dr {d : Nat} {t : Tr} (h : Dr d t) (hd : d ≤ 3) : TF t.d (txS t) := by
  obtain ⟨h1, h2, h3, h4, h5⟩ := h
  have : 3 ^ d ≤ 3 ^ 3 := Nat.pow_le_pow_right (by omega) hd
  have e : (3 : Nat) ^ 3 = 27 := by decide
  have sz : szB d ≤ 953 := by
    have hd : d = 0 ∨ d = 1 ∨ d = 2 ∨ d = 3 := by omega
    rcases hd with rfl | rfl | rfl | rfl <;> decide
  exact tf_wf h1 (by omega) h3 (by omega) (by omega)
theorem tf_pair {t : Tr} (h : Dr 2 t) : TF (.tuple [.str "beside", .tuple [t.d, .int 7]]) (txS (.nd false [t, .rd 7])) := by
  obtain ⟨h1, h2, h3, h4, h5⟩ := h
  rw [szB2] at h5
  have e : (Tr.nd false [t, .rd 7]).d = .tuple [.str "beside", .tuple [t.d, .int 7]] := by
    simp only [Tr.d, Tr.ds]
    rfl
  rw [← e]
  have d7 : (digs 7).length = 1 := by rw [digs_lt (by omega)]; rfl
  refine tf_wf ?_ ?_ ?_ ?_ ?_
  · rw [wf2_nd]
    refine ⟨by simp, fun x hx => ?_⟩
    simp only [List.mem_cons, List.not_mem_nil, or_false] at hx
    rcases hx with rfl | rfl
    · exact h1
    · unfold wf2; trivial
  · rw [allR_nd]
    simp only [List.flatMap_cons, List.flatMap_nil, List.append_nil, List.length_append, allR_rd, List.length_singleton]
    omega
  · show 2 ≤ [t, Tr.rd 7].length ∧ okTrs [t, .rd 7]
    refine ⟨by simp, okTrs_iff.mpr fun x hx => ?_⟩
    simp only [List.mem_cons, List.not_mem_nil, or_false] at hx
    rcases hx with rfl | rfl
    · exact h3
    · show 7 < 10 ^ 30
      decide
  · show 1 + max (depT t) (max 0 0) ≤ 40
    omega
  · rw [txL_nd]
    have : (txsL [t, .rd 7]).length = (txL t).length + 1 + (digs 7).length := by simp [txsL, txL]; omega
    omega
theorem k57_inner {x0 x1 x3 x4 : Option Va} {L : LH} {n : Nat} {T : Str} (hn : n < L.length) (hT : T.length ≤ 1000) (x6 x7 : Option Va) (p : Int) (z8 z9 z10 z11 : Option Va) : ∃ y7 p', b_law_k57_1 [x0, x1, some (.loc n), x3, x4, some (.d (.str T)), x6, x7, z8, z9, z10, z11] (L.set n (P1 p)) = .nx [x0, x1, some (.loc n), x3, x4, some (.d (.str T)), x6, y7, z8, z9, z10, z11] (L.set n (P1 p')) := by
  obtain ⟨t1, p1, e1, o1⟩ := bent6_ex (p := p) hn hT (by omega)
  obtain ⟨t2, p2, e2, o2⟩ := bent6_ex (p := p1) hn o1 (by omega)
  have b0 := fun M => both9_run T (by omega) M
  have b1 := fun M => both9_run t1 (by omega) M
  have b2 := fun M => both9_run t2 (by omega) M
  refine ⟨some (.d (.str t1)), p2, seq_nx (env1 := [x0, x1, some (.loc n), x3, x4, some (.d (.str T)), x6, some (.d (.str t1)), z8, z9, z10, z11]) (L1 := L.set n (P1 p1)) (by simp [e1]) ?_⟩
  simp [b0, b1, e2, b2]
theorem k57_tree {x0 x1 : Option Va} {L : LH} {n : Nat} {D : PyData} {T : Str} (hn : n < L.length) (F : TF D T) (x4 x5 x6 x7 : Option Va) (p : Int) (z8 z9 z10 z11 : Option Va) : ∃ y4 y5 y6 y7 p', b_law_k57_2 [x0, x1, some (.loc n), some (.d D), x4, x5, x6, x7, z8, z9, z10, z11] (L.set n (P1 p)) = .nx [x0, x1, some (.loc n), some (.d D), y4, y5, y6, y7, z8, z9, z10, z11] (L.set n (P1 p')) := by
  obtain ⟨lt, tt, rt, sh, ln⟩ := F
  have lt := lt (L.set n (P1 p))
  have tt := tt (L.set n (P1 p))
  have rt := rt (L.set n (P1 p))
  generalize hS : D.shown = S
  have s3 : sSet 4 (eCallB cRepr (aCons (eVar 3) aNil)) [x0, x1, some (.loc n), some (.d D), x4, x5, x6, x7, z8, z9, z10, z11] (L.set n (P1 p)) = .nx [x0, x1, some (.loc n), some (.d D), some (.d (.str S)), x5, x6, x7, z8, z9, z10, z11] (L.set n (P1 p)) := by
    simp [sh, hS]
  obtain ⟨E, hE⟩ : ∃ E : En, E = [x0, x1, some (.loc n), some (.d D), some (.d (.str S)), some (.d (.str T)), x6, x7, z8, z9, z10, z11] := ⟨_, rfl⟩
  have s4 : sSet 5 (eCall (F_l_text_v3 70) (aCons (eVar 3) aNil)) [x0, x1, some (.loc n), some (.d D), some (.d (.str S)), x5, x6, x7, z8, z9, z10, z11] (L.set n (P1 p)) = .nx E (L.set n (P1 p)) := by
    rw [hE]
    simp [lt]
  have s5' : sIf (tOrF (tVal (eOp opNe (eCall F_tree_text (aCons (eVar 3) aNil)) (eVar 5))) (tOrF (tVal (eOp opNe (eCallB cRepr (aCons (eCall F_read_tree (aCons (eVar 5) aNil)) aNil)) (eVar 4))) (tVal (eOp opNe (eCallB cRepr (aCons (eVar 3) aNil)) (eVar 4))))) (sRet (eC (.bool false))) sNil E (L.set n (P1 p)) = .nx E (L.set n (P1 p)) := by
    have v5 : eVar 5 E (L.set n (P1 p)) = .ok (.d (.str T)) (L.set n (P1 p)) := by rw [hE]; rfl
    have v4 : eVar 4 E (L.set n (P1 p)) = .ok (.d (.str S)) (L.set n (P1 p)) := by rw [hE]; rfl
    have q1 := ne_same (f := eCall F_tree_text (aCons (eVar 3) aNil)) (g := eVar 5) (env := E) (L := L.set n (P1 p)) (by rw [hE]; simp [tt]) v5 (smD_str T)
    have q2 := ne_same (f := eCallB cRepr (aCons (eCall F_read_tree (aCons (eVar 5) aNil)) aNil)) (g := eVar 4) (env := E) (L := L.set n (P1 p)) (by rw [hE]; simp [rt, sh, hS]) v4 (smD_str S)
    have q3 := ne_same (f := eCallB cRepr (aCons (eVar 3) aNil)) (g := eVar 4) (env := E) (L := L.set n (P1 p)) (by rw [hE]; simp [sh, hS]) v4 (smD_str S)
    rw [u_sIf, u_tOrF, q1]
    simp only [Res.bind_ok, Bool.false_eq_true, if_false]
    rw [u_tOrF, q2]
    simp only [Res.bind_ok, Bool.false_eq_true, if_false, q3, then_ok]
    rfl
  obtain ⟨env', L', lp, y6, y7, q, rfl, rfl⟩ := forL_inv (g := tN 6) (body := b_law_k57_1) (I := fun _ env M' => ∃ y6 y7 q, env = [x0, x1, some (.loc n), some (.d D), some (.d (.str S)), some (.d (.str T)), y6, y7, z8, z9, z10, z11] ∧ M' = L.set n (P1 q)) (rngV 0 4) E (L.set n (P1 p)) ⟨x6, x7, p, hE, rfl⟩ (by
    rintro w r env M' ⟨y6, y7, q, rfl, rfl⟩
    obtain ⟨c7, q', e⟩ := k57_inner (x0 := x0) (x1 := x1) (x3 := some (.d D)) (x4 := some (.d (.str S))) hn ln (some w) y7 q z8 z9 z10 z11
    exact ⟨_, _, rfl, _, _, .inl e, ⟨_, _, _, rfl, rfl⟩⟩)
  have src : srcR1 (aCons (eC (.int 4)) aNil) E (L.set n (P1 p)) = .ok (rngV 0 4, none) (L.set n (P1 p)) := srcR1_int (i := 4) (by simp) (by omega)
  exact ⟨_, _, y6, y7, q, seq_nx s3 (seq_nx s4 (seq_nx s5' (for_nx src lp)))⟩
theorem k57_turn (ns : List Int) (hl : ns.length ≤ 63) (j : Nat) (hj : j ≤ 1000) {x2 x3 x4 x5 x6 x7 z8 z9 z10 z11 : Option Va} (M : LH) : ∃ c2 c3 c4 c5 c6 c7 M', b_law_k57_3 [some (.scr ns), some (.d (.int j)), x2, x3, x4, x5, x6, x7, z8, z9, z10, z11] M = .nx [some (.scr ns), some (.d (.int j)), c2, c3, c4, c5, c6, c7, z8, z9, z10, z11] M' := by
  have zs := sizeLine_eq
  obtain ⟨p, ep⟩ := pile_ex (ns := ns) (k := j) (L := M) (by omega) (by omega) hl
  have hs : M ++ [P1 p] = (M ++ [P1 0]).set M.length (P1 p) := by rw [List.set_append_right _ _ (Nat.le_refl _)]; simp
  obtain ⟨L, hL⟩ : ∃ L, L = M ++ [P1 0] := ⟨_, rfl⟩
  have hn : M.length < L.length := by rw [hL]; simp
  rw [← hL] at hs
  generalize hnn : M.length = n at hs hn
  obtain ⟨ta, p1, ea, da⟩ := drawn57_ex (L := L) hn 70 3 (by omega) (by omega) p
  obtain ⟨tb, p2, eb, db⟩ := drawn57_ex (L := L) hn 70 2 (by omega) (by omega) p1
  obtain ⟨tc, p3, ec, dc⟩ := drawn57_ex (L := L) hn 70 2 (by omega) (by omega) p2
  have fa := tf_dr da (by omega)
  have fb := tf_dr db (by omega)
  have fc := tf_pair dc
  have ea : F_l_drawn_v3 70 [.loc n, .d (.int 3)] (L.set n (P1 p)) = .ok (.d ta.d) (L.set n (P1 p1)) := ea
  have eb : F_l_drawn_v3 70 [.loc n, .d (.int 2)] (L.set n (P1 p1)) = .ok (.d tb.d) (L.set n (P1 p2)) := eb
  have ec : F_l_drawn_v3 70 [.loc n, .d (.int 2)] (L.set n (P1 p2)) = .ok (.d tc.d) (L.set n (P1 p3)) := ec
  generalize ta.d = A at *
  generalize tb.d = B at *
  generalize tc.d = C at *
  have s1 : sSet 2 (eNew (fCall F_l_pile (aCons (eVar 0) (aCons (eVar 1) aNil)))) [some (.scr ns), some (.d (.int j)), x2, x3, x4, x5, x6, x7, z8, z9, z10, z11] M = .nx [some (.scr ns), some (.d (.int j)), some (.loc n), x3, x4, x5, x6, x7, z8, z9, z10, z11] (L.set n (P1 p)) := by
    simp only [u_sSet, u_eNew, u_fCall, u_aCons, u_aNil, u_eVar, List.getElem?_cons_succ, List.getElem?_cons_zero, Res.bind_ok, List.set_cons_succ, List.set_cons_zero, ep, then_ok, hnn, ← hs]
  obtain ⟨E, hE⟩ : ∃ E : En, E = [some (.scr ns), some (.d (.int j)), some (.loc n), x3, x4, x5, x6, x7, z8, z9, z10, z11] := ⟨_, rfl⟩
  have e2 : ∀ K, eVar 2 E K = .ok (.loc n) K := fun K => by rw [hE]; rfl
  have d1 : eCall (F_l_drawn_v3 70) (aCons (eVar 2) (aCons (eC (.int 3)) aNil)) E (L.set n (P1 p)) = .ok (.d A) (L.set n (P1 p1)) := by
    rw [u_eCall, u_aCons, e2]
    simp [ea]
  have d2 : eCall (F_l_drawn_v3 70) (aCons (eVar 2) (aCons (eC (.int 2)) aNil)) E (L.set n (P1 p1)) = .ok (.d B) (L.set n (P1 p2)) := by
    rw [u_eCall, u_aCons, e2]
    simp [eb]
  have d3 : eCall (F_l_drawn_v3 70) (aCons (eVar 2) (aCons (eC (.int 2)) aNil)) E (L.set n (P1 p2)) = .ok (.d C) (L.set n (P1 p3)) := by
    rw [u_eCall, u_aCons, e2]
    simp [ec]
  have tp : eTup (aCons (eC (.str "beside")) (aCons (eTup (aCons (eCall (F_l_drawn_v3 70) (aCons (eVar 2) (aCons (eC (.int 2)) aNil))) (aCons (eC (.int 7)) aNil))) aNil)) E (L.set n (P1 p2)) = .ok (.d (.tuple [.str "beside", .tuple [C, .int 7]])) (L.set n (P1 p3)) := by
    have k2 : 0 + 1 + 1 ≤ sizeLine := by omega
    rw [u_eTup, u_aCons, u_eC]
    simp only [Res.bind_ok, u_aCons, u_eTup, d3, u_eC, u_aNil, List.length_cons, List.length_nil, if_pos k2]
    rfl
  have src : srcV (eDat (fLst (aCons (eCall (F_l_drawn_v3 70) (aCons (eVar 2) (aCons (eC (.int 3)) aNil))) (aCons (eCall (F_l_drawn_v3 70) (aCons (eVar 2) (aCons (eC (.int 2)) aNil))) (aCons (eTup (aCons (eC (.str "beside")) (aCons (eTup (aCons (eCall (F_l_drawn_v3 70) (aCons (eVar 2) (aCons (eC (.int 2)) aNil))) (aCons (eC (.int 7)) aNil))) aNil))) aNil))))) E (L.set n (P1 p)) = .ok ([Va.d A, .d B, .d (.tuple [.str "beside", .tuple [C, .int 7]])], none) (L.set n (P1 p3)) := by
    have k3 : 0 + 1 + 1 + 1 ≤ sizeLine := by omega
    rw [u_srcV, u_eDat, u_fLst, u_aCons, d1]
    simp only [Res.bind_ok, u_aCons, d2, tp, u_aNil, List.length_cons, List.length_nil, if_pos k3]
    rfl
  obtain ⟨env', L', lp, ⟨y3, y4, y5, y6, y7, q, rfl, rfl⟩, -⟩ := forL_inv (g := tN 3) (body := b_law_k57_2) (I := fun ws env M' => (∃ y3 y4 y5 y6 y7 q, env = [some (.scr ns), some (.d (.int j)), some (.loc n), y3, y4, y5, y6, y7, z8, z9, z10, z11] ∧ M' = L.set n (P1 q)) ∧ ∀ w ∈ ws, ∃ D T, w = Va.d D ∧ TF D T) [Va.d A, .d B, .d (.tuple [.str "beside", .tuple [C, .int 7]])] E (L.set n (P1 p3))
    ⟨⟨_, _, _, _, _, p3, hE, rfl⟩, fun w hw => by
      simp only [List.mem_cons, List.not_mem_nil, or_false] at hw
      rcases hw with rfl | rfl | rfl
      · exact ⟨_, _, rfl, fa⟩
      · exact ⟨_, _, rfl, fb⟩
      · exact ⟨_, _, rfl, fc⟩⟩ (by
    rintro w r env M' ⟨⟨y3, y4, y5, y6, y7, q, rfl, rfl⟩, hw⟩
    obtain ⟨D, T, rfl, F⟩ := hw w List.mem_cons_self
    obtain ⟨c4, c5, c6, c7, q', e⟩ := k57_tree (x0 := some (.scr ns)) (x1 := some (.d (.int j))) hn F y4 y5 y6 y7 q z8 z9 z10 z11
    exact ⟨_, _, rfl, _, _, .inl e, ⟨_, _, _, _, _, _, rfl, rfl⟩, fun w h => hw w (List.mem_cons_of_mem _ h)⟩)
  refine ⟨some (.loc n), y3, y4, y5, y6, y7, L.set n (P1 q), seq_nx s1 ?_⟩
  rw [← hE]
  simp only [sFor, src, then_ok, lockL_none, lp]
  rfl
theorem k57_outer (ns : List Int) (hl : ns.length ≤ 63) (N : Nat) (hN : N ≤ 10) : ∃ c1 c2 c3 c4 c5 c6 c7 L', forL (tN 1) b_law_k57_3 (rngV 0 N) [some (.scr ns), none, none, none, none, none, none, none, none, none, none, none] [] = .nx [some (.scr ns), c1, c2, c3, c4, c5, c6, c7, none, none, none, none] L' := by
  have loop := forL_inv (g := tN 1) (body := b_law_k57_3) (I := fun ws env M => (∃ a1 a2 a3 a4 a5 a6 a7, env = [some (.scr ns), a1, a2, a3, a4, a5, a6, a7, none, none, none, none]) ∧ ∀ w ∈ ws, ∃ j : Nat, w = Va.d (.int j) ∧ j < 10) (rngV 0 N) [some (.scr ns), none, none, none, none, none, none, none, none, none, none, none] []
    ⟨⟨_, _, _, _, _, _, _, rfl⟩, fun w hw => by
      simp only [rngV, List.mem_map, List.mem_range] at hw
      obtain ⟨j, hj, rfl⟩ := hw
      exact ⟨j, by simp, by omega⟩⟩ ?_
  · obtain ⟨env', L', e, ⟨a1, a2, a3, a4, a5, a6, a7, rfl⟩, _⟩ := loop
    exact ⟨_, _, _, _, _, _, _, L', e⟩
  · rintro w r env M ⟨⟨a1, a2, a3, a4, a5, a6, a7, rfl⟩, hw⟩
    obtain ⟨j, rfl, hj⟩ := hw w List.mem_cons_self
    obtain ⟨c2, c3, c4, c5, c6, c7, M', t⟩ := k57_turn ns hl j (by omega) (x2 := a2) (x3 := a3) (x4 := a4) (x5 := a5) (x6 := a6) (x7 := a7) M
    exact ⟨_, _, rfl, _, M', .inl t, ⟨_, _, _, _, _, _, _, rfl⟩, fun w h => hw w (List.mem_cons_of_mem _ h)⟩
end L2.HW
namespace L2.HW
open PySem PySem.Spec PyProof.Rows L2.HW.G PySem.NumText TL
end L2.HW
namespace L2.HW
open PySem PySem.Spec PyProof.Rows L2.HW.G PySem.NumText TL
theorem three_evL {f g h : EF} {env : En} {M : LH} {a b c : PyData} (h1 : f env M = .ok (.d a) M) (h2 : g env M = .ok (.d b) M) (h3 : h env M = .ok (.d c) M) : fLst (aCons f (aCons g (aCons h aNil))) env M = .ok (.lst [.d a, .d b, .d c]) M := by
  have zs := sizeLine_eq
  have k : 0 + 1 + 1 + 1 ≤ sizeLine := by omega
  rw [u_fLst, u_aCons, h1]
  simp only [Res.bind_ok, u_aCons, h2, h3, u_aNil, List.length_cons, List.length_nil, if_pos k]
end L2.HW
namespace L2.HW
open PySem PySem.Spec PyProof.Rows L2.HW.G PySem.NumText TL
def deepTr : Nat → Tr
  | 0 => .rd 10
  | k + 1 => .nd true [.rd 0, deepTr k]
def wideTr : Tr := .nd false (List.replicate 45 (.nd true [.rd 0, .rd 1]))
theorem deep_ok : ∀ k, wf2 (deepTr k) ∧ (allR (deepTr k)).length = k + 1 ∧ okTr (deepTr k) ∧ depT (deepTr k) = k
  | 0 => ⟨by unfold deepTr wf2; trivial, by unfold deepTr; rw [allR_rd]; rfl, by show 10 < 10 ^ 30; decide, rfl⟩
  | k + 1 => by
    obtain ⟨h1, h2, h3, h4⟩ := deep_ok k
    refine ⟨?_, ?_, ?_, ?_⟩
    · unfold deepTr
      rw [wf2_nd]
      refine ⟨by simp, fun x hx => ?_⟩
      simp only [List.mem_cons, List.not_mem_nil, or_false] at hx
      rcases hx with rfl | rfl
      · unfold wf2; trivial
      · exact h1
    · unfold deepTr
      rw [allR_nd]
      simp only [List.flatMap_cons, List.flatMap_nil, List.append_nil, List.length_append, allR_rd, List.length_singleton, h2]
      omega
    · show 2 ≤ [Tr.rd 0, deepTr k].length ∧ okTrs [.rd 0, deepTr k]
      refine ⟨by simp, okTrs_iff.mpr fun x hx => ?_⟩
      simp only [List.mem_cons, List.not_mem_nil, or_false] at hx
      rcases hx with rfl | rfl
      · show 0 < 10 ^ 30
        decide
      · exact h3
    · show 1 + max 0 (max (depT (deepTr k)) 0) = k + 1
      omega
theorem dg_0 : digs 0 = [48] := digs_lt (by omega)
theorem dg_1 : digs 1 = [49] := digs_lt (by omega)
theorem dg_10 : digs 10 = [49, 48] := by rw [digs_ge (by omega), digs_lt (by omega)]; rfl
theorem tx_deep0 : txL (deepTr 0) = [49, 48] := dg_10
theorem tx_deep (k : Nat) : txL (deepTr (k + 1)) = bhL ++ [40, 48, 44] ++ txL (deepTr k) ++ [41] := by
  conv => lhs; unfold deepTr
  simp [txL, txsL, dg_0]
def dpTx (k : Nat) : List Nat := (List.replicate k (bhL ++ [40, 48, 44])).flatten ++ [49, 48] ++ List.replicate k 41
theorem tx_deepL : ∀ k, txL (deepTr k) = dpTx k
  | 0 => tx_deep0
  | k + 1 => by
    rw [tx_deep, tx_deepL k]
    unfold dpTx
    rw [List.replicate_succ, List.replicate_succ' (a := 41)]
    simp
def wdTx : List Nat := bsL ++ 40 :: (joinL [44] (List.replicate 45 (bhL ++ [40, 48, 44, 49, 41])) ++ [41])
theorem tx_wideL : txL wideTr = wdTx := by
  have e : txL (.nd true [.rd 0, .rd 1]) = bhL ++ [40, 48, 44, 49, 41] := by simp [txL, txsL, dg_0, dg_1]
  unfold wideTr wdTx
  simp only [txL]
  rw [txs_join, List.map_replicate, e]
  rfl
def deepS : Str := strRep 40 "behind(0," ++ "10" ++ strRep 40 ")"
def wideS : Str := "beside(" ++ Txt.join "," (rep 45 (["behind(0,1)"] : List Str)) ++ ")"
theorem rep_tl (k : Nat) (z : Str) : tl (strRep k z) = (List.replicate k (tl z)).flatten := by
  have go : ∀ (j : Nat) (a : Array Nat), ((List.replicate j z.cps).foldl (· ++ ·) a).toList = a.toList ++ (List.replicate j z.cps.toList).flatten := by
    intro j
    induction j with
    | zero => intro a; simp
    | succ j ih => intro a; rw [List.replicate_succ, List.foldl_cons, ih, List.replicate_succ, List.flatten_cons, Array.toList_append, List.append_assoc]
  have := go k #[]
  show ((List.replicate k z.cps).foldl (· ++ ·) #[]).toList = _
  rw [this]
  rfl
theorem rep_len (k : Nat) (z : Str) : (strRep k z).length = k * z.length := by
  rw [len_tl, rep_tl, len_tl]
  induction k with
  | zero => simp
  | succ k ih => rw [List.replicate_succ, List.flatten_cons, List.length_append, ih, Nat.succ_mul]; omega
theorem deepS_eq : deepS = txS (deepTr 40) := by
  have h1 : tl ("behind(0," : Str) = bhL ++ [40, 48, 44] := by decide +kernel
  have h2 : tl (")" : Str) = [41] := by decide +kernel
  have h3 : tl ("10" : Str) = [49, 48] := by decide +kernel
  have e : tl deepS = dpTx 40 := by
    unfold deepS dpTx
    rw [tl_append, tl_append, rep_tl, rep_tl, h1, h2, h3]
    (congr 1) <;> simp
  show deepS = ofL (txL (deepTr 40))
  rw [tx_deepL, ← e, ofL_tl]
theorem wideS_eq : wideS = txS wideTr := by
  have h1 : tl ("behind(0,1)" : Str) = bhL ++ [40, 48, 44, 49, 41] := by decide +kernel
  have h2 : tl (")" : Str) = [41] := by decide +kernel
  have h3 : tl ("beside(" : Str) = bsL ++ [40] := by decide +kernel
  have h4 : tl ("," : Str) = [44] := by decide +kernel
  have e0 : (rep 45 (["behind(0,1)"] : List Str)).map tl = List.replicate 45 (bhL ++ [40, 48, 44, 49, 41]) := by
    unfold rep
    rw [List.map_flatten, List.map_replicate]
    show (List.replicate 45 [tl ("behind(0,1)" : Str)]).flatten = _
    rw [h1]
    rfl
  have e : tl wideS = wdTx := by
    unfold wideS wdTx
    rw [tl_append, tl_append, tl_join', e0, h2, h3, h4, List.append_assoc, List.append_assoc]
    rfl
  show wideS = ofL (txL wideTr)
  rw [tx_wideL, ← e, ofL_tl]
theorem wide_ok : okTr wideTr ∧ depT wideTr ≤ 40 ∧ (txL wideTr).length ≤ 1000 := by
  refine ⟨?_, ?_, ?_⟩
  · show 2 ≤ (List.replicate 45 (Tr.nd true [.rd 0, .rd 1])).length ∧ okTrs (List.replicate 45 (.nd true [.rd 0, .rd 1]))
    refine ⟨by simp, okTrs_iff.mpr fun x hx => ?_⟩
    rw [List.eq_of_mem_replicate hx]
    show 2 ≤ [Tr.rd 0, Tr.rd 1].length ∧ okTrs [.rd 0, .rd 1]
    refine ⟨by simp, okTrs_iff.mpr fun x hx => ?_⟩
    simp only [List.mem_cons, List.not_mem_nil, or_false] at hx
    rcases hx with rfl | rfl
    · show 0 < 10 ^ 30
      decide
    · show 1 < 10 ^ 30
      decide
  · have go : ∀ m, depTs (List.replicate m (Tr.nd true [.rd 0, .rd 1])) ≤ 1 := by
      intro m
      induction m with
      | zero => exact Nat.zero_le _
      | succ m ih =>
        rw [List.replicate_succ]
        show max (1 + max 0 (max 0 0)) (depTs _) ≤ 1
        omega
    have := go 45
    show 1 + depTs _ ≤ 40
    omega
  · rw [tx_wideL]
    decide +kernel
theorem wide_look (L : LH) : F_look_at_form [.d wideTr.d] L = .ok (.d .none) L := by
  have e : wideTr.d = .tuple [.str "beside", .tuple (List.replicate 45 (.tuple [.str "behind", .tuple [.int 0, .int 1]]))] := by
    unfold wideTr
    conv => lhs; unfold Tr.d
    rw [ds_map, List.map_replicate]
    rfl
  have r := form_gen 70 wideTr.d L (by rw [e]; decide +kernel) (by rw [e]; decide +kernel) (by rw [e]; decide +kernel) (by rw [e]; decide +kernel)
  have f : formK 70 wideTr.d = true := by rw [e]; decide +kernel
  rw [f] at r
  generalize wideTr.d = D at *
  simp [F_look_at_form, mkFn, b_look_at_form, r]
theorem tf_wide : TF wideTr.d wideS := by
  rw [wideS_eq]
  exact tf_of wide_ok.1 wide_ok.2.1 wide_ok.2.2 wide_look
theorem tf_deep : TF (deepTr 40).d deepS := by
  obtain ⟨h1, h2, h3, h4⟩ := deep_ok 40
  rw [deepS_eq]
  exact tf_wf h1 (by rw [h2]; omega) h3 (by rw [h4]; omega) (by rw [tx_deepL]; decide +kernel)
theorem more_ev {q m : Nat} {g : EF} {env : En} {L : LH} {xs ys : List Str} (he : env[q]? = some (some (.loc m))) (hm : L[m]? = some (lstS xs)) (hg : g env L = .ok (.d (.list (ys.map PyData.str))) L) (hz : xs.length + ys.length ≤ 1000) : sSet q (eNew (fCat (eVar q) g)) env L = .nx (env.set q (some (.loc L.length))) (L ++ [lstS (xs ++ ys)]) := by
  have hq : q < env.length := by
    rcases Nat.lt_or_ge q env.length with h | h
    · exact h
    · rw [List.getElem?_eq_none h] at he; cases he
  exact newS (catS_ev (M' := []) (by rw [u_eVar, he]) hm hg hz) hq
theorem app_ev {q m : Nat} {f : EF} {env : En} {L : LH} {xs : List Str} {y : Str} (he : env[q]? = some (some (.loc m))) (hm : L[m]? = some (lstS xs)) (hf : f env L = .ok (.d (.str y)) L) (hz : xs.length ≤ 1000) : sExpr (eMeth isLs mAppend (eVar q) (aCons f aNil)) env L = .nx env (L.set m (lstS (xs ++ [y]))) := by
  have zs := sizeLine_eq
  have hm' : L[m]? = some (some (.lst ((xs.map PyData.str).map Va.d))) := hm
  have il : isLs L (.loc m) = true := by rw [u_isLs]; simp only [hm']
  have k1 : ((xs.map PyData.str).map Va.d).length < sizeLine := by rw [List.length_map, List.length_map]; omega
  rw [u_sExpr, u_eMeth, u_eVar, he]
  simp only [Res.bind_ok, il, if_true]
  rw [u_aCons, hf]
  simp only [Res.bind_ok, u_aNil, u_mAppend, hm', if_pos k1, then_ok]
  simp [lstS]
def odA0 : List Str := ["", "0", "00", "01", "10", strRep 30 "9", strRep 31 "9", "behind", "behind(", "behind()", "behind(0)"]
def odA1 : List Str := ["behind(0,)", "behind(0,1)"]
def odA2 : List Str := ["behind(0,1", "behind(0,1))", "behind(0,1),", "behind(0 ,1)", "behin(0,1)", "Behind(0,1)"]
def odA3 : List Str := ["(0,1)", "0,1", "b0", "0b"]
def odA4 : List Str := ["behindx(0,1)", "besideq", "behind(0,beside(1,2),3)", "behind(0,1)2", "behind(0,1)behind"]
def odA5 : List Str := ["behind(behind(0,1),2)"]
def odA6 : List Str := ["beside(0,beside(1,2))\n"]
def odL (k : Nat) : List Str := [strRep k "behind(0," ++ "1" ++ strRep k ")", strRep k "beside(", strRep k "beside(" ++ "be"]
def odM (k : Nat) : List Str := [strRep k "beside(" ++ "0"]
def odB : List Str := odA0 ++ odA1 ++ odA2 ++ odA3 ++ odA4 ++ odA5 ++ odA6
def odAll : List Str := odB ++ odL 39 ++ odM 39 ++ odL 40 ++ odM 40 ++ odL 41 ++ odM 41
theorem odB_len : ∀ w ∈ odB, w.length ≤ 4000 := by
  have : ∀ w ∈ odB, decide (w.length ≤ 4000) = true := by decide +kernel
  exact fun w hw => of_decide_eq_true (this w hw)
theorem odL_len {k : Nat} (hk : k ≤ 100) : ∀ w ∈ odL k ++ odM k, w.length ≤ 4000 := by
  have z1 : ("behind(0," : Str).length = 9 := by decide +kernel
  have z2 : (")" : Str).length = 1 := by decide +kernel
  have z3 : ("beside(" : Str).length = 7 := by decide +kernel
  have z4 : ("1" : Str).length = 1 := by decide +kernel
  have z5 : ("be" : Str).length = 2 := by decide +kernel
  have z6 : ("0" : Str).length = 1 := by decide +kernel
  intro w hw
  simp only [odL, odM, List.cons_append, List.nil_append, List.mem_cons, List.not_mem_nil, or_false] at hw
  rcases hw with rfl | rfl | rfl | rfl
  · rw [len_app, len_app, rep_len, rep_len, z1, z2, z4]; omega
  · rw [rep_len, z3]; omega
  · rw [len_app, rep_len, z3, z5]; omega
  · rw [len_app, rep_len, z3, z6]; omega
theorem odAll_len : ∀ w ∈ odAll, w.length ≤ 4000 := fun w hw => by
  have hw : w ∈ odB ∨ w ∈ odL 39 ++ odM 39 ∨ w ∈ odL 40 ++ odM 40 ∨ w ∈ odL 41 ++ odM 41 := by
    simp only [odAll, List.mem_append] at hw ⊢
    rcases hw with ((((((h | h) | h) | h) | h) | h) | h)
    · exact .inl h
    · exact .inr (.inl (.inl h))
    · exact .inr (.inl (.inr h))
    · exact .inr (.inr (.inl (.inl h)))
    · exact .inr (.inr (.inl (.inr h)))
    · exact .inr (.inr (.inr (.inl h)))
    · exact .inr (.inr (.inr (.inr h)))
  rcases hw with h | h | h | h
  · exact odB_len w h
  · exact odL_len (by omega) w h
  · exact odL_len (by omega) w h
  · exact odL_len (by omega) w h
theorem k57_b5 {env : En} {L : LH} {m k : Nat} {xs : List Str} (hl : env.length = 12) (he : env[10]? = some (some (.loc m))) (e11 : env[11]? = some (some (.d (.int (k : Int))))) (hm : L[m]? = some (lstS xs)) (hk : 2 ≤ k ∧ k ≤ 100) (hz : xs.length ≤ 900) : ∃ L', b_law_k57_5 env L = .nx (env.set 10 (some (.loc L.length))) L' ∧ L'[L.length]? = some (lstS (xs ++ odL k ++ odM k)) := by
  have zs := sizeLine_eq
  have mul : ∀ (z : Str) (env : En) (M : LH), env[11]? = some (some (.d (.int (k : Int)))) → 0 < z.length → z.length ≤ 1000 → eOp opMulS (eC (.str z)) (eVar 11) env M = .ok (.d (.str (strRep k z))) M := fun z env M he h1 h2 => by
    have kk : (2 : Int) ≤ (k : Int) ∧ (k : Int) ≤ 1000 ∧ 0 < z.length ∧ z.length ≤ 1000 := ⟨by omega, by omega, h1, h2⟩
    rw [u_eOp, u_eC]
    simp only [Res.bind_ok, u_eVar, he, u_opMulS]
    rw [if_pos kk]
    rfl
  have rl : ∀ z : Str, (strRep k z).length = k * z.length := fun z => rep_len k z
  have z1 : ("behind(0," : Str).length = 9 := by decide +kernel
  have z2 : (")" : Str).length = 1 := by decide +kernel
  have z3 : ("beside(" : Str).length = 7 := by decide +kernel
  have z4 : ("1" : Str).length = 1 := by decide +kernel
  have z5 : ("be" : Str).length = 2 := by decide +kernel
  have z6 : ("0" : Str).length = 1 := by decide +kernel
  have m1 := mul "behind(0," env L e11 (by omega) (by omega)
  have m2 := mul ")" env L e11 (by omega) (by omega)
  have m3 := mul "beside(" env L e11 (by omega) (by omega)
  have r1 := rl "behind(0,"
  have r2 := rl ")"
  have r3 := rl "beside("
  rw [z1] at r1
  rw [z2] at r2
  rw [z3] at r3
  have a1 := add_str_ev (g := eC (.str "1")) m1 (by rw [u_eC]) (by omega)
  have a2 := add_str_ev a1 m2 (by rw [len_app]; omega)
  have a3 := add_str_ev (g := eC (.str "be")) m3 (by rw [u_eC]) (by omega)
  have d5 : (eDat (fLst (aCons (eOp opAdd (eOp opAdd (eOp opMulS (eC (.str "behind(0,")) (eVar 11)) (eC (.str "1"))) (eOp opMulS (eC (.str ")")) (eVar 11))) (aCons (eOp opMulS (eC (.str "beside(")) (eVar 11)) (aCons (eOp opAdd (eOp opMulS (eC (.str "beside(")) (eVar 11)) (eC (.str "be"))) aNil))))) env L = .ok (.d (.list ((odL k).map PyData.str))) L := by
    rw [u_eDat, three_evL a2 m3 a3]
    rfl
  have s1 := more_ev (q := 10) he hm d5 (by have : (odL k).length = 3 := rfl; omega)
  obtain ⟨M, hM⟩ : ∃ M, M = L ++ [lstS (xs ++ odL k)] := ⟨_, rfl⟩
  have gM : M[L.length]? = some (lstS (xs ++ odL k)) := by rw [hM]; exact app_get
  have he2 : (env.set 10 (some (.loc L.length)))[10]? = some (some (.loc L.length)) := by rw [List.getElem?_set_self (by omega)]
  have e112 : (env.set 10 (some (.loc L.length)))[11]? = some (some (.d (.int (k : Int)))) := by rw [List.getElem?_set_ne (by decide)]; exact e11
  have m4 := mul "beside(" (env.set 10 (some (.loc L.length))) M e112 (by omega) (by omega)
  have a4 := add_str_ev (g := eC (.str "0")) m4 (by rw [u_eC]) (by omega)
  have s2 := app_ev (q := 10) he2 gM a4 (by have : (odL k).length = 3 := rfl; rw [List.length_append]; omega)
  refine ⟨M.set L.length (lstS (xs ++ odL k ++ odM k)), ?_, ?_⟩
  · refine seq_nx (s1.trans (by rw [← hM])) ?_
    exact s2
  · rw [List.getElem?_set_self (by rw [hM]; simp)]
theorem law_k57 : ∀ ns : List Int, ns.length ≤ 63 → ∃ L, F_law_k57 [.scr ns] [] = .ok (.d (.bool true)) L := by
  intro ns hl
  have zs := sizeLine_eq
  obtain ⟨c1, c2, c3, c4, c5, c6, c7, M, lp⟩ := k57_outer ns hl (max 2 (min ns.length 10)) (by omega)
  have en : (max 2 (min (ns.length : Int) 10)).toNat = max 2 (min ns.length 10) := by omega
  have rg : -4611686018427387904 ≤ max 2 (min (ns.length : Int) 10) ∧ max 2 (min (ns.length : Int) 10) < 4611686018427387904 := by omega
  have src : srcR1 (aCons (eCallB cMax2 (aCons (eC (.int 2)) (aCons (eCallB cMin2 (aCons (eCallB cLen (aCons (eVar 0) aNil)) (aCons (eC (.int 10)) aNil))) aNil))) aNil) [some (.scr ns), none, none, none, none, none, none, none, none, none, none, none] [] = .ok (rngV 0 (max 2 (min ns.length 10)), none) [] := by
    rw [← en]
    exact srcR1_int (by simp [-u_cMin2, -u_cMax2, cMin2_eq, cMax2_eq, Va.seq]) rg
  obtain ⟨E, hE⟩ : ∃ E : Option Va → Option Va → Option Va → Option Va → Option Va → En, E = fun x5 x8 x9 x10 x11 => [some (.scr ns), c1, c2, c3, c4, x5, c6, c7, x8, x9, x10, x11] := ⟨_, rfl⟩
  have s1 : (sSet 8 (eOp opAdd (eOp opAdd (eC (.str "beside(")) (eJoin (eC (.str ",")) (eOp opMul (eDat (fLst (aCons (eC (.str "behind(0,1)")) aNil))) (eC (.int 45))))) (eC (.str ")")))) (E c5 none none none none) M = .nx (E c5 (some (.d (.str wideS))) none none none) M := by
    have k45 : eOp opMul (eDat (fLst (aCons (eC (.str "behind(0,1)")) aNil))) (eC (.int 45)) (E c5 none none none none) M = .ok (.d (.list ((rep 45 (["behind(0,1)"] : List Str)).map PyData.str))) M := by
      have e : (rep 45 (["behind(0,1)"] : List Str)).map PyData.str = rep 45 [PyData.str "behind(0,1)"] := by
        unfold rep
        rw [List.map_flatten, List.map_replicate]
        rfl
      rw [e]
      simp [zs, Ob.va, Va.items, datas]
    have j := join_ev (m := ",") (ys := rep 45 (["behind(0,1)"] : List Str)) k45 (by decide +kernel)
    have a := cat3_ev (a := "beside(") (c := ")") j (by decide +kernel)
    rw [u_sSet, a, hE]
    rfl
  have s2 : (sSet 9 (eOp opAdd (eOp opAdd (eOp opMulS (eC (.str "behind(0,")) (eC (.int 40))) (eC (.str "10"))) (eOp opMulS (eC (.str ")")) (eC (.int 40))))) (E c5 (some (.d (.str wideS))) none none none) M = .nx (E c5 (some (.d (.str wideS))) (some (.d (.str deepS))) none none) M := by
    have m1 := mul_ev (env := E c5 (some (.d (.str wideS))) none none none) (M := M) (k := 40) (m := "behind(0,") (by decide +kernel)
    have m2 := mul_ev (env := E c5 (some (.d (.str wideS))) none none none) (M := M) (k := 40) (m := ")") (by decide +kernel)
    have a1 := add_str_ev (g := eC (.str "10")) m1 (by rw [u_eC]) (by decide +kernel)
    have a2 := add_str_ev a1 m2 (by decide +kernel)
    have a2 : eOp opAdd (eOp opAdd (eOp opMulS (eC (.str "behind(0,")) (eC (.int 40))) (eC (.str "10"))) (eOp opMulS (eC (.str ")")) (eC (.int 40))) (E c5 (some (.d (.str wideS))) none none none) M = .ok (.d (.str deepS)) M := a2
    rw [u_sSet, a2, hE]
    rfl
  have s3 : ∃ y5, sFor (srcV (eDat (fLst (aCons (eVar 8) (aCons (eVar 9) aNil))))) (tN 5) b_law_k57_4 (E c5 (some (.d (.str wideS))) (some (.d (.str deepS))) none none) M = .nx (E y5 (some (.d (.str wideS))) (some (.d (.str deepS))) none none) M := by
    have sr : (srcV (eDat (fLst (aCons (eVar 8) (aCons (eVar 9) aNil))))) (E c5 (some (.d (.str wideS))) (some (.d (.str deepS))) none none) M = .ok ([Va.d (.str wideS), .d (.str deepS)], none) M := by
      rw [u_srcV, u_eDat, two_ev (a := .str wideS) (b := .str deepS) (by rw [hE]; rfl) (by rw [hE]; rfl)]
      rfl
    obtain ⟨env', L', e, ⟨y5, rfl, rfl⟩, -⟩ := forL_inv (g := tN 5) (body := b_law_k57_4) (I := fun ws env K => (∃ y5, env = E y5 (some (.d (.str wideS))) (some (.d (.str deepS))) none none ∧ K = M) ∧ ∀ w ∈ ws, ∃ D T, w = Va.d (.str T) ∧ TF D T) [Va.d (.str wideS), .d (.str deepS)] (E c5 (some (.d (.str wideS))) (some (.d (.str deepS))) none none) M
      ⟨⟨c5, rfl, rfl⟩, fun w hw => by
        simp only [List.mem_cons, List.not_mem_nil, or_false] at hw
        rcases hw with rfl | rfl
        · exact ⟨_, _, rfl, tf_wide⟩
        · exact ⟨_, _, rfl, tf_deep⟩⟩ (by
      rintro w r env K ⟨⟨y5, rfl, rfl⟩, hw⟩
      obtain ⟨D, T, rfl, F⟩ := hw w List.mem_cons_self
      have rt := F.rt K
      have tt := F.tt K
      have b := both9_run T (by have := F.ln; omega) K
      have e5 : ∀ x, eVar 5 (E (some (.d (.str T))) x (some (.d (.str deepS))) none none) K = .ok (.d (.str T)) K := fun x => by rw [hE]; rfl
      refine ⟨E (some (.d (.str T))) (some (.d (.str wideS))) (some (.d (.str deepS))) none none, K, by rw [hE]; rfl, E (some (.d (.str T))) (some (.d (.str wideS))) (some (.d (.str deepS))) none none, K, .inl ?_, ⟨_, rfl, rfl⟩, fun w h => hw w (List.mem_cons_of_mem _ h)⟩
      have q1 := ne_same (f := eCall F_tree_text (aCons (eCall F_read_tree (aCons (eVar 5) aNil)) aNil)) (g := eVar 5) (env := E (some (.d (.str T))) (some (.d (.str wideS))) (some (.d (.str deepS))) none none) (L := K) (x := .str T) (by rw [u_eCall, u_aCons, u_eCall, u_aCons, e5]; simp [rt, tt]) (e5 _) (smD_str T)
      have q0 : tNotF (tVal (eCall F_l_both_v3 (aCons (eVar 5) aNil))) (E (some (.d (.str T))) (some (.d (.str wideS))) (some (.d (.str deepS))) none none) K = .ok false K := by
        rw [u_tNotF, u_tVal, u_eCall, u_aCons, e5]
        simp [b]
      unfold b_law_k57_4
      rw [u_sIf, u_tOrF, q0]
      simp only [Res.bind_ok, Bool.false_eq_true, if_false, q1, then_ok]
      rfl)
    exact ⟨y5, for_nx sr e⟩
  obtain ⟨y5, s3⟩ := s3
  obtain ⟨G, hG⟩ : ∃ G : Option Va → Option Va → En, G = fun x10 x11 => E y5 (some (.d (.str wideS))) (some (.d (.str deepS))) x10 x11 := ⟨_, rfl⟩
  have gl : ∀ a b, (G a b).length = 12 := fun a b => by rw [hG, hE]; rfl
  have g10 : ∀ a b, (G a b)[10]? = some a := fun a b => by rw [hG, hE]; rfl
  have gs : ∀ a b c, (G a b).set 10 c = G c b := fun a b c => by rw [hG, hE]; rfl
  have gt : ∀ a b c, (G a b).set 11 c = G a c := fun a b c => by rw [hG, hE]; rfl
  have t0 : (sSet 10 (eNew (fLst (aCons (eC (.str "")) (aCons (eC (.str "0")) (aCons (eC (.str "00")) (aCons (eC (.str "01")) (aCons (eC (.str "10")) (aCons (eOp opMulS (eC (.str "9")) (eC (.int 30))) (aCons (eOp opMulS (eC (.str "9")) (eC (.int 31))) (aCons (eC (.str "behind")) (aCons (eC (.str "behind(")) (aCons (eC (.str "behind()")) (aCons (eC (.str "behind(0)")) aNil)))))))))))))) (G none none) M = .nx (G (some (.loc M.length)) none) (M ++ [lstS odA0]) := by
    have ev : (fLst (aCons (eC (.str "")) (aCons (eC (.str "0")) (aCons (eC (.str "00")) (aCons (eC (.str "01")) (aCons (eC (.str "10")) (aCons (eOp opMulS (eC (.str "9")) (eC (.int 30))) (aCons (eOp opMulS (eC (.str "9")) (eC (.int 31))) (aCons (eC (.str "behind")) (aCons (eC (.str "behind(")) (aCons (eC (.str "behind()")) (aCons (eC (.str "behind(0)")) aNil)))))))))))) (G none none) M = .ok (.lst ((odA0.map PyData.str).map Va.d)) M := by
      have m30 : eOp opMulS (eC (.str "9")) (eC (.int 30)) (G none none) M = .ok (.d (.str (strRep 30 "9"))) M := mul_ev (k := 30) (m := "9") (by decide +kernel)
      have m31 : eOp opMulS (eC (.str "9")) (eC (.int 31)) (G none none) M = .ok (.d (.str (strRep 31 "9"))) M := mul_ev (k := 31) (m := "9") (by decide +kernel)
      have k : 0 + 1 + 1 + 1 + 1 + 1 + 1 + 1 + 1 + 1 + 1 + 1 ≤ sizeLine := by omega
      rw [u_fLst]
      simp only [u_aCons, u_eC, Res.bind_ok, m30, m31, u_aNil, List.length_cons, List.length_nil, if_pos k]
      rfl
    have := newS (q := 10) (xs := odA0) ev (by rw [gl]; omega)
    rw [gs] at this
    exact this
  obtain ⟨M0, hM0⟩ : ∃ M0, M0 = M ++ [lstS odA0] := ⟨_, rfl⟩
  have h0 : M0[M.length]? = some (lstS odA0) := by rw [hM0]; exact app_get
  have d1 : (eDat (fLst (aCons (eC (.str "behind(0,)")) (aCons (eC (.str "behind(0,1)")) aNil)))) (G (some (.loc M.length)) none) M0 = .ok (.d (.list (odA1.map PyData.str))) M0 := by
    have k : 0 + 1 + 1 ≤ sizeLine := by omega
    rw [u_eDat, u_fLst]
    simp only [u_aCons, u_eC, Res.bind_ok, u_aNil, List.length_cons, List.length_nil, if_pos k]
    rfl
  have t1 := more_ev (q := 10) (g10 _ none) h0 d1 (by decide)
  rw [gs] at t1
  obtain ⟨M1, hM1⟩ : ∃ N, N = M0 ++ [lstS (odA0 ++ odA1)] := ⟨_, rfl⟩
  rw [← hM1] at t1
  have h1 : M1[M0.length]? = some (lstS (odA0 ++ odA1)) := by rw [hM1]; exact app_get
  have d2 : (eDat (fLst (aCons (eC (.str "behind(0,1")) (aCons (eC (.str "behind(0,1))")) (aCons (eC (.str "behind(0,1),")) (aCons (eC (.str "behind(0 ,1)")) (aCons (eC (.str "behin(0,1)")) (aCons (eC (.str "Behind(0,1)")) aNil)))))))) (G (some (.loc M0.length)) none) M1 = .ok (.d (.list (odA2.map PyData.str))) M1 := by
    have k : 0 + 1 + 1 + 1 + 1 + 1 + 1 ≤ sizeLine := by omega
    rw [u_eDat, u_fLst]
    simp only [u_aCons, u_eC, Res.bind_ok, u_aNil, List.length_cons, List.length_nil, if_pos k]
    rfl
  have t2 := more_ev (q := 10) (g10 _ none) h1 d2 (by decide)
  rw [gs] at t2
  obtain ⟨M2, hM2⟩ : ∃ N, N = M1 ++ [lstS (odA0 ++ odA1 ++ odA2)] := ⟨_, rfl⟩
  rw [← hM2] at t2
  have h2 : M2[M1.length]? = some (lstS (odA0 ++ odA1 ++ odA2)) := by rw [hM2]; exact app_get
  have d3 : (eDat (fLst (aCons (eC (.str "(0,1)")) (aCons (eC (.str "0,1")) (aCons (eC (.str "b0")) (aCons (eC (.str "0b")) aNil)))))) (G (some (.loc M1.length)) none) M2 = .ok (.d (.list (odA3.map PyData.str))) M2 := by
    have k : 0 + 1 + 1 + 1 + 1 ≤ sizeLine := by omega
    rw [u_eDat, u_fLst]
    simp only [u_aCons, u_eC, Res.bind_ok, u_aNil, List.length_cons, List.length_nil, if_pos k]
    rfl
  have t3 := more_ev (q := 10) (g10 _ none) h2 d3 (by decide)
  rw [gs] at t3
  obtain ⟨M3, hM3⟩ : ∃ N, N = M2 ++ [lstS (odA0 ++ odA1 ++ odA2 ++ odA3)] := ⟨_, rfl⟩
  rw [← hM3] at t3
  have h3 : M3[M2.length]? = some (lstS (odA0 ++ odA1 ++ odA2 ++ odA3)) := by rw [hM3]; exact app_get
  have d4 : (eDat (fLst (aCons (eC (.str "behindx(0,1)")) (aCons (eC (.str "besideq")) (aCons (eC (.str "behind(0,beside(1,2),3)")) (aCons (eC (.str "behind(0,1)2")) (aCons (eC (.str "behind(0,1)behind")) aNil))))))) (G (some (.loc M2.length)) none) M3 = .ok (.d (.list (odA4.map PyData.str))) M3 := by
    have k : 0 + 1 + 1 + 1 + 1 + 1 ≤ sizeLine := by omega
    rw [u_eDat, u_fLst]
    simp only [u_aCons, u_eC, Res.bind_ok, u_aNil, List.length_cons, List.length_nil, if_pos k]
    rfl
  have t4 := more_ev (q := 10) (g10 _ none) h3 d4 (by decide)
  rw [gs] at t4
  obtain ⟨M4, hM4⟩ : ∃ N, N = M3 ++ [lstS (odA0 ++ odA1 ++ odA2 ++ odA3 ++ odA4)] := ⟨_, rfl⟩
  rw [← hM4] at t4
  have h4 : M4[M3.length]? = some (lstS (odA0 ++ odA1 ++ odA2 ++ odA3 ++ odA4)) := by rw [hM4]; exact app_get
  have d5 : (eDat (fLst (aCons (eC (.str "behind(behind(0,1),2)")) aNil))) (G (some (.loc M3.length)) none) M4 = .ok (.d (.list (odA5.map PyData.str))) M4 := by
    have k : 0 + 1 ≤ sizeLine := by omega
    rw [u_eDat, u_fLst]
    simp only [u_aCons, u_eC, Res.bind_ok, u_aNil, List.length_cons, List.length_nil, if_pos k]
    rfl
  have t5 := more_ev (q := 10) (g10 _ none) h4 d5 (by decide)
  rw [gs] at t5
  obtain ⟨M5, hM5⟩ : ∃ N, N = M4 ++ [lstS (odA0 ++ odA1 ++ odA2 ++ odA3 ++ odA4 ++ odA5)] := ⟨_, rfl⟩
  rw [← hM5] at t5
  have h5 : M5[M4.length]? = some (lstS (odA0 ++ odA1 ++ odA2 ++ odA3 ++ odA4 ++ odA5)) := by rw [hM5]; exact app_get
  have ta := app_ev (q := 10) (g10 (some (.loc M4.length)) none) h5 (f := (eC (.str "beside(0,beside(1,2))\n"))) (y := "beside(0,beside(1,2))\n") (by rw [u_eC]) (by decide)
  obtain ⟨N, hN⟩ : ∃ N, N = M5.set M4.length (lstS (odA0 ++ odA1 ++ odA2 ++ odA3 ++ odA4 ++ odA5 ++ (["beside(0,beside(1,2))\n"] : List Str))) := ⟨_, rfl⟩
  rw [← hN] at ta
  have hb : N[M4.length]? = some (lstS odB) := by
    rw [hN, List.getElem?_set_self (get_lt h5)]
    rfl
  have sr : (srcV (eDat (fLst (aCons (eC (.int 39)) (aCons (eC (.int 40)) (aCons (eC (.int 41)) aNil)))))) (G (some (.loc M4.length)) none) N = .ok ([Va.d (.int ((39 : Nat) : Int)), .d (.int ((40 : Nat) : Int)), .d (.int ((41 : Nat) : Int))], none) N := by
    have k : 0 + 1 + 1 + 1 ≤ sizeLine := by omega
    rw [u_srcV, u_eDat, u_fLst]
    simp only [u_aCons, u_eC, Res.bind_ok, u_aNil, List.length_cons, List.length_nil, if_pos k]
    rfl
  have b5 : ∀ (m k : Nat) (K : LH) (xs : List Str) (z : Option Va), K[m]? = some (lstS xs) → 2 ≤ k ∧ k ≤ 100 → xs.length ≤ 900 → ∃ L', b_law_k57_5 (G (some (.loc m)) (some (.d (.int (k : Int))))) K = .nx (G (some (.loc K.length)) (some (.d (.int (k : Int))))) L' ∧ L'[K.length]? = some (lstS (xs ++ odL k ++ odM k)) := fun m k K xs z hm hk hz => by
    have := k57_b5 (gl (some (.loc m)) (some (.d (.int (k : Int))))) (g10 _ _) (by rw [hG, hE]; rfl) hm hk hz
    rw [gs] at this
    exact this
  obtain ⟨L1, e1, f1⟩ := b5 M4.length 39 N odB none hb (by omega) (by decide)
  obtain ⟨L2, e2, f2⟩ := b5 _ 40 L1 _ none f1 (by omega) (by decide)
  obtain ⟨L3, e3, f3⟩ := b5 _ 41 L2 _ none f2 (by omega) (by decide)
  have lp5 : forL (tN 11) b_law_k57_5 [Va.d (.int ((39 : Nat) : Int)), .d (.int ((40 : Nat) : Int)), .d (.int ((41 : Nat) : Int))] (G (some (.loc M4.length)) none) N = .nx (G (some (.loc L2.length)) (some (.d (.int ((41 : Nat) : Int))))) L3 := by
    simp only [forL, u_tN, gt, e1, e2, e3]
  have fin := odds_run (F := F_l_both_v3) (q := 10) (v := 5) (n := L2.length) (env := G (some (.loc L2.length)) (some (.d (.int ((41 : Nat) : Int))))) (L := L3) (xs := odAll) f3 (by decide) (by rw [gl]; omega) (g10 _ _) (fun x hx K => both9_run x (odAll_len x hx) K)
  refine ⟨[], fn_out (L' := L3) (w := .d (.bool true)) rfl ?_ (settle_d _ _ _ _) (outV_nil _ _)⟩
  show b_law_k57 [some (.scr ns), none, none, none, none, none, none, none, none, none, none, none] [] = _
  refine seq_nx (for_nx src lp) ?_
  have q1 : [some (.scr ns), c1, c2, c3, c4, c5, c6, c7, none, none, none, none] = E c5 none none none none := by rw [hE]
  have q2 : E y5 (some (.d (.str wideS))) (some (.d (.str deepS))) none none = G none none := by rw [hG]
  rw [q1]
  refine seq_nx s1 (seq_nx s2 (seq_nx s3 ?_))
  rw [q2]
  refine seq_nx (t0.trans (by rw [← hM0])) (seq_nx t1 (seq_nx t2 (seq_nx t3 (seq_nx t4 (seq_nx t5 (seq_nx ta (seq_nx (for_nx sr lp5) ?_)))))))
  rw [u_sRet, fin]
  rfl
end L2.HW
set_option maxHeartbeats 0
open PySem PySem.W PySem.Calls PyProof.Rows
theorem PySem.Challenge.cw_hastyways_k57_trees_written_holds : PySem.Challenge.rw_hastyways_k57_trees_written.Holds := by
  w_on; o_law
  refine HandSHeadRun.head_any (r := OpenLaw.row PySem.Challenge.rw_hastyways_k57_trees_written) (q := view (OpenLaw.row PySem.Challenge.rw_hastyways_k57_trees_written).prog [38]) (H := L2.HW.R_k57.hk) (ob := L2.HW.R_k57.ob) (M := 8000) (loose := L2.HW.R_k57.loo) (d := HandSHeadRun.topDef (OpenLaw.row PySem.Challenge.rw_hastyways_k57_trees_written).prog 38) (kwd := []) L2.HW.R_k57.ob_eq
    (by kernel_rfl) (fun s => by kernel_rfl) L2.HW.R_k57.run (by kernel_rfl) (by kernel_rfl) (by kernel_rfl) (by rfl) (by first | assumption | decide +kernel) (by decide +kernel) ⟨rfl, rfl, rfl, rfl, rfl, by decide +kernel⟩ ?hw ?hc
  case hw => w_witness2
  case hc =>
    refine L2.HW.walk_hw (l := PySem.Challenge.rw_hastyways_k57_trees_written) (n := 63) (k := 74) (x := "_law_script") (Fl := L2.HW.F_law_k57) rfl (by decide) (by kernel_rfl) ⟨rfl, by decide, by decide⟩ L2.HW.law_k57 ?F
    intro w mg fa h Y G hmg0
    obtain ⟨K, KX, c, cE⟩ := Y
    have hmg : mg ("law" : PySem.Str) = some (.ref fa) := by
      have e : (HandSHeadRun.topDef (OpenLaw.row PySem.Challenge.rw_hastyways_k57_trees_written).prog 38).name = ("law" : PySem.Str) := by kernel_rfl
      rw [← e]
      exact hmg0
    exact L2.HW.law_end (fun base => L2.HW.R_k57.facts KX G c cE) hmg KX
