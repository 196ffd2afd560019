/- CircLoses: a part of the proof of the given statement, which is proved without conditions. -/
import Derived.Test.YtdahfgialanmpaaGreatDoorW5
import Derived.KernelRfl
import Derived.Test.YtdahfgialanmpaaGreatDoorProg
import Derived.Laws.BitsLemmas
set_option linter.all false
namespace Go.Proofs.YtdahfgialanmpaaGreatDoor
set_option maxRecDepth 100000
open Ev
open Go (IntKind)
open Go
noncomputable abbrev ZP:=Tryz.prog
theorem zags:fnB ZP 19 Tryz.f19 [4,9,14]=true:=by kernel_rfl
theorem zaga:CG ZP sg @zap0:=cg0
theorem zavj:zaf ZP sg 0 Tryz.f19 @zjb 4:=zas z8w good Tryz.func19 zags zaga zaa (fun a=>by kernel_rfl) (by kernel_rfl) (fun _ _=>rfl)
theorem zavk:zaf ZP sg 0 Tryz.f19 @zjb 9:=zas z8x good Tryz.func19 zags zaga zaa (fun a=>by kernel_rfl) (by kernel_rfl) (fun _ _=>rfl)
theorem zah2:zaf ZP sg 0 Tryz.f19 @zjb 14:=zas zzl good Tryz.func19 zags zaga zaa (fun a=>by kernel_rfl) (by kernel_rfl) (fun _ _=>rfl)
theorem za2f:SG ZP sg 19 @za5l:=conD (loops:=zjb) good Tryz.func19 zags (by kernel_rfl) zaga (all_cons zavj (all_cons zavk (all_cons zah2 zaa))) (fun a=>by kernel_rfl)
theorem zvc:SG ZP sg 258 @zw8:=conE good Tryz.func258 (by kernel_rfl) (by kernel_rfl) cg0 (fun a=>by kernel_rfl)
theorem zamb:fnB ZP 174 Tryz.f174 [2]=true:=by kernel_rfl
theorem zaks:CG ZP sg @zafe:=(cgc zvc cg0)
theorem zahp:zaf ZP sg 0 Tryz.f174 @ztb 2:=zas zy8 good Tryz.func174 zamb zaks zaa (fun a=>by kernel_rfl) (by kernel_rfl) (fun _ _=>rfl)
theorem z6k:SG ZP sg 174 @zw4:=conD (loops:=ztb) good Tryz.func174 zamb (by kernel_rfl) zaks (all_cons zahp zaa) (fun a=>by kernel_rfl)
theorem za2j:SG ZP sg 259 @zao8:=conE good Tryz.func259 (by kernel_rfl) (by kernel_rfl) (cgc zvc cg0) (fun a=>by kernel_rfl)
theorem zara:SG ZP sg 260 @zabr:=conE good Tryz.func260 (by kernel_rfl) (by kernel_rfl) cg0 (fun a=>by kernel_rfl)
theorem zamc:fnB ZP 175 Tryz.f175 [4]=true:=by kernel_rfl
theorem zak5:CG ZP sg @zafr:=(cgc zvc (cgc za2j (cgc zara cg0)))
theorem zah3:zaf ZP sg 0 Tryz.f175 @zto 4:=zas zzm good Tryz.func175 zamc zak5 zaa (fun a=>by kernel_rfl) (by kernel_rfl) (fun _ _=>rfl)
theorem zarn:SG ZP sg 175 @zaby:=conD (loops:=zto) good Tryz.func175 zamc (by kernel_rfl) zak5 (all_cons zah3 zaa) (fun a=>by kernel_rfl)
theorem za3c:fnB ZP 68 Tryz.f68 [4]=true:=by kernel_rfl
theorem zaky:CG ZP sg @zafk:=(cgc z6k (cgc zarn cg0))
theorem zahv:zaf ZP sg 0 Tryz.f68 @zth 4:=zas zze good Tryz.func68 za3c zaky zaa (fun a=>by kernel_rfl) (by kernel_rfl) (fun _ _=>rfl)
theorem zare:SG ZP sg 68 @zabw:=conD (loops:=zth) good Tryz.func68 za3c (by kernel_rfl) zaky (all_cons zahv zaa) (fun a=>by kernel_rfl)
theorem za3d:fnB ZP 69 Tryz.f69 [4]=true:=by kernel_rfl
theorem zakx:CG ZP sg @zafj:=cg0
theorem zahu:zaf ZP sg 0 Tryz.f69 @ztg 4:=zas zzd good Tryz.func69 za3d zakx zaa (fun a=>by kernel_rfl) (by kernel_rfl) (fun _ _=>rfl)
theorem zard:SG ZP sg 69 @zabv:=conD (loops:=ztg) good Tryz.func69 za3d (by kernel_rfl) zakx (all_cons zahu zaa) (fun a=>by kernel_rfl)
theorem z7d:SG ZP sg 261 @zacs:=conE good Tryz.func261 (by kernel_rfl) (by kernel_rfl) cg0 (fun a=>by kernel_rfl)
theorem z7j:SG ZP sg 262 @zac7:=conE good Tryz.func262 (by kernel_rfl) (by kernel_rfl) cg0 (fun a=>by kernel_rfl)
theorem zasf:SG ZP sg 176 @zacq:=conE good Tryz.func176 (by kernel_rfl) (by kernel_rfl) (cgc z7d (cgc z7j cg0)) (fun a=>by kernel_rfl)
theorem zagw:fnB ZP 70 Tryz.f70 [4,12,15]=true:=by kernel_rfl
theorem zagc:CG ZP sg @zaqa:=(cgc zasf cg0)
theorem zavv:zaf ZP sg 0 Tryz.f70 @zjd 4:=zas z9a good Tryz.func70 zagw zagc zaa (fun a=>by kernel_rfl) (by kernel_rfl) (fun _ _=>rfl)
theorem z0j:zaf ZP sg 0 Tryz.f70 @zjd 15:=zas z0d good Tryz.func70 zagw zagc zaa (fun a=>by kernel_rfl) (by kernel_rfl) (fun _ _=>rfl)
theorem zait:zaf ZP sg 0 Tryz.f70 @zjd 12:=zas z0c good Tryz.func70 zagw zagc (all_cons z0j zaa) (fun a=>by kernel_rfl) (by kernel_rfl) (fun _ _=>rfl)
theorem za2o:SG ZP sg 70 @zapc:=conD (loops:=zjd) good Tryz.func70 zagw (by kernel_rfl) zagc (all_cons zavv (all_cons zait (all_cons z0j zaa))) (fun a=>by kernel_rfl)
theorem zaub:SG ZP sg 177 @zadu:=conE good Tryz.func177 (by kernel_rfl) (by kernel_rfl) cg0 (fun a=>by kernel_rfl)
theorem za3e:fnB ZP 71 Tryz.f71 [4]=true:=by kernel_rfl
theorem zakv:CG ZP sg @zafh:=(cgc zaub cg0)
theorem zahs:zaf ZP sg 0 Tryz.f71 @zte 4:=zas zzb good Tryz.func71 za3e zakv zaa (fun a=>by kernel_rfl) (by kernel_rfl) (fun _ _=>rfl)
theorem z6m:SG ZP sg 71 @zw5:=conD (loops:=zte) good Tryz.func71 za3e (by kernel_rfl) zakv (all_cons zahs zaa) (fun a=>by kernel_rfl)
theorem zart:SG ZP sg 263 @zax3:=conE good Tryz.func263 (by kernel_rfl) (by kernel_rfl) cg0 (fun a=>by kernel_rfl)
theorem zar3:SG ZP sg 178 @zacc:=conE good Tryz.func178 (by kernel_rfl) (by kernel_rfl) (cgc zart cg0) (fun a=>by kernel_rfl)
theorem zau0:fnB ZP 72 Tryz.f72 [4,9]=true:=by kernel_rfl
theorem zaqm:CG ZP sg @zap8:=(cgc zar3 cg0)
theorem z9y:zaf ZP sg 0 Tryz.f72 @zqp 9:=zas z88 good Tryz.func72 zau0 zaqm zaa (fun a=>by kernel_rfl) (by kernel_rfl) (fun _ _=>rfl)
theorem zavt:zaf ZP sg 0 Tryz.f72 @zqp 4:=zas z87 good Tryz.func72 zau0 zaqm (all_cons z9y zaa) (fun a=>by kernel_rfl) (by kernel_rfl) (fun _ _=>rfl)
theorem za2m:SG ZP sg 72 @zapb:=conD (loops:=zqp) good Tryz.func72 zau0 (by kernel_rfl) zaqm (all_cons zavt (all_cons z9y zaa)) (fun a=>by kernel_rfl)
theorem zau1:fnB ZP 73 Tryz.f73 [6,11]=true:=by kernel_rfl
theorem zaqk:CG ZP sg @zapx:=cg0
theorem zavh:zaf ZP sg 0 Tryz.f73 @zqn 6:=zas z8u good Tryz.func73 zau1 zaqk zaa (fun a=>by kernel_rfl) (by kernel_rfl) (fun _ _=>rfl)
theorem zag4:zaf ZP sg 0 Tryz.f73 @zqn 11:=zas zym good Tryz.func73 zau1 zaqk zaa (fun a=>by kernel_rfl) (by kernel_rfl) (fun _ _=>rfl)
theorem za2d:SG ZP sg 73 @zao5:=conD (loops:=zqn) good Tryz.func73 zau1 (by kernel_rfl) zaqk (all_cons zavh (all_cons zag4 zaa)) (fun a=>by kernel_rfl)
theorem zamd:fnB ZP 179 Tryz.f179 [2]=true:=by kernel_rfl
theorem zakk:CG ZP sg @zaex:=cg0
theorem zag8:zaf ZP sg 0 Tryz.f179 @zs3 2:=zas zyq good Tryz.func179 zamd zakk zaa (fun a=>by kernel_rfl) (by kernel_rfl) (fun _ _=>rfl)
theorem zaqv:SG ZP sg 179 @zaw7:=conD (loops:=zs3) good Tryz.func179 zamd (by kernel_rfl) zakk (all_cons zag8 zaa) (fun a=>by kernel_rfl)
theorem zpn:SG ZP sg 74 @zq4:=conE good Tryz.func74 (by kernel_rfl) (by kernel_rfl) (cgc zaqv cg0) (fun a=>by kernel_rfl)
theorem zasg:SG ZP sg 85 @zacr:=conE good Tryz.func85 (by kernel_rfl) (by kernel_rfl) cg0 (fun a=>by kernel_rfl)
theorem zaui:SG ZP sg 306 @zaz9:=conE good Tryz.func306 (by kernel_rfl) (by kernel_rfl) cg0 (fun a=>by kernel_rfl)
theorem zash:SG ZP sg 275 @zayv:=conE good Tryz.func275 (by kernel_rfl) (by kernel_rfl) (cgc zaui cg0) (fun a=>by kernel_rfl)
theorem zas0:SG ZP sg 276 @zaza:=conE good Tryz.func276 (by kernel_rfl) (by kernel_rfl) cg0 (fun a=>by kernel_rfl)
theorem zass:SG ZP sg 307 @zac5:=conE good Tryz.func307 (by kernel_rfl) (by kernel_rfl) cg0 (fun a=>by kernel_rfl)
theorem zamr:fnB ZP 277 Tryz.f277 [3]=true:=by kernel_rfl
theorem zakw:CG ZP sg @zafi:=(cgc zass cg0)
theorem zaht:zaf ZP sg 0 Tryz.f277 @ztf 3:=zas zzc good Tryz.func277 zamr zakw zaa (fun a=>by kernel_rfl) (by kernel_rfl) (fun _ _=>rfl)
theorem zarc:SG ZP sg 277 @zaxl:=conD (loops:=ztf) good Tryz.func277 zamr (by kernel_rfl) zakw (all_cons zaht zaa) (fun a=>by kernel_rfl)
theorem zast:SG ZP sg 278 @zay3:=conE good Tryz.func278 (by kernel_rfl) (by kernel_rfl) cg0 (fun a=>by kernel_rfl)
theorem zatr:SG ZP sg 279 @zazt:=conE good Tryz.func279 (by kernel_rfl) (by kernel_rfl) cg0 (fun a=>by kernel_rfl)
theorem z68:SG ZP sg 200 @zxb:=conE good Tryz.func200 (by kernel_rfl) (by kernel_rfl) (cgc zash (cgc zas0 (cgc zarc (cgc zast (cgc zatr cg0))))) (fun a=>by kernel_rfl)
theorem zame:fnB ZP 180 Tryz.f180 [5]=true:=by kernel_rfl
theorem zaku:CG ZP sg @zafg:=(cgc zasg (cgc z68 cg0))
theorem zahr:zaf ZP sg 0 Tryz.f180 @ztd 5:=zas zza good Tryz.func180 zame zaku zaa (fun a=>by kernel_rfl) (by kernel_rfl) (fun _ _=>rfl)
theorem zarb:SG ZP sg 180 @zabt:=conD (loops:=ztd) good Tryz.func180 zame (by kernel_rfl) zaku (all_cons zahr zaa) (fun a=>by kernel_rfl)
theorem za3f:fnB ZP 84 Tryz.f84 [2]=true:=by kernel_rfl
theorem za13:CG ZP sg @zap4:=cg0
theorem zavo:zaf ZP sg 0 Tryz.f84 @z0p 2:=zas z82 good Tryz.func84 za3f za13 zaa (fun a=>by kernel_rfl) (by kernel_rfl) (fun _ _=>rfl)
theorem zfz:SG ZP sg 84 @zo3:=conD (loops:=z0p) good Tryz.func84 za3f (by kernel_rfl) za13 (all_cons zavo zaa) (fun a=>by kernel_rfl)
theorem zau2:fnB ZP 75 Tryz.f75 [4,15]=true:=by kernel_rfl
theorem z5z:CG ZP sg @zae6:=(cgc zfz (cgc z6k (cgc zarb cg0)))
theorem zahh:zaf ZP sg 0 Tryz.f75 @zk6 4:=zas zy0 good Tryz.func75 zau2 z5z zaa (fun a=>by kernel_rfl) (by kernel_rfl) (fun _ _=>rfl)
theorem z9q:zaf ZP sg 0 Tryz.f75 @zk6 15:=zas zsp good Tryz.func75 zau2 z5z zaa (fun a=>by kernel_rfl) (by kernel_rfl) (fun _ _=>rfl)
theorem zaq2:SG ZP sg 75 @zabo:=conD (loops:=zk6) good Tryz.func75 zau2 (by kernel_rfl) z5z (all_cons zahh (all_cons z9q zaa)) (fun a=>by kernel_rfl)
theorem zatl:SG ZP sg 111 @zadj:=conE good Tryz.func111 (by kernel_rfl) (by kernel_rfl) cg0 (fun a=>by kernel_rfl)
theorem zamg:fnB ZP 201 Tryz.f201 [2]=true:=by kernel_rfl
theorem zakr:CG ZP sg @zafd:=cg0
theorem zaho:zaf ZP sg 0 Tryz.f201 @zta 2:=zas zy7 good Tryz.func201 zamg zakr zaa (fun a=>by kernel_rfl) (by kernel_rfl) (fun _ _=>rfl)
theorem z6i:SG ZP sg 201 @zaxj:=conD (loops:=zta) good Tryz.func201 zamg (by kernel_rfl) zakr (all_cons zaho zaa) (fun a=>by kernel_rfl)
theorem zas4:SG ZP sg 122 @zada:=conE good Tryz.func122 (by kernel_rfl) (by kernel_rfl) (cgc z6i cg0) (fun a=>by kernel_rfl)
theorem zau3:fnB ZP 76 Tryz.f76 [2,10]=true:=by kernel_rfl
theorem z5y:CG ZP sg @zae5:=(cgc zpn (cgc zfz (cgc zatl (cgc zas4 cg0))))
theorem zahg:zaf ZP sg 0 Tryz.f76 @zk5 2:=zas zyz good Tryz.func76 zau3 z5y zaa (fun a=>by kernel_rfl) (by kernel_rfl) (fun _ _=>rfl)
theorem z9p:zaf ZP sg 0 Tryz.f76 @zk5 10:=zas zso good Tryz.func76 zau3 z5y zaa (fun a=>by kernel_rfl) (by kernel_rfl) (fun _ _=>rfl)
theorem zaq1:SG ZP sg 76 @zabn:=conD (loops:=zk5) good Tryz.func76 zau3 (by kernel_rfl) z5y (all_cons zahg (all_cons z9p zaa)) (fun a=>by kernel_rfl)
theorem zalw:fnB ZP 105 Tryz.f105 [2]=true:=by kernel_rfl
theorem zakt:CG ZP sg @zaff:=cg0
theorem zahq:zaf ZP sg 0 Tryz.f105 @ztc 2:=zas zy9 good Tryz.func105 zalw zakt zaa (fun a=>by kernel_rfl) (by kernel_rfl) (fun _ _=>rfl)
theorem z6l:SG ZP sg 105 @zabs:=conD (loops:=ztc) good Tryz.func105 zalw (by kernel_rfl) zakt (all_cons zahq zaa) (fun a=>by kernel_rfl)
theorem zau4:fnB ZP 77 Tryz.f77 [2,18]=true:=by kernel_rfl
theorem z50:CG ZP sg @zae7:=(cgc zpn (cgc zfz (cgc z6l cg0)))
theorem zahi:zaf ZP sg 0 Tryz.f77 @zk7 2:=zas zy1 good Tryz.func77 zau4 z50 zaa (fun a=>by kernel_rfl) (by kernel_rfl) (fun _ _=>rfl)
theorem z9r:zaf ZP sg 0 Tryz.f77 @zk7 18:=zas zsq good Tryz.func77 zau4 z50 zaa (fun a=>by kernel_rfl) (by kernel_rfl) (fun _ _=>rfl)
theorem zaq3:SG ZP sg 77 @zabp:=conD (loops:=zk7) good Tryz.func77 zau4 (by kernel_rfl) z50 (all_cons zahi (all_cons z9r zaa)) (fun a=>by kernel_rfl)
theorem zauw:fnB ZP 21 Tryz.f21 [6,11]=true:=by kernel_rfl
theorem z56:CG ZP sg @zafc:=(cgc zare (cgc zard (cgc za2o (cgc z6m (cgc za2m (cgc za2d (cgc zpn (cgc zaq2 (cgc zaq1 (cgc zaq3 cg0))))))))))
theorem zahn:zaf ZP sg 0 Tryz.f21 @zlc 6:=zas zy6 good Tryz.func21 zauw z56 zaa (fun a=>by kernel_rfl) (by kernel_rfl) (fun _ _=>rfl)
theorem z9w:zaf ZP sg 0 Tryz.f21 @zlc 11:=zas zsv good Tryz.func21 zauw z56 zaa (fun a=>by kernel_rfl) (by kernel_rfl) (fun _ _=>rfl)
theorem zaq9:SG ZP sg 21 @zaxi:=conD (loops:=zlc) good Tryz.func21 zauw (by kernel_rfl) z56 (all_cons zahn (all_cons z9w zaa)) (fun a=>by kernel_rfl)
theorem zats:SG ZP sg 22 @zazu:=conE good Tryz.func22 (by kernel_rfl) (by kernel_rfl) (cgc za2f (cgc zaq9 cg0)) (fun a=>by kernel_rfl)
theorem zatj:SG ZP sg 17 @zazl:=conE good Tryz.func17 (by kernel_rfl) (by kernel_rfl) cg0 (fun a=>by kernel_rfl)
theorem zasq:SG ZP sg 181 @zac3:=conE good Tryz.func181 (by kernel_rfl) (by kernel_rfl) cg0 (fun a=>by kernel_rfl)
theorem zsb:fnB ZP 80 Tryz.f80 [2]=true:=by kernel_rfl
theorem za12:CG ZP sg @zap1:=(cgc zasq cg0)
theorem zavl:zaf ZP sg 0 Tryz.f80 @z0o 2:=zas z8y good Tryz.func80 zsb za12 zaa (fun a=>by kernel_rfl) (by kernel_rfl) (fun _ _=>rfl)
theorem za2g:SG ZP sg 80 @za5m:=conD (loops:=z0o) good Tryz.func80 zsb (by kernel_rfl) za12 (all_cons zavl zaa) (fun a=>by kernel_rfl)
theorem zg0:SG ZP sg 78 @zmg:=conE good Tryz.func78 (by kernel_rfl) (by kernel_rfl) (cgc za2g cg0) (fun a=>by kernel_rfl)
theorem z7o:SG ZP sg 79 @zade:=conE good Tryz.func79 (by kernel_rfl) (by kernel_rfl) cg0 (fun a=>by kernel_rfl)
theorem zar2:SG ZP sg 81 @zacb:=conE good Tryz.func81 (by kernel_rfl) (by kernel_rfl) cg0 (fun a=>by kernel_rfl)
theorem zyb:CG ZP sg @z1o:=(cgc zar2 cg0)
theorem z2x:zaf ZP sg 0 Tryz.f80 @zld 2:=zas zn1 good Tryz.func80 zsb zyb zaa (fun a=>by kernel_rfl) (by kernel_rfl) (fun _ _=>rfl)
theorem z63:SG ZP sg 80 @zacd:=conD (loops:=zld) good Tryz.func80 zsb (by kernel_rfl) zyb (all_cons z2x zaa) (fun a=>by kernel_rfl)
theorem z69:SG ZP sg 83 @zayp:=conS (loops:=l0) (ids:=[]) good Tryz.func83 (by kernel_rfl) (by kernel_rfl) cg0 zaa (fun a=>by kernel_rfl) (by kernel_rfl)
theorem zpm:SG ZP sg 62 @zach:=conE good Tryz.func62 (by kernel_rfl) (by kernel_rfl) cg0 (fun a=>by kernel_rfl)
theorem zatd:SG ZP sg 166 @zadd:=conE good Tryz.func166 (by kernel_rfl) (by kernel_rfl) (cgc zpm (cgc (sgP z7g) cg0)) (fun a=>by kernel_rfl)
theorem zpk:SG ZP sg 162 @zab5:=conE good Tryz.func162 (by kernel_rfl) (by kernel_rfl) cg0 (fun a=>by kernel_rfl)
theorem zaug:SG ZP sg 238 @zaz7:=conE good Tryz.func238 (by kernel_rfl) (by kernel_rfl) (cgc zpk cg0) (fun a=>by kernel_rfl)
theorem zauf:SG ZP sg 239 @zaz6:=conE good Tryz.func239 (by kernel_rfl) (by kernel_rfl) (cgc zpk cg0) (fun a=>by kernel_rfl)
theorem z62:SG ZP sg 241 @zaye:=conE good Tryz.func241 (by kernel_rfl) (by kernel_rfl) cg0 (fun a=>by kernel_rfl)
theorem zauj:SG ZP sg 240 @za0a:=conE good Tryz.func240 (by kernel_rfl) (by kernel_rfl) (cgc z62 cg0) (fun a=>by kernel_rfl)
theorem z7p:SG ZP sg 163 @zadf:=conE good Tryz.func163 (by kernel_rfl) (by kernel_rfl) (cgc zpk (cgc zaug (cgc zauf (cgc zauj (cgc z62 cg0))))) (fun a=>by kernel_rfl)
theorem za3a:fnB ZP 58 Tryz.f58 [5]=true:=by kernel_rfl
theorem zalj:CG ZP sg @zaf5:=(cgc z7o (cgc zpk (cgc z7p cg0)))
theorem zaih:zaf ZP sg 0 Tryz.f58 @zt2 5:=zas zz0 good Tryz.func58 za3a zalj zaa (fun a=>by kernel_rfl) (by kernel_rfl) (fun _ _=>rfl)
theorem zarv:SG ZP sg 58 @zab4:=conD (loops:=zt2) good Tryz.func58 za3a (by kernel_rfl) zalj (all_cons zaih zaa) (fun a=>by kernel_rfl)
theorem zagt:fnB ZP 63 Tryz.f63 [4,10,16]=true:=by kernel_rfl
theorem zagf:CG ZP sg @zaqf:=(cgc zarv (cgc zg0 (cgc zatd cg0)))
theorem zav1:zaf ZP sg 0 Tryz.f63 @zjg 4:=zas z9i good Tryz.func63 zagt zagf zaa (fun a=>by kernel_rfl) (by kernel_rfl) (fun _ _=>rfl)
theorem zaiw:zaf ZP sg 0 Tryz.f63 @zjg 10:=zas z0g good Tryz.func63 zagt zagf zaa (fun a=>by kernel_rfl) (by kernel_rfl) (fun _ _=>rfl)
theorem zaix:zaf ZP sg 0 Tryz.f63 @zjg 16:=zas z0h good Tryz.func63 zagt zagf zaa (fun a=>by kernel_rfl) (by kernel_rfl) (fun _ _=>rfl)
theorem za2u:SG ZP sg 63 @za5w:=conD (loops:=zjg) good Tryz.func63 zagt (by kernel_rfl) zagf (all_cons zav1 (all_cons zaiw (all_cons zaix zaa))) (fun a=>by kernel_rfl)
theorem zar4:SG ZP sg 245 @zacf:=conE good Tryz.func245 (by kernel_rfl) (by kernel_rfl) (cgc (sgP z7g) (cgc (sgP zath) cg0)) (fun a=>by kernel_rfl)
theorem zal5:fnB ZP 167 Tryz.f167 [5]=true:=by kernel_rfl
theorem zala:CG ZP sg @zafw:=(cgc zar4 cg0)
theorem zah8:zaf ZP sg 0 Tryz.f167 @ztt 5:=zas zzr good Tryz.func167 zal5 zala zaa (fun a=>by kernel_rfl) (by kernel_rfl) (fun _ _=>rfl)
theorem z6s:SG ZP sg 167 @zabz:=conD (loops:=ztt) good Tryz.func167 zal5 (by kernel_rfl) zala (all_cons zah8 zaa) (fun a=>by kernel_rfl)
theorem zatw:SG ZP sg 246 @zadk:=conE good Tryz.func246 (by kernel_rfl) (by kernel_rfl) cg0 (fun a=>by kernel_rfl)
theorem z7m:SG ZP sg 219 @zadb:=conE good Tryz.func219 (by kernel_rfl) (by kernel_rfl) cg0 (fun a=>by kernel_rfl)
theorem zal6:fnB ZP 168 Tryz.f168 [4]=true:=by kernel_rfl
theorem zalb:CG ZP sg @zafx:=(cgc z7m (cgc zatw cg0))
theorem zah9:zaf ZP sg 0 Tryz.f168 @ztu 4:=zas zzs good Tryz.func168 zal6 zalb zaa (fun a=>by kernel_rfl) (by kernel_rfl) (fun _ _=>rfl)
theorem z6t:SG ZP sg 168 @zab0:=conD (loops:=ztu) good Tryz.func168 zal6 (by kernel_rfl) zalb (all_cons zah9 zaa) (fun a=>by kernel_rfl)
theorem zve:SG ZP sg 284 @zayi:=conE good Tryz.func284 (by kernel_rfl) (by kernel_rfl) cg0 (fun a=>by kernel_rfl)
theorem zas2:SG ZP sg 298 @zazb:=conE good Tryz.func298 (by kernel_rfl) (by kernel_rfl) (cgc zve cg0) (fun a=>by kernel_rfl)
theorem zat6:SG ZP sg 247 @zadq:=conE good Tryz.func247 (by kernel_rfl) (by kernel_rfl) (cgc zve (cgc zas2 cg0)) (fun a=>by kernel_rfl)
theorem zasa:SG ZP sg 249 @zacm:=conE good Tryz.func249 (by kernel_rfl) (by kernel_rfl) cg0 (fun a=>by kernel_rfl)
theorem znp:fnB ZP 248 Tryz.f248 [2,5]=true:=by kernel_rfl
theorem zaql:CG ZP sg @zap3:=(cgc zasa cg0)
theorem z9x:zaf ZP sg 0 Tryz.f248 @zqo 5:=zas z81 good Tryz.func248 znp zaql zaa (fun a=>by kernel_rfl) (by kernel_rfl) (fun _ _=>rfl)
theorem zavn:zaf ZP sg 0 Tryz.f248 @zqo 2:=zas z80 good Tryz.func248 znp zaql (all_cons z9x zaa) (fun a=>by kernel_rfl) (by kernel_rfl) (fun _ _=>rfl)
theorem za2i:SG ZP sg 248 @zao7:=conD (loops:=zqo) good Tryz.func248 znp (by kernel_rfl) zaql (all_cons zavn (all_cons z9x zaa)) (fun a=>by kernel_rfl)
theorem zase:SG ZP sg 250 @zacp:=conE good Tryz.func250 (by kernel_rfl) (by kernel_rfl) cg0 (fun a=>by kernel_rfl)
theorem zpg:CG ZP sg @z1r:=(cgc zase cg0)
theorem zn9:zaf ZP sg 0 Tryz.f248 @zg4 5:=zas zn5 good Tryz.func248 znp zpg zaa (fun a=>by kernel_rfl) (by kernel_rfl) (fun _ _=>rfl)
theorem z22:zaf ZP sg 0 Tryz.f248 @zg4 2:=zas zn4 good Tryz.func248 znp zpg (all_cons zn9 zaa) (fun a=>by kernel_rfl) (by kernel_rfl) (fun _ _=>rfl)
theorem z7l:SG ZP sg 248 @zup:=conD (loops:=zg4) good Tryz.func248 znp (by kernel_rfl) zpg (all_cons z22 (all_cons zn9 zaa)) (fun a=>by kernel_rfl)
theorem zal7:fnB ZP 169 Tryz.f169 [4]=true:=by kernel_rfl
theorem za15:CG ZP sg @zap7:=(cgc zat6 (cgc (sgi za2i (sgi z7l sg0)) cg0))
theorem zavs:zaf ZP sg 0 Tryz.f169 @z0r 4:=zas z86 good Tryz.func169 zal7 za15 zaa (fun a=>by kernel_rfl) (by kernel_rfl) (fun _ _=>rfl)
theorem zalp:SG ZP sg 169 @zapa:=conD (loops:=z0r) good Tryz.func169 zal7 (by kernel_rfl) za15 (all_cons zavs zaa) (fun a=>by kernel_rfl)
theorem zat2:SG ZP sg 299 @zaz0:=conE good Tryz.func299 (by kernel_rfl) (by kernel_rfl) cg0 (fun a=>by kernel_rfl)
theorem z7q:SG ZP sg 280 @zazk:=conE good Tryz.func280 (by kernel_rfl) (by kernel_rfl) cg0 (fun a=>by kernel_rfl)
theorem zar7:SG ZP sg 251 @zaci:=conE good Tryz.func251 (by kernel_rfl) (by kernel_rfl) (cgc z7q (cgc zat2 cg0)) (fun a=>by kernel_rfl)
theorem zal8:fnB ZP 170 Tryz.f170 [4]=true:=by kernel_rfl
theorem zalc:CG ZP sg @zafy:=(cgc zar7 cg0)
theorem zaia:zaf ZP sg 0 Tryz.f170 @ztv 4:=zas zzt good Tryz.func170 zal8 zalc zaa (fun a=>by kernel_rfl) (by kernel_rfl) (fun _ _=>rfl)
theorem z6u:SG ZP sg 170 @zab1:=conD (loops:=ztv) good Tryz.func170 zal8 (by kernel_rfl) zalc (all_cons zaia zaa) (fun a=>by kernel_rfl)
theorem z6o:SG ZP sg 268 @zaxr:=conE good Tryz.func268 (by kernel_rfl) (by kernel_rfl) cg0 (fun a=>by kernel_rfl)
theorem zat0:SG ZP sg 252 @zadn:=conE good Tryz.func252 (by kernel_rfl) (by kernel_rfl) (cgc z6o cg0) (fun a=>by kernel_rfl)
theorem z7a:SG ZP sg 253 @zacn:=conE good Tryz.func253 (by kernel_rfl) (by kernel_rfl) cg0 (fun a=>by kernel_rfl)
theorem zamv:fnB ZP 300 Tryz.f300 [2]=true:=by kernel_rfl
theorem zak8:CG ZP sg @zafu:=(cgc z7a cg0)
theorem zah6:zaf ZP sg 0 Tryz.f300 @ztr 2:=zas zzp good Tryz.func300 zamv zak8 zaa (fun a=>by kernel_rfl) (by kernel_rfl) (fun _ _=>rfl)
theorem zaro:SG ZP sg 300 @zaxy:=conD (loops:=ztr) good Tryz.func300 zamv (by kernel_rfl) zak8 (all_cons zah6 zaa) (fun a=>by kernel_rfl)
theorem zatx:SG ZP sg 254 @zadl:=conE good Tryz.func254 (by kernel_rfl) (by kernel_rfl) (cgc z7a (cgc zaro cg0)) (fun a=>by kernel_rfl)
theorem zal9:fnB ZP 171 Tryz.f171 [4]=true:=by kernel_rfl
theorem za2a:CG ZP sg @zaqj:=(cgc zat0 (cgc zatx cg0))
theorem zav5:zaf ZP sg 0 Tryz.f171 @z0w 4:=zas z9n good Tryz.func171 zal9 za2a zaa (fun a=>by kernel_rfl) (by kernel_rfl) (fun _ _=>rfl)
theorem za2y:SG ZP sg 171 @zapg:=conD (loops:=z0w) good Tryz.func171 zal9 (by kernel_rfl) za2a (all_cons zav5 zaa) (fun a=>by kernel_rfl)
theorem zvi:SG ZP sg 257 @zacx:=conE good Tryz.func257 (by kernel_rfl) (by kernel_rfl) cg0 (fun a=>by kernel_rfl)
theorem z7e:SG ZP sg 256 @zacu:=conE good Tryz.func256 (by kernel_rfl) (by kernel_rfl) (cgc zvi cg0) (fun a=>by kernel_rfl)
theorem zamw:fnB ZP 301 Tryz.f301 [2]=true:=by kernel_rfl
theorem zak9:CG ZP sg @zafv:=(cgc z7e cg0)
theorem zah7:zaf ZP sg 0 Tryz.f301 @zts 2:=zas zzq good Tryz.func301 zamw zak9 zaa (fun a=>by kernel_rfl) (by kernel_rfl) (fun _ _=>rfl)
theorem zarp:SG ZP sg 301 @zaxz:=conD (loops:=zts) good Tryz.func301 zamw (by kernel_rfl) zak9 (all_cons zah7 zaa) (fun a=>by kernel_rfl)
theorem zaty:SG ZP sg 255 @zadm:=conE good Tryz.func255 (by kernel_rfl) (by kernel_rfl) (cgc z7e (cgc zarp cg0)) (fun a=>by kernel_rfl)
theorem zama:fnB ZP 172 Tryz.f172 [8]=true:=by kernel_rfl
theorem za19:CG ZP sg @zaqh:=(cgc zaty cg0)
theorem zav3:zaf ZP sg 0 Tryz.f172 @z0v 8:=zas z9k good Tryz.func172 zama za19 zaa (fun a=>by kernel_rfl) (by kernel_rfl) (fun _ _=>rfl)
theorem zalq:SG ZP sg 172 @zape:=conD (loops:=z0v) good Tryz.func172 zama (by kernel_rfl) za19 (all_cons zav3 zaa) (fun a=>by kernel_rfl)
theorem zagu:fnB ZP 64 Tryz.f64 [4,12,18]=true:=by kernel_rfl
theorem zage:CG ZP sg @zaqe:=(cgc zpm (cgc z6s (cgc z6t (cgc zalp (cgc z6u (cgc za2y (cgc zalq cg0)))))))
theorem zav0:zaf ZP sg 0 Tryz.f64 @zjf 4:=zas z9h good Tryz.func64 zagu zage zaa (fun a=>by kernel_rfl) (by kernel_rfl) (fun _ _=>rfl)
theorem zaiu:zaf ZP sg 0 Tryz.f64 @zjf 12:=zas z0e good Tryz.func64 zagu zage zaa (fun a=>by kernel_rfl) (by kernel_rfl) (fun _ _=>rfl)
theorem zaiv:zaf ZP sg 0 Tryz.f64 @zjf 18:=zas z0f good Tryz.func64 zagu zage zaa (fun a=>by kernel_rfl) (by kernel_rfl) (fun _ _=>rfl)
theorem za2t:SG ZP sg 64 @za5v:=conD (loops:=zjf) good Tryz.func64 zagu (by kernel_rfl) zage (all_cons zav0 (all_cons zaiu (all_cons zaiv zaa))) (fun a=>by kernel_rfl)
theorem zasl:SG ZP sg 265 @zacv:=conE good Tryz.func265 (by kernel_rfl) (by kernel_rfl) cg0 (fun a=>by kernel_rfl)
theorem zyj:fnB ZP 185 Tryz.f185 [2]=true:=by kernel_rfl
theorem za17:CG ZP sg @zaqb:=(cgc zasl cg0)
theorem zavw:zaf ZP sg 0 Tryz.f185 @z0t 2:=zas z9b good Tryz.func185 zyj za17 zaa (fun a=>by kernel_rfl) (by kernel_rfl) (fun _ _=>rfl)
theorem za2p:SG ZP sg 185 @za5q:=conD (loops:=z0t) good Tryz.func185 zyj (by kernel_rfl) za17 (all_cons zavw zaa) (fun a=>by kernel_rfl)
theorem z6p:SG ZP sg 184 @zaxs:=conE good Tryz.func184 (by kernel_rfl) (by kernel_rfl) (cgc za2p cg0) (fun a=>by kernel_rfl)
theorem zj7:SG ZP sg 90 @zayo:=conE good Tryz.func90 (by kernel_rfl) (by kernel_rfl) (cgc z6p cg0) (fun a=>by kernel_rfl)
theorem zar8:SG ZP sg 173 @zack:=conE good Tryz.func173 (by kernel_rfl) (by kernel_rfl) (cgc zj7 cg0) (fun a=>by kernel_rfl)
theorem zagv:fnB ZP 65 Tryz.f65 [3,9,15]=true:=by kernel_rfl
theorem zagb:CG ZP sg @zap5:=(cgc zg0 (cgc zar8 cg0))
theorem zavp:zaf ZP sg 0 Tryz.f65 @zjc 3:=zas z83 good Tryz.func65 zagv zagb zaa (fun a=>by kernel_rfl) (by kernel_rfl) (fun _ _=>rfl)
theorem zavq:zaf ZP sg 0 Tryz.f65 @zjc 9:=zas z84 good Tryz.func65 zagv zagb zaa (fun a=>by kernel_rfl) (by kernel_rfl) (fun _ _=>rfl)
theorem zais:zaf ZP sg 0 Tryz.f65 @zjc 15:=zas z0b good Tryz.func65 zagv zagb zaa (fun a=>by kernel_rfl) (by kernel_rfl) (fun _ _=>rfl)
theorem za2k:SG ZP sg 65 @za5o:=conD (loops:=zjc) good Tryz.func65 zagv (by kernel_rfl) zagb (all_cons zavp (all_cons zavq (all_cons zais zaa))) (fun a=>by kernel_rfl)
theorem zj2:SG ZP sg 165 @zaxd:=conE good Tryz.func165 (by kernel_rfl) (by kernel_rfl) cg0 (fun a=>by kernel_rfl)
theorem z66:SG ZP sg 243 @zacj:=conE good Tryz.func243 (by kernel_rfl) (by kernel_rfl) cg0 (fun a=>by kernel_rfl)
theorem zyk:fnB ZP 242 Tryz.f242 [2]=true:=by kernel_rfl
theorem za16:CG ZP sg @zap9:=(cgc z66 cg0)
theorem zavu:zaf ZP sg 0 Tryz.f242 @z0s 2:=zas z89 good Tryz.func242 zyk za16 zaa (fun a=>by kernel_rfl) (by kernel_rfl) (fun _ _=>rfl)
theorem za2n:SG ZP sg 242 @za5p:=conD (loops:=z0s) good Tryz.func242 zyk (by kernel_rfl) za16 (all_cons zavu zaa) (fun a=>by kernel_rfl)
theorem zj4:SG ZP sg 164 @zax6:=conE good Tryz.func164 (by kernel_rfl) (by kernel_rfl) (cgc za2n (cgc z66 cg0)) (fun a=>by kernel_rfl)
theorem zpr:SG ZP sg 59 @zxc:=conE good Tryz.func59 (by kernel_rfl) (by kernel_rfl) (cgc zj4 (cgc zj2 cg0)) (fun a=>by kernel_rfl)
theorem za3b:fnB ZP 66 Tryz.f66 [2]=true:=by kernel_rfl
theorem zalk:CG ZP sg @zaf6:=(cgc zpr cg0)
theorem zaii:zaf ZP sg 0 Tryz.f66 @zt3 2:=zas zz1 good Tryz.func66 za3b zalk zaa (fun a=>by kernel_rfl) (by kernel_rfl) (fun _ _=>rfl)
theorem zarx:SG ZP sg 66 @zax8:=conD (loops:=zt3) good Tryz.func66 za3b (by kernel_rfl) zalk (all_cons zaii zaa) (fun a=>by kernel_rfl)
theorem zasb:SG ZP sg 197 @zaco:=conE good Tryz.func197 (by kernel_rfl) (by kernel_rfl) cg0 (fun a=>by kernel_rfl)
theorem zhl:fnB ZP 99 Tryz.f99 [2]=true:=by kernel_rfl
theorem za11:CG ZP sg @zapz:=(cgc zasb cg0)
theorem zavi:zaf ZP sg 0 Tryz.f99 @z0n 2:=zas z8v good Tryz.func99 zhl za11 zaa (fun a=>by kernel_rfl) (by kernel_rfl) (fun _ _=>rfl)
theorem za2e:SG ZP sg 99 @za5k:=conD (loops:=z0n) good Tryz.func99 zhl (by kernel_rfl) za11 (all_cons zavi zaa) (fun a=>by kernel_rfl)
theorem zpj:SG ZP sg 96 @zabu:=conE good Tryz.func96 (by kernel_rfl) (by kernel_rfl) (cgc za2e cg0) (fun a=>by kernel_rfl)
theorem zauz:fnB ZP 67 Tryz.f67 [2,16]=true:=by kernel_rfl
theorem z52:CG ZP sg @zae9:=(cgc zg0 (cgc zpj cg0))
theorem zahk:zaf ZP sg 0 Tryz.f67 @zk9 2:=zas zy3 good Tryz.func67 zauz z52 zaa (fun a=>by kernel_rfl) (by kernel_rfl) (fun _ _=>rfl)
theorem z9t:zaf ZP sg 0 Tryz.f67 @zk9 16:=zas zss good Tryz.func67 zauz z52 zaa (fun a=>by kernel_rfl) (by kernel_rfl) (fun _ _=>rfl)
theorem zaq5:SG ZP sg 67 @zaxe:=conD (loops:=zk9) good Tryz.func67 zauz (by kernel_rfl) z52 (all_cons zahk (all_cons z9t zaa)) (fun a=>by kernel_rfl)
theorem z7k:SG ZP sg 20 @zazc:=conE good Tryz.func20 (by kernel_rfl) (by kernel_rfl) (cgc zpm (cgc za2u (cgc za2t (cgc za2k (cgc zarx (cgc zaq5 cg0)))))) (fun a=>by kernel_rfl)
theorem za2v:SG ZP sg 23 @za5x:=conE good Tryz.func23 (by kernel_rfl) (by kernel_rfl) (cgc z7k (cgc zg0 (cgc z7o (cgc z63 (cgc (sgP zas9) (cgc z69 cg0)))))) (fun a=>by kernel_rfl)
theorem zaso:SG ZP sg 186 @zacz:=conE good Tryz.func186 (by kernel_rfl) (by kernel_rfl) cg0 (fun a=>by kernel_rfl)
theorem zyf:CG ZP sg @z1t:=(cgc zaso cg0)
theorem z24:zaf ZP sg 0 Tryz.f185 @zlh 2:=zas zn7 good Tryz.func185 zyj zyf zaa (fun a=>by kernel_rfl) (by kernel_rfl) (fun _ _=>rfl)
theorem z7u:SG ZP sg 185 @zadw:=conD (loops:=zlh) good Tryz.func185 zyj (by kernel_rfl) zyf (all_cons z24 zaa) (fun a=>by kernel_rfl)
theorem zas7:SG ZP sg 189 @zazg:=conS (loops:=l0) (ids:=[]) good Tryz.func189 (by kernel_rfl) (by kernel_rfl) cg0 zaa (fun a=>by kernel_rfl) (by kernel_rfl)
theorem zatc:SG ZP sg 187 @zazh:=conE good Tryz.func187 (by kernel_rfl) (by kernel_rfl) (cgc z6s cg0) (fun a=>by kernel_rfl)
theorem zarl:SG ZP sg 86 @zaxu:=conE good Tryz.func86 (by kernel_rfl) (by kernel_rfl) (cgc z6p (cgc z7u (cgc zatc (cgc (sgP zas6) (cgc zas7 cg0))))) (fun a=>by kernel_rfl)
theorem zasd:SG ZP sg 25 @zayu:=conE good Tryz.func25 (by kernel_rfl) (by kernel_rfl) (cgc zarl cg0) (fun a=>by kernel_rfl)
theorem zate:SG ZP sg 60 @zazi:=conE good Tryz.func60 (by kernel_rfl) (by kernel_rfl) (cgc zatj (cgc za2v (cgc zasd cg0))) (fun a=>by kernel_rfl)
theorem zes:SG ZP sg 88 @zaxx:=conN (loops:=l0) (ids:=[]) good Tryz.func88 (by kernel_rfl) (by kernel_rfl) cg0 zaa (fun a=>by kernel_rfl)
theorem zgu:SG ZP sg 91 @za5s:=conM (loops:=l0) (ids:=[]) good Tryz.func91 (by kernel_rfl) (by kernel_rfl) cg0 zaa (fun a b=>by kernel_rfl)
theorem zg1:SG ZP sg 89 @zayh:=conM (loops:=l0) (ids:=[]) good Tryz.func89 (by kernel_rfl) (by kernel_rfl) (cgc zg0 (cgc zgu cg0)) zaa (fun a b=>by kernel_rfl)
theorem zasu:SG ZP sg 192 @zay4:=conS (loops:=l0) (ids:=[]) good Tryz.func192 (by kernel_rfl) (by kernel_rfl) cg0 zaa (fun a=>by kernel_rfl) (by kernel_rfl)
theorem zfy:SG ZP sg 93 @zaxa:=conM (loops:=l0) (ids:=[]) good Tryz.func93 (by kernel_rfl) (by kernel_rfl) (cgc z69 (cgc zgu (cgc z7p (cgc zasu cg0)))) zaa (fun a b=>by kernel_rfl)
theorem zvd:SG ZP sg 222 @zw9:=conE good Tryz.func222 (by kernel_rfl) (by kernel_rfl) cg0 (fun a=>by kernel_rfl)
theorem z8a:fnB ZP 316 Tryz.f316 [1,4]=true:=by kernel_rfl
theorem zaqn:CG ZP sg @zaqd:=(cgc zvd cg0)
theorem z90:zaf ZP sg MA Tryz.f316 @zqq 4:=zas z9g good Tryz.func316 z8a zaqn zaa (fun a=>by kernel_rfl) (by kernel_rfl) (fun _ _=>rfl)
theorem zavz:zaf ZP sg MA Tryz.f316 @zqq 1:=zas z9f good Tryz.func316 z8a zaqn (all_cons z90 zaa) (fun a=>by kernel_rfl) (by kernel_rfl) (fun _ _=>rfl)
theorem za2s:SG ZP sg 316 @zapd:=conI (loops:=zqq) good Tryz.func316 z8a (by kernel_rfl) zaqn (all_cons zavz (all_cons z90 zaa)) (fun a=>by kernel_rfl)
theorem zyl:fnB ZP 291 Tryz.f291 [2,7,9]=true:=by kernel_rfl
theorem zagd:CG ZP sg @zaqc:=(cgc zvd (cgc za2s (cgc (sgP zask) cg0)))
theorem zavx:zaf ZP sg MA Tryz.f291 @zje 2:=zas z9c good Tryz.func291 zyl zagd zaa (fun a=>by kernel_rfl) (by kernel_rfl) (fun _ _=>rfl)
theorem z9z:zaf ZP sg MA Tryz.f291 @zje 9:=zas z9e good Tryz.func291 zyl zagd zaa (fun a=>by kernel_rfl) (by kernel_rfl) (fun _ _=>rfl)
theorem zavy:zaf ZP sg MA Tryz.f291 @zje 7:=zas z9d good Tryz.func291 zyl zagd (all_cons z9z zaa) (fun a=>by kernel_rfl) (by kernel_rfl) (fun _ _=>rfl)
theorem za2q:SG ZP sg 291 @za5r:=conI (loops:=zje) good Tryz.func291 zyl (by kernel_rfl) zagd (all_cons zavx (all_cons zavy (all_cons z9z zaa))) (fun a=>by kernel_rfl)
theorem zas5:SG ZP sg 221 @zadc:=conI (loops:=l0) (ids:=[]) good Tryz.func221 (by kernel_rfl) (by kernel_rfl) (cgc zvd (cgc za2q cg0)) zaa (fun a=>by kernel_rfl)
theorem zal0:fnB ZP 135 Tryz.f135 [3]=true:=by kernel_rfl
theorem za14:CG ZP sg @zap6:=(cgc zas5 cg0)
theorem zavr:zaf ZP sg 0 Tryz.f135 @z0q 3:=zas z85 good Tryz.func135 zal0 za14 zaa (fun a=>by kernel_rfl) (by kernel_rfl) (fun _ _=>rfl)
theorem za2l:SG ZP sg 135 @zao9:=conD (loops:=z0q) good Tryz.func135 zal0 (by kernel_rfl) za14 (all_cons zavr zaa) (fun a=>by kernel_rfl)
theorem za28:fnB ZP 35 Tryz.f35 [3]=true:=by kernel_rfl
theorem zald:CG ZP sg @zafz:=(cgc za2l cg0)
theorem zaib:zaf ZP sg 0 Tryz.f35 @ztw 3:=zas zzu good Tryz.func35 za28 zald zaa (fun a=>by kernel_rfl) (by kernel_rfl) (fun _ _=>rfl)
theorem zarq:SG ZP sg 35 @zax0:=conD (loops:=ztw) good Tryz.func35 za28 (by kernel_rfl) zald (all_cons zaib zaa) (fun a=>by kernel_rfl)
theorem zpl:SG ZP sg 156 @zaca:=conE good Tryz.func156 (by kernel_rfl) (by kernel_rfl) (cgc zarq cg0) (fun a=>by kernel_rfl)
theorem zatf:SG ZP sg 289 @zadg:=conE good Tryz.func289 (by kernel_rfl) (by kernel_rfl) cg0 (fun a=>by kernel_rfl)
theorem zx5:CG ZP sg @z1i:=(cgc zatf cg0)
theorem z2r:zaf ZP sg 0 Tryz.f99 @zky 2:=zas znv good Tryz.func99 zhl zx5 zaa (fun a=>by kernel_rfl) (by kernel_rfl) (fun _ _=>rfl)
theorem z6c:SG ZP sg 99 @zabg:=conD (loops:=zky) good Tryz.func99 zhl (by kernel_rfl) zx5 (all_cons z2r zaa) (fun a=>by kernel_rfl)
theorem zu9:SG ZP sg 217 @zaw6:=conE good Tryz.func217 (by kernel_rfl) (by kernel_rfl) (cgc z6c cg0) (fun a=>by kernel_rfl)
theorem zvn:SG ZP sg 128 @zazf:=conE good Tryz.func128 (by kernel_rfl) (by kernel_rfl) (cgc zu9 cg0) (fun a=>by kernel_rfl)
theorem zpo:SG ZP sg 137 @zayj:=conM (loops:=l0) (ids:=[]) good Tryz.func137 (by kernel_rfl) (by kernel_rfl) (cgc zfy cg0) zaa (fun a b=>by kernel_rfl)
theorem zasv:SG ZP sg 337 @zay6:=conE good Tryz.func337 (by kernel_rfl) (by kernel_rfl) cg0 (fun a=>by kernel_rfl)
theorem zar5:SG ZP sg 311 @zacg:=conE good Tryz.func311 (by kernel_rfl) (by kernel_rfl) (cgc zasv cg0) (fun a=>by kernel_rfl)
theorem zamy:fnB ZP 312 Tryz.f312 [3]=true:=by kernel_rfl
theorem zalg:CG ZP sg @zaf2:=cg0
theorem zaie:zaf ZP sg 0 Tryz.f312 @ztz 3:=zas zzx good Tryz.func312 zamy zalg zaa (fun a=>by kernel_rfl) (by kernel_rfl) (fun _ _=>rfl)
theorem zars:SG ZP sg 312 @zab2:=conD (loops:=ztz) good Tryz.func312 zamy (by kernel_rfl) zalg (all_cons zaie zaa) (fun a=>by kernel_rfl)
theorem zamt:fnB ZP 287 Tryz.f287 [3]=true:=by kernel_rfl
theorem zaki:CG ZP sg @zaev:=(cgc zar5 (cgc zars cg0))
theorem zag6:zaf ZP sg 0 Tryz.f287 @zs0 3:=zas zyo good Tryz.func287 zamt zaki zaa (fun a=>by kernel_rfl) (by kernel_rfl) (fun _ _=>rfl)
theorem zaqt:SG ZP sg 287 @zaw4:=conD (loops:=zs0) good Tryz.func287 zamt (by kernel_rfl) zaki (all_cons zag6 zaa) (fun a=>by kernel_rfl)
theorem zasp:SG ZP sg 211 @zay0:=conE good Tryz.func211 (by kernel_rfl) (by kernel_rfl) (cgc zaqt cg0) (fun a=>by kernel_rfl)
theorem zh5:SG ZP sg 118 @zayf:=conE good Tryz.func118 (by kernel_rfl) (by kernel_rfl) (cgc zj7 (cgc zasp cg0)) (fun a=>by kernel_rfl)
theorem zpq:SG ZP sg 120 @zayn:=conE good Tryz.func120 (by kernel_rfl) (by kernel_rfl) (cgc zpm cg0) (fun a=>by kernel_rfl)
theorem zat1:SG ZP sg 345 @zazz:=conE good Tryz.func345 (by kernel_rfl) (by kernel_rfl) cg0 (fun a=>by kernel_rfl)
theorem zat3:SG ZP sg 324 @zado:=conE good Tryz.func324 (by kernel_rfl) (by kernel_rfl) (cgc zat1 cg0) (fun a=>by kernel_rfl)
theorem zatk:SG ZP sg 349 @zadi:=conE good Tryz.func349 (by kernel_rfl) (by kernel_rfl) cg0 (fun a=>by kernel_rfl)
theorem zamz:fnB ZP 334 Tryz.f334 [3]=true:=by kernel_rfl
theorem zakl:CG ZP sg @zaey:=(cgc zat3 (cgc zatk cg0))
theorem zag9:zaf ZP sg 0 Tryz.f334 @zs4 3:=zas zyr good Tryz.func334 zamz zakl zaa (fun a=>by kernel_rfl) (by kernel_rfl) (fun _ _=>rfl)
theorem zaqw:SG ZP sg 334 @zaw8:=conD (loops:=zs4) good Tryz.func334 zamz (by kernel_rfl) zakl (all_cons zag9 zaa) (fun a=>by kernel_rfl)
theorem zamx:fnB ZP 308 Tryz.f308 [3]=true:=by kernel_rfl
theorem zak0:CG ZP sg @zafm:=cg0
theorem zahx:zaf ZP sg 0 Tryz.f308 @ztj 3:=zas zzg good Tryz.func308 zamx zak0 zaa (fun a=>by kernel_rfl) (by kernel_rfl) (fun _ _=>rfl)
theorem z6n:SG ZP sg 308 @zabx:=conD (loops:=ztj) good Tryz.func308 zamx (by kernel_rfl) zak0 (all_cons zahx zaa) (fun a=>by kernel_rfl)
theorem zato:SG ZP sg 336 @zazq:=conE good Tryz.func336 (by kernel_rfl) (by kernel_rfl) cg0 (fun a=>by kernel_rfl)
theorem zvj:SG ZP sg 310 @zac0:=conE good Tryz.func310 (by kernel_rfl) (by kernel_rfl) (cgc zato cg0) (fun a=>by kernel_rfl)
theorem z67:SG ZP sg 304 @zxa:=conE good Tryz.func304 (by kernel_rfl) (by kernel_rfl) (cgc zvi (cgc z6n (cgc zvj (cgc zaqw cg0)))) (fun a=>by kernel_rfl)
theorem zamp:fnB ZP 269 Tryz.f269 [2]=true:=by kernel_rfl
theorem zako:CG ZP sg @zae1:=(cgc z67 cg0)
theorem zahc:zaf ZP sg 0 Tryz.f269 @zs7 2:=zas zyu good Tryz.func269 zamp zako zaa (fun a=>by kernel_rfl) (by kernel_rfl) (fun _ _=>rfl)
theorem z6b:SG ZP sg 269 @zabf:=conD (loops:=zs7) good Tryz.func269 zamp (by kernel_rfl) zako (all_cons zahc zaa) (fun a=>by kernel_rfl)
theorem zamk:fnB ZP 218 Tryz.f218 [9]=true:=by kernel_rfl
theorem zakn:CG ZP sg @zae0:=(cgc zvi (cgc z6b cg0))
theorem zahb:zaf ZP sg 0 Tryz.f218 @zs6 9:=zas zyt good Tryz.func218 zamk zakn zaa (fun a=>by kernel_rfl) (by kernel_rfl) (fun _ _=>rfl)
theorem zaqy:SG ZP sg 218 @zaxb:=conD (loops:=zs6) good Tryz.func218 zamk (by kernel_rfl) zakn (all_cons zahb zaa) (fun a=>by kernel_rfl)
theorem z7s:SG ZP sg 130 @zazn:=conM (loops:=l0) (ids:=[]) good Tryz.func130 (by kernel_rfl) (by kernel_rfl) (cgc zgu (cgc zpq (cgc zaqy cg0))) zaa (fun a b=>by kernel_rfl)
theorem z6y:SG ZP sg 285 @zab6:=conE good Tryz.func285 (by kernel_rfl) (by kernel_rfl) cg0 (fun a=>by kernel_rfl)
theorem zx6:CG ZP sg @z1j:=(cgc z6y cg0)
theorem z2s:zaf ZP sg 0 Tryz.f99 @zkz 2:=zas znw good Tryz.func99 zhl zx6 zaa (fun a=>by kernel_rfl) (by kernel_rfl) (fun _ _=>rfl)
theorem z6d:SG ZP sg 99 @zabh:=conD (loops:=zkz) good Tryz.func99 zhl (by kernel_rfl) zx6 (all_cons z2s zaa) (fun a=>by kernel_rfl)
theorem zar6:SG ZP sg 117 @zayg:=conE good Tryz.func117 (by kernel_rfl) (by kernel_rfl) (cgc z6d (cgc z6y cg0)) (fun a=>by kernel_rfl)
theorem zvf:SG ZP sg 225 @zayq:=conS (loops:=l0) (ids:=[]) good Tryz.func225 (by kernel_rfl) (by kernel_rfl) cg0 zaa (fun a=>by kernel_rfl) (by kernel_rfl)
theorem z7n:SG ZP sg 228 @zaze:=conE good Tryz.func228 (by kernel_rfl) (by kernel_rfl) (cgc zvf cg0) (fun a=>by kernel_rfl)
theorem z6j:SG ZP sg 205 @zaxk:=conE good Tryz.func205 (by kernel_rfl) (by kernel_rfl) (cgc zar6 (cgc zu9 (cgc z7n (cgc zve cg0)))) (fun a=>by kernel_rfl)
theorem zj6:SG ZP sg 139 @zayl:=conM (loops:=l0) (ids:=[]) good Tryz.func139 (by kernel_rfl) (by kernel_rfl) (cgc zgu cg0) zaa (fun a b=>by kernel_rfl)
theorem z7b:SG ZP sg 109 @zays:=conM (loops:=l0) (ids:=[]) good Tryz.func109 (by kernel_rfl) (by kernel_rfl) (cgc zfy (cgc zh5 (cgc z7s (cgc zj6 (cgc z6j cg0))))) zaa (fun a b=>by kernel_rfl)
theorem zvh:SG ZP sg 110 @zact:=conM (loops:=l0) (ids:=[]) good Tryz.func110 (by kernel_rfl) (by kernel_rfl) (cgc zfy (cgc z7b (cgc zvn (cgc zpo (cgc zj6 (cgc zpl (cgc z6j cg0))))))) zaa (fun a b=>by kernel_rfl)
theorem zr0:SG ZP sg 136 @za5u:=conM (loops:=l0) (ids:=[]) good Tryz.func136 (by kernel_rfl) (by kernel_rfl) cg0 zaa (fun a b=>by kernel_rfl)
theorem zasj:SG ZP sg 36 @zayx:=conE good Tryz.func36 (by kernel_rfl) (by kernel_rfl) (cgc zes (cgc zg1 (cgc zfy (cgc zvh (cgc zr0 cg0))))) (fun a=>by kernel_rfl)
theorem za29:fnB ZP 45 Tryz.f45 [3]=true:=by kernel_rfl
theorem zak6:CG ZP sg @zafs:=cg0
theorem zah4:zaf ZP sg 0 Tryz.f45 @ztp 3:=zas zzn good Tryz.func45 za29 zak6 zaa (fun a=>by kernel_rfl) (by kernel_rfl) (fun _ _=>rfl)
theorem z6q:SG ZP sg 45 @zaxw:=conD (loops:=ztp) good Tryz.func45 za29 (by kernel_rfl) zak6 (all_cons zah4 zaa) (fun a=>by kernel_rfl)
theorem zamf:fnB ZP 190 Tryz.f190 [3]=true:=by kernel_rfl
theorem zakq:CG ZP sg @zae3:=cg0
theorem zahe:zaf ZP sg 0 Tryz.f190 @zs9 3:=zas zyw good Tryz.func190 zamf zakq zaa (fun a=>by kernel_rfl) (by kernel_rfl) (fun _ _=>rfl)
theorem zva:SG ZP sg 190 @zw3:=conD (loops:=zs9) good Tryz.func190 zamf (by kernel_rfl) zakq (all_cons zahe zaa) (fun a=>by kernel_rfl)
theorem zamj:fnB ZP 210 Tryz.f210 [3]=true:=by kernel_rfl
theorem zakj:CG ZP sg @zaew:=(cgc zva cg0)
theorem zag7:zaf ZP sg 0 Tryz.f210 @zs1 3:=zas zyp good Tryz.func210 zamj zakj zaa (fun a=>by kernel_rfl) (by kernel_rfl) (fun _ _=>rfl)
theorem zaqu:SG ZP sg 210 @zaw5:=conD (loops:=zs1) good Tryz.func210 zamj (by kernel_rfl) zakj (all_cons zag7 zaa) (fun a=>by kernel_rfl)
theorem zami:fnB ZP 209 Tryz.f209 [3]=true:=by kernel_rfl
theorem zalf:CG ZP sg @zaf1:=cg0
theorem zaid:zaf ZP sg 0 Tryz.f209 @zty 3:=zas zzw good Tryz.func209 zami zalf zaa (fun a=>by kernel_rfl) (by kernel_rfl) (fun _ _=>rfl)
theorem zarr:SG ZP sg 209 @zax2:=conD (loops:=zty) good Tryz.func209 zami (by kernel_rfl) zalf (all_cons zaid zaa) (fun a=>by kernel_rfl)
theorem zvk:SG ZP sg 115 @zac2:=conE good Tryz.func115 (by kernel_rfl) (by kernel_rfl) (cgc z6q (cgc zarr (cgc zaqu cg0))) (fun a=>by kernel_rfl)
theorem zamq:fnB ZP 270 Tryz.f270 [2]=true:=by kernel_rfl
theorem zall:CG ZP sg @zaf7:=(cgc z67 cg0)
theorem zaij:zaf ZP sg 0 Tryz.f270 @zt4 2:=zas zz2 good Tryz.func270 zamq zall zaa (fun a=>by kernel_rfl) (by kernel_rfl) (fun _ _=>rfl)
theorem zary:SG ZP sg 270 @zax9:=conD (loops:=zt4) good Tryz.func270 zamq (by kernel_rfl) zall (all_cons zaij zaa) (fun a=>by kernel_rfl)
theorem z7h:SG ZP sg 191 @zay1:=conE good Tryz.func191 (by kernel_rfl) (by kernel_rfl) (cgc z6o (cgc z6b (cgc zary cg0))) (fun a=>by kernel_rfl)
theorem zasy:SG ZP sg 92 @zay8:=conE good Tryz.func92 (by kernel_rfl) (by kernel_rfl) (cgc zvk (cgc zh5 (cgc zpq (cgc zvn (cgc zpl (cgc zva (cgc z7h cg0))))))) (fun a=>by kernel_rfl)
theorem z61:SG ZP sg 193 @zab9:=conE good Tryz.func193 (by kernel_rfl) (by kernel_rfl) cg0 (fun a=>by kernel_rfl)
theorem zye:CG ZP sg @z1s:=(cgc z61 cg0)
theorem z23:zaf ZP sg 0 Tryz.f242 @zlg 2:=zas zn6 good Tryz.func242 zyk zye zaa (fun a=>by kernel_rfl) (by kernel_rfl) (fun _ _=>rfl)
theorem z7t:SG ZP sg 242 @zadv:=conD (loops:=zlg) good Tryz.func242 zyk (by kernel_rfl) zye (all_cons z23 zaa) (fun a=>by kernel_rfl)
theorem z1z:SG ZP sg 164 @z4i:=conE good Tryz.func164 (by kernel_rfl) (by kernel_rfl) (cgc z61 (cgc z7t cg0)) (fun a=>by kernel_rfl)
theorem zvm:SG ZP sg 196 @zay5:=conS (loops:=l0) (ids:=[]) good Tryz.func196 (by kernel_rfl) (by kernel_rfl) cg0 zaa (fun a=>by kernel_rfl) (by kernel_rfl)
theorem z6x:SG ZP sg 194 @zayc:=conE good Tryz.func194 (by kernel_rfl) (by kernel_rfl) (cgc z6t cg0) (fun a=>by kernel_rfl)
theorem zari:SG ZP sg 95 @zaxp:=conE good Tryz.func95 (by kernel_rfl) (by kernel_rfl) (cgc (sgi (ac:=zapm) zj4 (sgi (ac:=zo8) z1z sg0)) (cgc zj2 (cgc z6x (cgc (sgP zas8) (cgc zvm cg0))))) (fun a=>by kernel_rfl)
theorem zj5:SG ZP sg 94 @zayk:=conM (loops:=l0) (ids:=[]) good Tryz.func94 (by kernel_rfl) (by kernel_rfl) (cgc zgu cg0) zaa (fun a b=>by kernel_rfl)
theorem zasz:SG ZP sg 198 @zay9:=conE good Tryz.func198 (by kernel_rfl) (by kernel_rfl) (cgc zu9 (cgc zvf (cgc (sgP zatb) cg0))) (fun a=>by kernel_rfl)
theorem zatz:SG ZP sg 97 @zazy:=conM (loops:=l0) (ids:=[]) good Tryz.func97 (by kernel_rfl) (by kernel_rfl) (cgc zj6 (cgc zasz cg0)) zaa (fun a b=>by kernel_rfl)
theorem zj3:SG ZP sg 98 @zax5:=conM (loops:=l0) (ids:=[]) good Tryz.func98 (by kernel_rfl) (by kernel_rfl) cg0 zaa (fun a b=>by kernel_rfl)
theorem zpp:SG ZP sg 101 @zacl:=conE good Tryz.func101 (by kernel_rfl) (by kernel_rfl) cg0 (fun a=>by kernel_rfl)
theorem zasr:SG ZP sg 100 @zac4:=conE good Tryz.func100 (by kernel_rfl) (by kernel_rfl) (cgc zpp cg0) (fun a=>by kernel_rfl)
theorem zx7:CG ZP sg @z1k:=(cgc zasr cg0)
theorem z2t:zaf ZP sg 0 Tryz.f99 @zk0 2:=zas znx good Tryz.func99 zhl zx7 zaa (fun a=>by kernel_rfl) (by kernel_rfl) (fun _ _=>rfl)
theorem z6e:SG ZP sg 99 @zabi:=conD (loops:=zk0) good Tryz.func99 zhl (by kernel_rfl) zx7 (all_cons z2t zaa) (fun a=>by kernel_rfl)
theorem zarw:SG ZP sg 27 @zax7:=conE good Tryz.func27 (by kernel_rfl) (by kernel_rfl) (cgc zes (cgc zg1 (cgc zj7 (cgc zgu (cgc zasy (cgc zfy (cgc zj5 (cgc zari (cgc zpj (cgc zatz (cgc zj3 (cgc z6e cg0)))))))))))) (fun a=>by kernel_rfl)
theorem zvg:SG ZP sg 224 @zayy:=conE good Tryz.func224 (by kernel_rfl) (by kernel_rfl) cg0 (fun a=>by kernel_rfl)
theorem zasm:SG ZP sg 223 @zacw:=conE good Tryz.func223 (by kernel_rfl) (by kernel_rfl) (cgc zpp (cgc zvg cg0)) (fun a=>by kernel_rfl)
theorem zyc:CG ZP sg @z1p:=(cgc zasm cg0)
theorem z2y:zaf ZP sg 0 Tryz.f80 @zle 2:=zas zn2 good Tryz.func80 zsb zyc zaa (fun a=>by kernel_rfl) (by kernel_rfl) (fun _ _=>rfl)
theorem z64:SG ZP sg 80 @zuo:=conD (loops:=zle) good Tryz.func80 zsb (by kernel_rfl) zyc (all_cons z2y zaa) (fun a=>by kernel_rfl)
theorem zal1:fnB ZP 138 Tryz.f138 [9]=true:=by kernel_rfl
theorem za18:CG ZP sg @zaqg:=(cgc zg0 (cgc z64 (cgc zvk (cgc zva cg0))))
theorem zav2:zaf ZP sg 0 Tryz.f138 @z0u 9:=zas z9j good Tryz.func138 zal1 za18 zaa (fun a=>by kernel_rfl) (by kernel_rfl) (fun _ _=>rfl)
theorem za2w:SG ZP sg 138 @za5y:=conD (loops:=z0u) good Tryz.func138 zal1 (by kernel_rfl) za18 (all_cons zav2 zaa) (fun a=>by kernel_rfl)
theorem zati:SG ZP sg 140 @zazj:=conE good Tryz.func140 (by kernel_rfl) (by kernel_rfl) (cgc zalp (cgc zvf cg0)) (fun a=>by kernel_rfl)
theorem zal2:fnB ZP 141 Tryz.f141 [1]=true:=by kernel_rfl
theorem zale:CG ZP sg @zaf0:=(cgc zvh (cgc zpl cg0))
theorem zaic:zaf ZP sg 1 Tryz.f141 @ztx 1:=zas zzv good Tryz.func141 zal2 zale zaa (fun a=>by kernel_rfl) (by kernel_rfl) (fun _ _=>rfl)
theorem z6v:SG ZP sg 141 @zax1:=conM (loops:=ztx) good Tryz.func141 zal2 (by kernel_rfl) zale (all_cons zaic zaa) (fun a b=>by kernel_rfl)
theorem zasi:SG ZP sg 40 @zayw:=conE good Tryz.func40 (by kernel_rfl) (by kernel_rfl) (cgc zes (cgc zj7 (cgc zj3 (cgc zh5 (cgc za2w (cgc zj6 (cgc zati (cgc z6v cg0)))))))) (fun a=>by kernel_rfl)
theorem z60:SG ZP sg 116 @zab8:=conE good Tryz.func116 (by kernel_rfl) (by kernel_rfl) (cgc zpp cg0) (fun a=>by kernel_rfl)
theorem zx8:CG ZP sg @z1l:=(cgc z60 cg0)
theorem z2u:zaf ZP sg 0 Tryz.f99 @zk1 2:=zas zny good Tryz.func99 zhl zx8 zaa (fun a=>by kernel_rfl) (by kernel_rfl) (fun _ _=>rfl)
theorem z6f:SG ZP sg 99 @zabj:=conD (loops:=zk1) good Tryz.func99 zhl (by kernel_rfl) zx8 (all_cons z2u zaa) (fun a=>by kernel_rfl)
theorem z10:SG ZP sg 117 @z4j:=conE good Tryz.func117 (by kernel_rfl) (by kernel_rfl) (cgc z6f (cgc z60 cg0)) (fun a=>by kernel_rfl)
theorem zasx:SG ZP sg 119 @zay7:=conE good Tryz.func119 (by kernel_rfl) (by kernel_rfl) (cgc z7h cg0) (fun a=>by kernel_rfl)
theorem z7c:SG ZP sg 212 @zayt:=conE good Tryz.func212 (by kernel_rfl) (by kernel_rfl) (cgc zvm cg0) (fun a=>by kernel_rfl)
theorem zatn:SG ZP sg 121 @zazp:=conE good Tryz.func121 (by kernel_rfl) (by kernel_rfl) (cgc zj4 (cgc zj2 (cgc z6x (cgc z7c cg0)))) (fun a=>by kernel_rfl)
theorem zarm:SG ZP sg 31 @zaxv:=conE good Tryz.func31 (by kernel_rfl) (by kernel_rfl) (cgc zpr (cgc zg0 (cgc zes (cgc zj7 (cgc zj5 (cgc zj3 (cgc zvk (cgc z10 (cgc zh5 (cgc zasx (cgc zpq (cgc zatn cg0)))))))))))) (fun a=>by kernel_rfl)
theorem zalx:fnB ZP 129 Tryz.f129 [2]=true:=by kernel_rfl
theorem zakm:CG ZP sg @zaez:=(cgc zpr (cgc zpp cg0))
theorem zaha:zaf ZP sg 0 Tryz.f129 @zs5 2:=zas zys good Tryz.func129 zalx zakm zaa (fun a=>by kernel_rfl) (by kernel_rfl) (fun _ _=>rfl)
theorem zaqx:SG ZP sg 129 @zaw9:=conD (loops:=zs5) good Tryz.func129 zalx (by kernel_rfl) zakm (all_cons zaha zaa) (fun a=>by kernel_rfl)
theorem zaul:SG ZP sg 131 @za0c:=conE good Tryz.func131 (by kernel_rfl) (by kernel_rfl) (cgc zj4 (cgc zj2 (cgc z7c (cgc z7m cg0)))) (fun a=>by kernel_rfl)
theorem zatm:SG ZP sg 33 @zazo:=conE good Tryz.func33 (by kernel_rfl) (by kernel_rfl) (cgc zes (cgc zj5 (cgc zj3 (cgc zh5 (cgc zvn (cgc zaqx (cgc z7s (cgc zaul cg0)))))))) (fun a=>by kernel_rfl)
theorem zaue:SG ZP sg 234 @zaz5:=conE good Tryz.func234 (by kernel_rfl) (by kernel_rfl) (cgc zvm (cgc (sgP zata) cg0)) (fun a=>by kernel_rfl)
theorem z7i:SG ZP sg 154 @zay2:=conE good Tryz.func154 (by kernel_rfl) (by kernel_rfl) (cgc zj4 (cgc zj2 (cgc zaue cg0))) (fun a=>by kernel_rfl)
theorem zasw:SG ZP sg 309 @zac8:=conE good Tryz.func309 (by kernel_rfl) (by kernel_rfl) (cgc zvj cg0) (fun a=>by kernel_rfl)
theorem z77:fnB ZP 281 Tryz.f281 [7,13]=true:=by kernel_rfl
theorem z54:CG ZP sg @zafa:=(cgc z6n (cgc zasw (cgc zvj cg0)))
theorem zahl:zaf ZP sg 0 Tryz.f281 @zla 7:=zas zy4 good Tryz.func281 z77 z54 zaa (fun a=>by kernel_rfl) (by kernel_rfl) (fun _ _=>rfl)
theorem z9u:zaf ZP sg 0 Tryz.f281 @zla 13:=zas zst good Tryz.func281 z77 z54 zaa (fun a=>by kernel_rfl) (by kernel_rfl) (fun _ _=>rfl)
theorem zaq6:SG ZP sg 281 @zaxf:=conD (loops:=zla) good Tryz.func281 z77 (by kernel_rfl) z54 (all_cons zahl (all_cons z9u zaa)) (fun a=>by kernel_rfl)
theorem zatt:SG ZP sg 203 @zazv:=conE good Tryz.func203 (by kernel_rfl) (by kernel_rfl) (cgc zalq (cgc z7q (cgc zaq6 cg0))) (fun a=>by kernel_rfl)
theorem zar1:SG ZP sg 226 @zayd:=conE good Tryz.func226 (by kernel_rfl) (by kernel_rfl) (cgc z6u cg0) (fun a=>by kernel_rfl)
theorem z7r:SG ZP sg 149 @zazm:=conM (loops:=l0) (ids:=[]) good Tryz.func149 (by kernel_rfl) (by kernel_rfl) (cgc zgu (cgc zar1 cg0)) zaa (fun a b=>by kernel_rfl)
theorem zasn:SG ZP sg 283 @zacy:=conE good Tryz.func283 (by kernel_rfl) (by kernel_rfl) cg0 (fun a=>by kernel_rfl)
theorem zams:fnB ZP 282 Tryz.f282 [2]=true:=by kernel_rfl
theorem zakp:CG ZP sg @zae2:=(cgc zasn cg0)
theorem zahd:zaf ZP sg 0 Tryz.f282 @zs8 2:=zas zyv good Tryz.func282 zams zakp zaa (fun a=>by kernel_rfl) (by kernel_rfl) (fun _ _=>rfl)
theorem zaqz:SG ZP sg 282 @zaxc:=conD (loops:=zs8) good Tryz.func282 zams (by kernel_rfl) zakp (all_cons zahd zaa) (fun a=>by kernel_rfl)
theorem zark:SG ZP sg 204 @zaxt:=conE good Tryz.func204 (by kernel_rfl) (by kernel_rfl) (cgc zaqz cg0) (fun a=>by kernel_rfl)
theorem zaud:SG ZP sg 108 @zaz4:=conM (loops:=l0) (ids:=[]) good Tryz.func108 (by kernel_rfl) (by kernel_rfl) (cgc zfy (cgc zj5 (cgc zh5 (cgc zpq (cgc z7r (cgc z7i (cgc zatt (cgc zark cg0)))))))) zaa (fun a b=>by kernel_rfl)
theorem zat7:SG ZP sg 29 @zaz2:=conE good Tryz.func29 (by kernel_rfl) (by kernel_rfl) (cgc zes (cgc zg1 (cgc zgu (cgc zfy (cgc zpj (cgc zj3 (cgc zaud (cgc z7b (cgc zvh cg0))))))))) (fun a=>by kernel_rfl)
theorem zat5:SG ZP sg 15 @zaz1:=conE good Tryz.func15 (by kernel_rfl) (by kernel_rfl) (cgc z7k (cgc zarw (cgc zat7 (cgc zarm (cgc zatm (cgc zasj (cgc zasi (cgc z6q (cgc zate cg0))))))))) (fun a=>by kernel_rfl)
theorem zatp:SG ZP sg 46 @zazr:=conE good Tryz.func46 (by kernel_rfl) (by kernel_rfl) (cgc zes (cgc zg1 (cgc zr0 (cgc zpo cg0)))) (fun a=>by kernel_rfl)
theorem zalv:fnB ZP 103 Tryz.f103 [10]=true:=by kernel_rfl
theorem za10:CG ZP sg @zapy:=(cgc zfz (cgc z68 cg0))
theorem zag5:zaf ZP sg 0 Tryz.f103 @z0m 10:=zas zyn good Tryz.func103 zalv za10 zaa (fun a=>by kernel_rfl) (by kernel_rfl) (fun _ _=>rfl)
theorem znj:SG ZP sg 103 @zao6:=conD (loops:=z0m) good Tryz.func103 zalv (by kernel_rfl) za10 (all_cons zag5 zaa) (fun a=>by kernel_rfl)
theorem zatq:SG ZP sg 47 @zazs:=conE good Tryz.func47 (by kernel_rfl) (by kernel_rfl) (cgc zfz (cgc znj cg0)) (fun a=>by kernel_rfl)
theorem zauy:fnB ZP 61 Tryz.f61 [2,7]=true:=by kernel_rfl
theorem zaqo:CG ZP sg @zaqi:=cg0
theorem z91:zaf ZP sg 0 Tryz.f61 @zqr 7:=zas z9m good Tryz.func61 zauy zaqo zaa (fun a=>by kernel_rfl) (by kernel_rfl) (fun _ _=>rfl)
theorem zav4:zaf ZP sg 0 Tryz.f61 @zqr 2:=zas z9l good Tryz.func61 zauy zaqo (all_cons z91 zaa) (fun a=>by kernel_rfl) (by kernel_rfl) (fun _ _=>rfl)
theorem za2x:SG ZP sg 61 @zapf:=conD (loops:=zqr) good Tryz.func61 zauy (by kernel_rfl) zaqo (all_cons zav4 (all_cons z91 zaa)) (fun a=>by kernel_rfl)
theorem zsa:fnB ZP 16 Tryz.f16 [6,11,16,21,26,31,36]=true:=by kernel_rfl
theorem zrs:CG ZP sg @zap2:=(cgc za2x cg0)
theorem zavm:zaf ZP sg 0 Tryz.f16 @zen 6:=zas z8z good Tryz.func16 zsa zrs zaa (fun a=>by kernel_rfl) (by kernel_rfl) (fun _ _=>rfl)
theorem zaim:zaf ZP sg 0 Tryz.f16 @zen 11:=zas zz5 good Tryz.func16 zsa zrs zaa (fun a=>by kernel_rfl) (by kernel_rfl) (fun _ _=>rfl)
theorem zain:zaf ZP sg 0 Tryz.f16 @zen 16:=zas zz6 good Tryz.func16 zsa zrs zaa (fun a=>by kernel_rfl) (by kernel_rfl) (fun _ _=>rfl)
theorem zaio:zaf ZP sg 0 Tryz.f16 @zen 21:=zas zz7 good Tryz.func16 zsa zrs zaa (fun a=>by kernel_rfl) (by kernel_rfl) (fun _ _=>rfl)
theorem zaip:zaf ZP sg 0 Tryz.f16 @zen 26:=zas zz8 good Tryz.func16 zsa zrs zaa (fun a=>by kernel_rfl) (by kernel_rfl) (fun _ _=>rfl)
theorem zaiq:zaf ZP sg 0 Tryz.f16 @zen 31:=zas zz9 good Tryz.func16 zsa zrs zaa (fun a=>by kernel_rfl) (by kernel_rfl) (fun _ _=>rfl)
theorem zair:zaf ZP sg 0 Tryz.f16 @zen 36:=zas z0a good Tryz.func16 zsa zrs zaa (fun a=>by kernel_rfl) (by kernel_rfl) (fun _ _=>rfl)
theorem za2h:SG ZP sg 16 @za5n:=conD (loops:=zen) good Tryz.func16 zsa (by kernel_rfl) zrs (all_cons zavm (all_cons zaim (all_cons zain (all_cons zaio (all_cons zaip (all_cons zaiq (all_cons zair zaa))))))) (fun a=>by kernel_rfl)
theorem zatg:SG ZP sg 227 @zadh:=conE good Tryz.func227 (by kernel_rfl) (by kernel_rfl) cg0 (fun a=>by kernel_rfl)
theorem zx9:CG ZP sg @z1m:=(cgc zatg cg0)
theorem z2v:zaf ZP sg 0 Tryz.f99 @zk2 2:=zas znz good Tryz.func99 zhl zx9 zaa (fun a=>by kernel_rfl) (by kernel_rfl) (fun _ _=>rfl)
theorem z6g:SG ZP sg 99 @zabk:=conD (loops:=zk2) good Tryz.func99 zhl (by kernel_rfl) zx9 (all_cons z2v zaa) (fun a=>by kernel_rfl)
theorem zar9:SG ZP sg 150 @zaym:=conE good Tryz.func150 (by kernel_rfl) (by kernel_rfl) (cgc z6g (cgc z7n cg0)) (fun a=>by kernel_rfl)
theorem zatu:SG ZP sg 48 @zazw:=conE good Tryz.func48 (by kernel_rfl) (by kernel_rfl) (cgc zes (cgc zg1 (cgc zpj (cgc zr0 (cgc zpo (cgc zj6 (cgc z6v (cgc z7r (cgc zar9 cg0))))))))) (fun a=>by kernel_rfl)
theorem zamm:fnB ZP 229 Tryz.f229 [3]=true:=by kernel_rfl
theorem zak4:CG ZP sg @zafq:=(cgc z6m cg0)
theorem zah1:zaf ZP sg 0 Tryz.f229 @ztn 3:=zas zzk good Tryz.func229 zamm zak4 zaa (fun a=>by kernel_rfl) (by kernel_rfl) (fun _ _=>rfl)
theorem zarj:SG ZP sg 229 @zaxq:=conD (loops:=ztn) good Tryz.func229 zamm (by kernel_rfl) zak4 (all_cons zah1 zaa) (fun a=>by kernel_rfl)
theorem zauk:SG ZP sg 151 @za0b:=conE good Tryz.func151 (by kernel_rfl) (by kernel_rfl) (cgc zarj cg0) (fun a=>by kernel_rfl)
theorem zamn:fnB ZP 230 Tryz.f230 [3]=true:=by kernel_rfl
theorem zak7:CG ZP sg @zaft:=cg0
theorem zah5:zaf ZP sg 0 Tryz.f230 @ztq 3:=zas zzo good Tryz.func230 zamn zak7 zaa (fun a=>by kernel_rfl) (by kernel_rfl) (fun _ _=>rfl)
theorem z6r:SG ZP sg 230 @zw7:=conD (loops:=ztq) good Tryz.func230 zamn (by kernel_rfl) zak7 (all_cons zah5 zaa) (fun a=>by kernel_rfl)
theorem zal4:fnB ZP 152 Tryz.f152 [2]=true:=by kernel_rfl
theorem zak3:CG ZP sg @zafp:=(cgc z6r cg0)
theorem zah0:zaf ZP sg 0 Tryz.f152 @ztm 2:=zas zzj good Tryz.func152 zal4 zak3 zaa (fun a=>by kernel_rfl) (by kernel_rfl) (fun _ _=>rfl)
theorem zarh:SG ZP sg 152 @zaxo:=conD (loops:=ztm) good Tryz.func152 zal4 (by kernel_rfl) zak3 (all_cons zah0 zaa) (fun a=>by kernel_rfl)
theorem z79:fnB ZP 293 Tryz.f293 [3,6]=true:=by kernel_rfl
theorem z5x:CG ZP sg @zae4:=cg0
theorem z0i:zaf ZP sg 0 Tryz.f293 @zk4 6:=zas zyy good Tryz.func293 z79 z5x zaa (fun a=>by kernel_rfl) (by kernel_rfl) (fun _ _=>rfl)
theorem zahf:zaf ZP sg 0 Tryz.f293 @zk4 3:=zas zyx good Tryz.func293 z79 z5x (all_cons z0i zaa) (fun a=>by kernel_rfl) (by kernel_rfl) (fun _ _=>rfl)
theorem zaq0:SG ZP sg 293 @zabm:=conD (loops:=zk4) good Tryz.func293 z79 (by kernel_rfl) z5x (all_cons zahf (all_cons z0i zaa)) (fun a=>by kernel_rfl)
theorem zaly:fnB ZP 132 Tryz.f132 [2]=true:=by kernel_rfl
theorem zakz:CG ZP sg @zafl:=cg0
theorem zahw:zaf ZP sg 0 Tryz.f132 @zti 2:=zas zzf good Tryz.func132 zaly zakz zaa (fun a=>by kernel_rfl) (by kernel_rfl) (fun _ _=>rfl)
theorem zvb:SG ZP sg 132 @zw6:=conD (loops:=zti) good Tryz.func132 zaly (by kernel_rfl) zakz (all_cons zahw zaa) (fun a=>by kernel_rfl)
theorem zamo:fnB ZP 235 Tryz.f235 [4]=true:=by kernel_rfl
theorem zak2:CG ZP sg @zafo:=(cgc zvb (cgc zaq0 cg0))
theorem zahz:zaf ZP sg 0 Tryz.f235 @ztl 4:=zas zzi good Tryz.func235 zamo zak2 zaa (fun a=>by kernel_rfl) (by kernel_rfl) (fun _ _=>rfl)
theorem zarg:SG ZP sg 235 @zaxn:=conD (loops:=ztl) good Tryz.func235 zamo (by kernel_rfl) zak2 (all_cons zahz zaa) (fun a=>by kernel_rfl)
theorem zvl:SG ZP sg 157 @zac6:=conE good Tryz.func157 (by kernel_rfl) (by kernel_rfl) (cgc zfz (cgc zarg cg0)) (fun a=>by kernel_rfl)
theorem zaua:SG ZP sg 313 @zadt:=conE good Tryz.func313 (by kernel_rfl) (by kernel_rfl) cg0 (fun a=>by kernel_rfl)
theorem zas1:SG ZP sg 314 @zac9:=conE good Tryz.func314 (by kernel_rfl) (by kernel_rfl) cg0 (fun a=>by kernel_rfl)
theorem zamu:fnB ZP 288 Tryz.f288 [3]=true:=by kernel_rfl
theorem zalm:CG ZP sg @zaf8:=(cgc zaua (cgc zas1 cg0))
theorem zaik:zaf ZP sg 0 Tryz.f288 @zt5 3:=zas zz3 good Tryz.func288 zamu zalm zaa (fun a=>by kernel_rfl) (by kernel_rfl) (fun _ _=>rfl)
theorem zarz:SG ZP sg 288 @zaya:=conD (loops:=zt5) good Tryz.func288 zamu (by kernel_rfl) zalm (all_cons zaik zaa) (fun a=>by kernel_rfl)
theorem zaup:SG ZP sg 216 @za0g:=conE good Tryz.func216 (by kernel_rfl) (by kernel_rfl) (cgc zarz cg0) (fun a=>by kernel_rfl)
theorem zaum:SG ZP sg 124 @za0d:=conE good Tryz.func124 (by kernel_rfl) (by kernel_rfl) (cgc zpn (cgc zaup cg0)) (fun a=>by kernel_rfl)
theorem za2r:SG ZP sg 126 @za5t:=conE good Tryz.func126 (by kernel_rfl) (by kernel_rfl) cg0 (fun a=>by kernel_rfl)
theorem zauq:SG ZP sg 338 @za0h:=conE good Tryz.func338 (by kernel_rfl) (by kernel_rfl) cg0 (fun a=>by kernel_rfl)
theorem zat4:SG ZP sg 315 @zadp:=conE good Tryz.func315 (by kernel_rfl) (by kernel_rfl) (cgc zauq cg0) (fun a=>by kernel_rfl)
theorem z78:fnB ZP 290 Tryz.f290 [6,12]=true:=by kernel_rfl
theorem z51:CG ZP sg @zae8:=(cgc zat4 cg0)
theorem zahj:zaf ZP sg 0 Tryz.f290 @zk8 6:=zas zy2 good Tryz.func290 z78 z51 zaa (fun a=>by kernel_rfl) (by kernel_rfl) (fun _ _=>rfl)
theorem z9s:zaf ZP sg 0 Tryz.f290 @zk8 12:=zas zsr good Tryz.func290 z78 z51 zaa (fun a=>by kernel_rfl) (by kernel_rfl) (fun _ _=>rfl)
theorem zaq4:SG ZP sg 290 @zabq:=conD (loops:=zk8) good Tryz.func290 z78 (by kernel_rfl) z51 (all_cons zahj (all_cons z9s zaa)) (fun a=>by kernel_rfl)
theorem zaml:fnB ZP 220 Tryz.f220 [2]=true:=by kernel_rfl
theorem zali:CG ZP sg @zaf4:=(cgc zaq4 cg0)
theorem zaig:zaf ZP sg 0 Tryz.f220 @zt1 2:=zas zzz good Tryz.func220 zaml zali zaa (fun a=>by kernel_rfl) (by kernel_rfl) (fun _ _=>rfl)
theorem zaru:SG ZP sg 220 @zab3:=conD (loops:=zt1) good Tryz.func220 zaml (by kernel_rfl) zali (all_cons zaig zaa) (fun a=>by kernel_rfl)
theorem zalz:fnB ZP 133 Tryz.f133 [9]=true:=by kernel_rfl
theorem zaln:CG ZP sg @zaf9:=(cgc zaru cg0)
theorem zail:zaf ZP sg 0 Tryz.f133 @zt6 9:=zas zz4 good Tryz.func133 zalz zaln zaa (fun a=>by kernel_rfl) (by kernel_rfl) (fun _ _=>rfl)
theorem zar0:SG ZP sg 133 @zayb:=conD (loops:=zt6) good Tryz.func133 zalz (by kernel_rfl) zaln (all_cons zail zaa) (fun a=>by kernel_rfl)
theorem zamh:fnB ZP 208 Tryz.f208 [9]=true:=by kernel_rfl
theorem zalh:CG ZP sg @zaf3:=(cgc zvb (cgc z6r (cgc z7d (cgc z7j cg0))))
theorem zaif:zaf ZP sg 0 Tryz.f208 @zt0 9:=zas zzy good Tryz.func208 zamh zalh zaa (fun a=>by kernel_rfl) (by kernel_rfl) (fun _ _=>rfl)
theorem z6w:SG ZP sg 208 @zax4:=conD (loops:=zt0) good Tryz.func208 zamh (by kernel_rfl) zalh (all_cons zaif zaa) (fun a=>by kernel_rfl)
theorem zas3:SG ZP sg 113 @zazd:=conE good Tryz.func113 (by kernel_rfl) (by kernel_rfl) (cgc zfz (cgc znj (cgc zaum (cgc za2r (cgc zar0 (cgc z6w cg0)))))) (fun a=>by kernel_rfl)
theorem zat8:SG ZP sg 114 @zadr:=conE good Tryz.func114 (by kernel_rfl) (by kernel_rfl) (cgc zfz (cgc znj (cgc zas3 (cgc zvb (cgc zvl (cgc z6w cg0)))))) (fun a=>by kernel_rfl)
theorem zal3:fnB ZP 145 Tryz.f145 [2]=true:=by kernel_rfl
theorem zak1:CG ZP sg @zafn:=(cgc zat8 (cgc zvl cg0))
theorem zahy:zaf ZP sg 0 Tryz.f145 @ztk 2:=zas zzh good Tryz.func145 zal3 zak1 zaa (fun a=>by kernel_rfl) (by kernel_rfl) (fun _ _=>rfl)
theorem zarf:SG ZP sg 145 @zaxm:=conD (loops:=ztk) good Tryz.func145 zal3 (by kernel_rfl) zak1 (all_cons zahy zaa) (fun a=>by kernel_rfl)
theorem zaun:SG ZP sg 49 @za0e:=conE good Tryz.func49 (by kernel_rfl) (by kernel_rfl) (cgc zfz (cgc znj (cgc z6l (cgc zarf (cgc zauk (cgc zarh cg0)))))) (fun a=>by kernel_rfl)
theorem z7f:SG ZP sg 232 @zac1:=conE good Tryz.func232 (by kernel_rfl) (by kernel_rfl) (cgc zvg cg0) (fun a=>by kernel_rfl)
theorem zyd:CG ZP sg @z1q:=(cgc z7f cg0)
theorem z2z:zaf ZP sg 0 Tryz.f80 @zlf 2:=zas zn3 good Tryz.func80 zsb zyd zaa (fun a=>by kernel_rfl) (by kernel_rfl) (fun _ _=>rfl)
theorem z65:SG ZP sg 80 @zace:=conD (loops:=zlf) good Tryz.func80 zsb (by kernel_rfl) zyd (all_cons z2z zaa) (fun a=>by kernel_rfl)
theorem zauc:SG ZP sg 231 @zaz3:=conE good Tryz.func231 (by kernel_rfl) (by kernel_rfl) (cgc z65 (cgc z7f cg0)) (fun a=>by kernel_rfl)
theorem z6z:SG ZP sg 233 @zab7:=conE good Tryz.func233 (by kernel_rfl) (by kernel_rfl) cg0 (fun a=>by kernel_rfl)
theorem zya:CG ZP sg @z1n:=(cgc z6z cg0)
theorem z2w:zaf ZP sg 0 Tryz.f99 @zk3 2:=zas zn0 good Tryz.func99 zhl zya zaa (fun a=>by kernel_rfl) (by kernel_rfl) (fun _ _=>rfl)
theorem z6h:SG ZP sg 99 @zabl:=conD (loops:=zk3) good Tryz.func99 zhl (by kernel_rfl) zya (all_cons z2w zaa) (fun a=>by kernel_rfl)
theorem z11:SG ZP sg 117 @z4k:=conE good Tryz.func117 (by kernel_rfl) (by kernel_rfl) (cgc z6h (cgc z6z cg0)) (fun a=>by kernel_rfl)
theorem zaq8:SG ZP sg 153 @zaxh:=conE good Tryz.func153 (by kernel_rfl) (by kernel_rfl) (cgc z11 (cgc zvg (cgc zauc cg0))) (fun a=>by kernel_rfl)
theorem zauh:SG ZP sg 50 @zaz8:=conE good Tryz.func50 (by kernel_rfl) (by kernel_rfl) (cgc zpr (cgc zes (cgc zg1 (cgc zgu (cgc zj5 (cgc zr0 (cgc zpo (cgc zaq8 (cgc z7i cg0))))))))) (fun a=>by kernel_rfl)
theorem zat9:SG ZP sg 155 @zads:=conE good Tryz.func155 (by kernel_rfl) (by kernel_rfl) (cgc z6i cg0) (fun a=>by kernel_rfl)
theorem zaux:fnB ZP 51 Tryz.f51 [7,11]=true:=by kernel_rfl
theorem z55:CG ZP sg @zafb:=(cgc zfz (cgc znj (cgc zat9 cg0)))
theorem zahm:zaf ZP sg 0 Tryz.f51 @zlb 7:=zas zy5 good Tryz.func51 zaux z55 zaa (fun a=>by kernel_rfl) (by kernel_rfl) (fun _ _=>rfl)
theorem z9v:zaf ZP sg 0 Tryz.f51 @zlb 11:=zas zsu good Tryz.func51 zaux z55 zaa (fun a=>by kernel_rfl) (by kernel_rfl) (fun _ _=>rfl)
theorem zaq7:SG ZP sg 51 @zaxg:=conD (loops:=zlb) good Tryz.func51 zaux (by kernel_rfl) z55 (all_cons zahm (all_cons z9v zaa)) (fun a=>by kernel_rfl)
theorem zatv:SG ZP sg 52 @zazx:=conE good Tryz.func52 (by kernel_rfl) (by kernel_rfl) (cgc zes (cgc zg1 (cgc zgu (cgc zfy (cgc zr0 (cgc zpl cg0)))))) (fun a=>by kernel_rfl)
theorem zauo:SG ZP sg 53 @za0f:=conE good Tryz.func53 (by kernel_rfl) (by kernel_rfl) (cgc zfz (cgc znj (cgc zvl cg0))) (fun a=>by kernel_rfl)
theorem zasc:SG ZP sg 12 @zayr:=conE good Tryz.func12 (by kernel_rfl) (by kernel_rfl) (cgc zat5 (cgc za2h (cgc zats (cgc zatp (cgc zatq (cgc zatu (cgc zaun (cgc zauh (cgc zaq7 (cgc zatv (cgc zauo cg0))))))))))) (fun a=>by kernel_rfl)
end Go.Proofs.YtdahfgialanmpaaGreatDoor
namespace Go.Proofs.YtdahfgialanmpaaGreatDoor
open Ev
open Go (IntKind)
section
variable {α β σ X:Type}
theorem z2o {step:α→Option (α⊕β)}:∀{n m:Nat} {a:α} {b:β},n≤m→za7 step n a=some b→za7 step m a=some b:=by
 intro n
 induction n with
 |zero=>intro m a b _ h;cases h
 |succ n ih=>
  intro m a b hm h
  obtain ⟨m,rfl⟩:∃k,m=k+1:=⟨m-1,by omega⟩
  simp only[za7]at h ⊢
  cases h1:step a with
  |none=>rw[h1]at h;cases h
  |some x=>
   rw[h1]at h
   cases x with
   |inl a'=>exact ih (by omega) h
   |inr b'=>exact h
theorem za5 {step:α→Option (α⊕β)} {a:α} {b:β} (n:Nat) (hn:n≤FUEL) (h:za7 step n a=some b):zac step a=some b:=z2o hn h
theorem zad8 {step:α→Option (α⊕β)} (Inv:α→Prop) (μ:α→Nat) (f:α→β)
 (h:∀a,Inv a→(∃a',step a=some (.inl a')∧Inv a'∧μ a'<μ a∧f a'=f a)∨step a=some (.inr (f a))) {a:α} (ha:Inv a) (hm:μ a<FUEL):zac step a=some (f a):=by
 have key:∀n a,Inv a→μ a<n→za7 step n a=some (f a):=by
  intro n
  induction n with
  |zero=>intro a _ h;omega
  |succ n ih=>
   intro a hi hn
   simp only[za7]
   rcases h a hi with ⟨a',h1,h2,h3,h4⟩|h1
   ·rw[h1];simp only;rw[ih a' h2 (by omega),h4]
   ·rw[h1]
 exact key FUEL a ha hm
def zc2 (f:Nat→X→σ→σ⊕β) (fin:σ→β):Nat→List X→σ→β
 |_,[],s=>fin s
 |i,x::l,s=>match f i x s with
  |.inl s'=>zc2 f fin (i+1) l s'
  |.inr b=>b
theorem zb4 {step:α→Option (α⊕β)} (Inv:Nat→σ→Prop) (enc:Nat→σ→α) (l:List X) (f:Nat→X→σ→σ⊕β) (fin:σ→β) (hl:l.length<FUEL)
 (h0:∀s,Inv l.length s→step (enc l.length s)=some (.inr (fin s)))
 (h1:∀i x s,l[i]?=some x→Inv i s→(step (enc i s)=some (match f i x s with | .inl s'=>.inl (enc (i+1) s') | .inr b=>.inr b))∧∀s',f i x s=.inl s'→Inv (i+1) s')
 (s:σ) (hs:Inv 0 s):zac step (enc 0 s)=some (zc2 f fin 0 l s):=by
 have key:∀k i s,i+k=l.length→Inv i s→za7 step (k+1) (enc i s)=some (zc2 f fin i (l.drop i) s):=by
  intro k
  induction k with
  |zero=>
   intro i s hi hs
   have:i=l.length:=by omega
   subst this
   rw[List.drop_length]
   simp only[za7,h0 s hs,zc2]
  |succ k ih=>
   intro i s hi hs
   have hlt:i<l.length:=by omega
   obtain ⟨e1,e2⟩:=h1 i l[i] s (List.getElem?_eq_getElem hlt) hs
   rw[List.drop_eq_getElem_cons hlt]
   rw[za7,e1]
   simp only[zc2]
   cases hf:f i l[i] s with
   |inl s'=>simp only;exact ih (i+1) s' (by omega) (e2 s' hf)
   |inr b=>rfl
 have:=key l.length 0 s (by omega) hs
 exact za5 (l.length+1) (by omega) (by simpa using this)
theorem zcv {step:α→Option (α⊕β)} (enc:Nat→σ→α) (l:List X) (f:Nat→X→σ→σ⊕β) (fin:σ→β) (hl:l.length<FUEL)
 (h0:∀s,step (enc l.length s)=some (.inr (fin s)))
 (h1:∀i x s,l[i]?=some x→step (enc i s)=some (match f i x s with | .inl s'=>.inl (enc (i+1) s') | .inr b=>.inr b))
 (s:σ):zac step (enc 0 s)=some (zc2 f fin 0 l s):=
 zb4 (fun _ _=>True) enc l f fin hl (fun s _=>h0 s) (fun i x s hx _=>⟨h1 i x s hx,fun _ _=>trivial⟩) s trivial
def fIdx (p:X→Bool) (l:List X):Int:=match l.findIdx? p with|some i=>(i:Int)|none=>-1
def zb5 (f:Nat→X→Int):Nat→List X→Int
 |_,[]=>0
 |i,x::l=>if f i x==0 then zb5 f (i+1) l else f i x
theorem zabb {f:Nat→X→Int} {d:β} {g:Int→β}:∀{l:List X} {i:Nat},zc2 (σ:=Unit) (fun i x _=>if f i x==0 then .inl () else .inr (g (f i x))) (fun _=>d) i l ()=if zb5 f i l==0 then d else g (zb5 f i l):=by
 intro l
 induction l with
 |nil=>intros;rfl
 |cons x l ih=>
  intro i
  simp only[zc2,zb5]
  by_cases h:(f i x==0)=true
  ·simp only[h,if_true];exact ih
  ·have h2:¬f i x=0:=fun e=>h (by simp[e])
   simp[h2]
theorem z2c {f:Nat→X→Int}:∀{l:List X} {i:Nat},zb5 f i l=0↔∀k x,l[k]?=some x→f (i+k) x=0:=by
 intro l
 induction l with
 |nil=>intro i;simp[zb5]
 |cons y l ih=>
  intro i
  simp only[zb5]
  constructor
  ·intro h k x hk
   split at h
   ·rename_i h1
    cases k with
    |zero=>simp at hk;subst hk;simpa using h1
    |succ k=>have:=(ih (i:=i+1)).1 h k x (by simpa using hk);rwa [show i+(k+1)=i+1+k by omega]
   ·rename_i h1;exfalso;apply h1;simp[h]
  ·intro h
   have h0:=h 0 y rfl
   simp only[Nat.add_zero]at h0
   rw[h0]
   simp only[beq_self_eq_true,if_true]
   exact ih.2 (fun k x hk=>by have:=h (k+1) x (by simpa using hk);rwa [show i+(k+1)=i+1+k by omega]at this)
theorem zfe {f:X→σ→σ} {fin:σ→β}:∀{l:List X} {i:Nat} {s:σ},zc2 (fun _ x s=>.inl (f x s)) fin i l s=fin (l.foldl (fun s x=>f x s) s):=by
 intro l
 induction l with
 |nil=>intros;rfl
 |cons x l ih=>intro i s;simp only[zc2,List.foldl_cons];exact ih
end
section
variable {α β σ X:Type} {step:α→Option (α⊕β)}
def zgy (a:α) (g:Int→β) (e:Int):Option (α⊕β):=if e==0 then some (.inl a) else some (.inr (g e))
theorem zdc (a:α) (g:Int→β) (b:Bool) (x y:Int):zgy a g (bif b then x else y)=bif b then zgy a g x else zgy a g y:=by cases b<;>rfl
theorem zd4 (enc:Nat→α) (l:List X) (f:Nat→X→Int) (d:β) (g:Int→β) (hl:l.length<1000000000) (h0:step (enc l.length)=some (.inr d))
 (h1:∀i x,l[i]?=some x→step (enc i)=zgy (enc (i+1)) g (f i x)):zac step (enc 0)=some (if zb5 f 0 l==0 then d else g (zb5 f 0 l)):=by
 have h:=zcv (step:=step) (fun i (_:Unit)=>enc i) l (fun i x _=>if f i x==0 then .inl () else .inr (g (f i x))) (fun _=>d) (by show l.length<18446744073709551616;omega) (fun _=>h0)
  (fun i x _ hx=>by rw[h1 i x hx];unfold zgy;split<;>rfl) ()
 rw[h,zabb]
def zef (p:X→Bool) (g:Nat→X→β) (d:β):Nat→List X→β
 |_,[]=>d
 |i,x::l=>bif p x then g i x else zef p g d (i+1) l
theorem zbf (enc:Nat→α) (l:List X) (p:X→Bool) (g:Nat→X→β) (d:β) (hl:l.length<1000000000) (h0:step (enc l.length)=some (.inr d))
 (h1:∀i x,l[i]?=some x→step (enc i)=bif p x then some (.inr (g i x)) else some (.inl (enc (i+1)))):zac step (enc 0)=some (zef p g d 0 l):=by
 have h:=zcv (step:=step) (fun i (_:Unit)=>enc i) l (fun i x _=>if p x then .inr (g i x) else .inl ()) (fun _=>d) (by show l.length<18446744073709551616;omega) (fun _=>h0)
  (fun i x _ hx=>by rw[h1 i x hx];cases p x<;>rfl) ()
 rw[h]
 have key:∀(l:List X) (i:Nat),zc2 (σ:=Unit) (fun i x _=>if p x then .inr (g i x) else .inl ()) (fun _=>d) i l ()=zef p g d i l:=by
  intro l
  induction l with
  |nil=>intro i;rfl
  |cons x l ih=>
   intro i
   simp only[zc2,zef]
   cases p x with
   |true=>rfl
   |false=>exact ih _
 rw[key]
theorem zgk {p:X→Bool} {g:X→β} {d:β}:∀{l:List X} {i:Nat},zef p (fun _ x=>g x) d i l=(match l.find? p with|some x=>g x|none=>d):=by
 intro l
 induction l with
 |nil=>intros;rfl
 |cons x l ih=>intro i;simp only[zef,List.find?_cons];cases p x with|true=>rfl|false=>exact ih
theorem z8c {p:X→Bool}:∀{l:List X} {i:Nat},zef p (fun i _=>(i:Int)) (-1) i l=(match l.findIdx? p with|some k=>((i+k:Nat):Int)|none=>-1):=by
 intro l
 induction l with
 |nil=>intros;rfl
 |cons x l ih=>
  intro i
  simp only[zef,List.findIdx?_cons]
  cases p x with
  |true=>rfl
  |false=>
   simp only[Bool.false_eq_true,if_false,cond_false]
   rw[ih]
   cases l.findIdx? p with
   |none=>rfl
   |some k=>simp only[Option.map_some];rw[show i+1+k=i+(k+1) by omega]
theorem zdd {p:X→Bool} {l:List X}:zef p (fun i _=>(i:Int)) (-1) 0 l=fIdx p l:=by
 rw[z8c];unfold fIdx;simp
theorem zcg {γ:Type} {p:X→Bool} {g:Nat→X→β} {d:β} (f:β→γ):∀{l:List X} {i:Nat},f (zef p g d i l)=zef p (fun i x=>f (g i x)) (f d) i l:=by
 intro l
 induction l with
 |nil=>intros;rfl
 |cons x l ih=>intro i;simp only[zef];cases p x with|true=>rfl|false=>exact ih
def zc4 (p:Nat→X→Bool):Nat→List X→Bool
 |_,[]=>true
 |i,x::l=>p i x&&zc4 p (i+1) l
theorem zav (enc:Nat→α) (l:List X) (p:Nat→X→Bool) (b d:β) (hl:l.length<1000000000) (h0:step (enc l.length)=some (.inr d))
 (h1:∀i x,l[i]?=some x→step (enc i)=bif p i x then some (.inl (enc (i+1))) else some (.inr b)):zac step (enc 0)=some (bif zc4 p 0 l then d else b):=by
 have h:=zcv (step:=step) (fun i (_:Unit)=>enc i) l (fun i x _=>if p i x then .inl () else .inr b) (fun _=>d) (by show l.length<18446744073709551616;omega) (fun _=>h0)
  (fun i x _ hx=>by rw[h1 i x hx];cases p i x<;>rfl) ()
 rw[h]
 have key:∀(l:List X) (i:Nat),zc2 (σ:=Unit) (fun i x _=>if p i x then .inl () else .inr b) (fun _=>d) i l ()=bif zc4 p i l then d else b:=by
  intro l
  induction l with
  |nil=>intro i;rfl
  |cons x l ih=>
   intro i
   simp only[zc2,zc4]
   cases p i x with
   |true=>exact ih _
   |false=>rfl
 rw[key]
theorem za0 {p:X→Bool}:∀{l:List X} {i:Nat},zc4 (fun _=>p) i l=l.all p:=by
 intro l
 induction l with
 |nil=>intros;rfl
 |cons x l ih=>intro i;simp only[zc4,List.all_cons];rw[ih]
theorem zrf {p:Nat→X→Bool}:∀{l:List X} {i:Nat},zc4 p i l=true↔∀k x,l[k]?=some x→p (i+k) x=true:=by
 intro l
 induction l with
 |nil=>intro i;simp[zc4]
 |cons y l ih=>
  intro i
  simp only[zc4,Bool.and_eq_true]
  rw[ih]
  constructor
  ·rintro ⟨h0,h⟩ k x hk
   cases k with
   |zero=>simp at hk;subst hk;exact h0
   |succ k=>have:=h k x (by simpa using hk);rwa [show i+(k+1)=i+1+k by omega]
  ·intro h
   exact ⟨h 0 y rfl,fun k x hk=>by have:=h (k+1) x (by simpa using hk);rwa [show i+(k+1)=i+1+k by omega]at this⟩
theorem zxj (enc:Nat→σ→α) (l:List X) (f:X→σ→σ) (fin:σ→β) (hl:l.length<1000000000) (h0:∀s,step (enc l.length s)=some (.inr (fin s)))
 (h1:∀i x s,l[i]?=some x→step (enc i s)=some (.inl (enc (i+1) (f x s)))) (s:σ):zac step (enc 0 s)=some (fin (l.foldl (fun s x=>f x s) s)):=by
 have h:=zcv (step:=step) enc l (fun i x s=>.inl (f x s)) fin (by show l.length<18446744073709551616;omega) h0 (fun i x s hx=>by rw[h1 i x s hx]) s
 rw[h,zfe]
end
def zbp {X:Type} (l:List X) (i:Nat) (f:X→Bool):Bool:=match i with
 |0=>false
 |j+1=>match l[j]? with|some y=>f y|none=>false
theorem zee {n:Int} (h1 : -9223372036854775808≤n) (h2:n≤9223372036854775807):wr .i64 n=n:=by
 unfold wr;rw[IntKind.wrap_i64];omega
theorem zam {n:Nat} (h:n<9223372036854775807):wr .i64 ((n:Int)+1)=((n+1:Nat):Int):=by
 rw[zee (by omega) (by omega)];rfl
theorem zgg {j:Nat} (h:j<1000000000):wr .i64 (((j+1:Nat):Int)-1)=(j:Int):=by
 rw[show ((j+1:Nat):Int)-1=(j:Int) by omega]
 exact zee (by omega) (by omega)
theorem dpos {j:Nat}:decide ((0:Int)<((j+1:Nat):Int))=true:=by rw[decide_eq_true_eq];omega
theorem z19:decide ((0:Int)<((0:Nat):Int))=false:=rfl
theorem zag {α:Type} (l:List α) (i:Nat):getI l (i:Int)=l[i]?:=by
 unfold getI;simp
theorem zajx:LIM=1073741824:=rfl
theorem za6:FUEL=18446744073709551616:=rfl
end Go.Proofs.YtdahfgialanmpaaGreatDoor
namespace Go.Proofs.YtdahfgialanmpaaGreatDoor
open Ev
open Go (IntKind)
theorem dlt {i n:Nat} (h:i<n):decide ((i:Int)<(n:Int))=true:=by simpa using h
theorem dge {n:Nat}:decide ((n:Int)<(n:Int))=false:=by simp
theorem k_or {α:Type} (k:Bool→α) (a b:Bool):(bif a then k true else k b)=k (a||b):=by cases a<;>rfl
theorem za4 {α:Type} (k:Bool→α) (a b:Bool):(bif a then k b else k false)=k (a&&b):=by cases a<;>rfl
theorem zib {α:Type} (k:Bool→α) (a b:Bool):(bif a then k a else k b)=k (a||b):=by cases a<;>rfl
theorem zcz {α:Type} (c:Bool) (a b:α):(bif c then some a else some b)=some (bif c then a else b):=by cases c<;>rfl
theorem za0m (b:UInt8):wr .i64 (b.toNat:Int)=(b.toNat:Int):=by
 have:=b.toNat_lt
 exact zee (by omega) (by omega)
def dcdI (r:List UInt8):Int×Int:=(((dcd r).1:Int),((dcd r).2:Int))
theorem zaau {s:List UInt8} {i:Nat} (hi:i<s.length) (hs:s.length<1000000000):qbh s (i:Int)=some (dcdI (s.drop i)):=by
 obtain ⟨a,r,hr⟩:∃a r,s.drop i=a::r:=⟨s[i],s.drop (i+1),List.drop_eq_getElem_cons hi⟩
 have g:∀k,getI s ((i+k:Nat):Int)=(a::r)[k]?:=fun k=>by rw[zag,←hr,List.getElem?_drop]
 have h0:getI s (i:Int)=some a:=g 0
 have w1:wr .i64 ((i:Int)+1)=((i+1:Nat):Int):=zam (by omega)
 have w2:wr .i64 ((i:Int)+2)=((i+2:Nat):Int):=by rw[zee (by omega) (by omega)];rfl
 have hl:s.length=i+(r.length+1):=by
  have:=congrArg List.length hr
  simp only[List.length_drop,List.length_cons]at this
  omega
 have ha:=a.toNat_lt
 unfold qbh
 rw[hr]
 unfold dcdI dcd
 have t1:decide (((i+1:Nat):Int)<((i+(r.length+1):Nat):Int))=decide (0<r.length):=by congr 1;simp only[eq_iff_iff];omega
 have t2:decide (((i+2:Nat):Int)<((i+(r.length+1):Nat):Int))=decide (1<r.length):=by congr 1;simp only[eq_iff_iff];omega
 simp -zeta only[h0,w1,w2,g 1,g 2,za0m,k_or,za4,hl,t1,t2]
 dsimp only
 clear hl t1 t2 g hr hi h0 w1 w2 hs
 by_cases c1:32≤a.toNat∧a.toNat<127
 ·have e1:(decide ((32:Int)≤(a.toNat:Int))&&decide ((a.toNat:Int)<127))=true:=by simp;omega
  simp only[e1,cond_true,if_pos c1];rfl
 have e1:(decide ((32:Int)≤(a.toNat:Int))&&decide ((a.toNat:Int)<127))=false:=by simp;omega
 simp only[e1,cond_false,if_neg c1]
 by_cases c2:194≤a.toNat∧a.toNat<224
 ·have e2:(decide ((194:Int)≤(a.toNat:Int))&&decide ((a.toNat:Int)<224))=true:=by simp;omega
  have e3:decide ((224:Int)≤(a.toNat:Int))=false:=by simp;omega
  simp only[e2,e3,Bool.true_and,Bool.false_and,cond_false,if_pos c2]
  rcases r with _|⟨b,r⟩
  ·rfl
  have hb:=b.toNat_lt
  have l1:decide (0<(b::r).length)=true:=by simp
  have g1:(a::b::r)[1]?=some b:=rfl
  have e4:wr .i64 ((wr .i64 ((wr .i64 ((wr .i64 ((a.toNat:Int)-192))*64))+(b.toNat:Int)))-128)=((a.toNat:Int)-192)*64+(b.toNat:Int)-128:=by
   rw[zee (n:=(a.toNat:Int)-192) (by omega) (by omega),zee (n:=((a.toNat:Int)-192)*64) (by omega) (by omega),zee (n:=((a.toNat:Int)-192)*64+(b.toNat:Int)) (by omega) (by omega),zee (by omega) (by omega)]
  simp only[l1,g1,e4,cond_true]
  by_cases cb:128≤b.toNat
  ·have b1:decide ((128:Int)≤(b.toNat:Int))=true:=by simp;omega
   simp only[b1,cond_true]
   by_cases cb2:b.toNat<192
   ·have b2:decide ((b.toNat:Int)<192)=true:=by simp;omega
    simp only[b2,g1,cond_true,Bool.cond_eq_ite,decide_eq_true_eq]
    rw[if_pos True.intro]
    split
    ·rw[if_pos (by omega)];simp only[Option.some.injEq,Prod.mk.injEq];omega
    ·rw[if_neg (by omega)];rfl
   ·have b2:decide ((b.toNat:Int)<192)=false:=by simp;omega
    simp only[b2,cond_false]
    rw[if_neg (by omega)];rfl
  ·have b1:decide ((128:Int)≤(b.toNat:Int))=false:=by simp;omega
   simp only[b1,cond_false]
   rw[if_neg (by omega)];rfl
 have e2:(decide ((194:Int)≤(a.toNat:Int))&&decide ((a.toNat:Int)<224))=false:=by simp;omega
 simp only[e2,Bool.false_and,cond_false,if_neg c2]
 by_cases c3:224≤a.toNat∧a.toNat<240
 ·have e3:(decide ((224:Int)≤(a.toNat:Int))&&decide ((a.toNat:Int)<240))=true:=by simp;omega
  simp only[e3,Bool.true_and,if_pos c3]
  rcases r with _|⟨b,_|⟨c,r⟩⟩
  ·rfl
  ·rfl
  have hb:=b.toNat_lt
  have hc:=c.toNat_lt
  have l1:decide (1<(b::c::r).length)=true:=by simp
  have g1:(a::b::c::r)[1]?=some b:=rfl
  have g2:(a::b::c::r)[2]?=some c:=rfl
  have e4:wr .i64 ((wr .i64 ((wr .i64 ((wr .i64 ((wr .i64 ((a.toNat:Int)-224))*4096))+(wr .i64 ((wr .i64 ((b.toNat:Int)-128))*64))))+(c.toNat:Int)))-128)=((a.toNat:Int)-224)*4096+((b.toNat:Int)-128)*64+(c.toNat:Int)-128:=by
   rw[zee (n:=(a.toNat:Int)-224) (by omega) (by omega),zee (n:=((a.toNat:Int)-224)*4096) (by omega) (by omega),zee (n:=(b.toNat:Int)-128) (by omega) (by omega),zee (n:=((b.toNat:Int)-128)*64) (by omega) (by omega),
    zee (n:=((a.toNat:Int)-224)*4096+((b.toNat:Int)-128)*64) (by omega) (by omega),zee (n:=((a.toNat:Int)-224)*4096+((b.toNat:Int)-128)*64+(c.toNat:Int)) (by omega) (by omega),zee (by omega) (by omega)]
  simp only[l1,g1,g2,e4,cond_true]
  by_cases cb:128≤b.toNat
  ·have b1:decide ((128:Int)≤(b.toNat:Int))=true:=by simp;omega
   simp only[b1,cond_true]
   by_cases cb2:b.toNat<192
   ·have b2:decide ((b.toNat:Int)<192)=true:=by simp;omega
    simp only[b2,cond_true]
    by_cases cc:128≤c.toNat
    ·have d1:decide ((128:Int)≤(c.toNat:Int))=true:=by simp;omega
     simp only[d1,cond_true]
     by_cases cc2:c.toNat<192
     ·have d2:decide ((c.toNat:Int)<192)=true:=by simp;omega
      simp only[d2,g1,g2,cond_true,Bool.cond_eq_ite,Bool.and_eq_true,Bool.or_eq_true,decide_eq_true_eq]
      rw[if_pos True.intro]
      split
      ·rw[if_pos (by omega)];simp only[Option.some.injEq,Prod.mk.injEq];omega
      ·rw[if_neg (by omega)];rfl
     ·have d2:decide ((c.toNat:Int)<192)=false:=by simp;omega
      simp only[d2,cond_false]
      rw[if_neg (by omega)];rfl
    ·have d1:decide ((128:Int)≤(c.toNat:Int))=false:=by simp;omega
     simp only[d1,cond_false]
     rw[if_neg (by omega)];rfl
   ·have b2:decide ((b.toNat:Int)<192)=false:=by simp;omega
    simp only[b2,cond_false]
    rw[if_neg (by omega)];rfl
  ·have b1:decide ((128:Int)≤(b.toNat:Int))=false:=by simp;omega
   simp only[b1,cond_false]
   rw[if_neg (by omega)];rfl
 ·have e3:(decide ((224:Int)≤(a.toNat:Int))&&decide ((a.toNat:Int)<240))=false:=by simp;omega
  simp only[e3,Bool.false_and,cond_false,if_neg c3];rfl
theorem zals (l:List UInt8):(dcd l).2≤l.length:=by
 unfold dcd
 split
 ·simp
 ·rename_i a r
  split
  ·simp
  ·split
   ·split
    ·split<;>simp
    ·simp
   ·split
    ·split
     ·split<;>simp
     ·simp
    ·simp
theorem zad5 (n:Nat) {s:List UInt8} {i:Nat} (hi:i<s.length):vldN (n+1) (s.drop i)=if (dcd (s.drop i)).2=0 then false else vldN n (s.drop (i+(dcd (s.drop i)).2)):=by
 have:s.drop i≠[]:=by simp;omega
 simp only[vldN,this,if_false,List.drop_drop]
theorem zanj {s:List UInt8} (hs:s.length<1000000000):qaq s=some (vld s):=by
 have key:∀n i,s.length-i≤n→i≤s.length→za7 zoi (n+1) (s,(i:Int),())=some (if vldN n (s.drop i) then .inl () else .inr (false,())):=by
  intro n
  induction n with
  |zero=>
   intro i h1 h2
   have:i=s.length:=by omega
   subst this
   simp only[za7,zoi,dge,cond_false,vldN,if_true]
  |succ n ih=>
   intro i h1 h2
   rw[za7]
   by_cases hi:i<s.length
   ·rw[zad5 n hi]
    have hle:=zals (s.drop i)
    rw[List.length_drop]at hle
    simp only[zoi,dlt hi,cond_true,zaau hi hs,dcdI]
    by_cases h0:(dcd (s.drop i)).2=0
    ·simp[h0]
    ·have hb:(((dcd (s.drop i)).2:Int)==0)=false:=by simp;omega
     have hw:wr .i64 ((i:Int)+((dcd (s.drop i)).2:Int))=((i+(dcd (s.drop i)).2:Nat):Int):=by rw[zee (by omega) (by omega)];rfl
     simp only[hb,cond_false,hw,h0,if_false]
     exact ih _ (by omega) (by omega)
   ·have:i=s.length:=by omega
    subst this
    simp[zoi,vldN]
 unfold qaq
 have:=key s.length 0 (by omega) (by omega)
 rw[show ((0:Int))=((0:Nat):Int) from rfl,za5 (s.length+1) (by rw[za6];omega) this]
 simp only[List.drop_zero]
 unfold vld
 cases vldN s.length s<;>rfl
theorem za6f {s:List UInt8} {i:Nat} (hi:i<s.length) (hs:s.length<1000000000):qf s (i:Int)=some ((wid (s.drop i):Nat):Int):=by
 unfold qf wid
 rw[zaau hi hs]
 show some (if (((dcd (s.drop i)).2:Nat):Int)<1 then (1:Int) else (((dcd (s.drop i)).2:Nat):Int))=_
 rw[Option.some.injEq]
 by_cases h:(dcd (s.drop i)).2<1
 ·rw[if_pos h,if_pos (by omega)];rfl
 ·rw[if_neg h,if_neg (by omega)]
theorem za52 {l:List UInt8} (h:l≠[]):1≤wid l∧wid l≤l.length:=by
 have:=zals l
 have:0<l.length:=List.length_pos_iff.2 h
 unfold wid
 split<;>omega
theorem z58 (n:Nat) {s:List UInt8} {i:Nat} (hi:i<s.length) {out:List UInt8} {gap:Bool}:clnN (n+1) (s.drop i) out gap =
 if blk (dcd (s.drop i)).1 then clnN n (s.drop (i+wid (s.drop i))) out true else clnN n (s.drop (i+wid (s.drop i))) ((if gap&&!(out==[]) then out++[32] else out)++(s.drop i).take (wid (s.drop i))) false:=by
 have:s.drop i≠[]:=by simp;omega
 rw[clnN,if_neg this,List.drop_drop]
theorem za4a {s:List UInt8} (hs:s.length<100000000):qba s=some (cln s):=by
 have key:∀n i (out:List UInt8) (gap:Bool),s.length-i≤n→i≤s.length→out.length≤2*i→za7 zoq (n+1) (s,out,gap,(i:Int),())=some (clnN n (s.drop i) out gap,()):=by
  intro n
  induction n with
  |zero=>
   intro i out gap h1 h2 h3
   have:i=s.length:=by omega
   subst this
   simp only[za7,zoq,dge,cond_false,clnN]
  |succ n ih=>
   intro i out gap h1 h2 h3
   rw[za7]
   by_cases hi:i<s.length
   ·rw[z58 n hi]
    have hw0:=za52 (l:=s.drop i) (by simp;omega)
    rw[List.length_drop]at hw0
    obtain ⟨k,hk⟩:∃k,wid (s.drop i)=k:=⟨_,rfl⟩
    rw[hk]at hw0 ⊢
    have hw:wr .i64 ((i:Int)+(k:Int))=((i+k:Nat):Int):=by rw[zee (by omega) (by omega)];rfl
    have hb:qan ((dcd (s.drop i)).1:Int)=some (blk (dcd (s.drop i)).1):=by
     unfold qan
     simp -zeta only[k_or]
     simp only[Option.some.injEq,blk]
     rw[Bool.eq_iff_iff];simp;omega
    simp only[zoq,dlt hi,cond_true,zaau hi (show s.length<1000000000 by omega),za6f hi (show s.length<1000000000 by omega),dcdI,hb,hk,hw]
    cases blk (dcd (s.drop i)).1 with
    |true=>simp only[cond_true,if_true];exact ih _ _ _ (by omega) (by omega) (by omega)
    |false=>
     have hc:(decide ((0:Int)≤(i:Int))&&(decide ((i:Int)≤((i+k:Nat):Int))&&decide (((i+k:Nat):Int)≤(s.length:Int))))=true:=by simp;omega
     have ht:(s.take (i+k)).drop i=(s.drop i).take k:=by rw[List.drop_take];congr 1;omega
     simp only[cond_false,hc,cond_true,Int.toNat_natCast,ht,Bool.false_eq_true,if_false]
     have hlen:∀o:List UInt8,o.length≤2*i+1→decide (o.length+((s.drop i).take k).length≤LIM)=true:=fun o ho=>by
      rw[zajx];simp only[List.length_take,List.length_drop,decide_eq_true_eq];omega
     cases hg:(gap&&!(out==[])) with
     |true=>
      simp only[Bool.and_eq_true,Bool.not_eq_true']at hg
      have h32:decide (out.length+([32]:List Nat).length≤LIM)=true:=by rw[zajx];simp;omega
      simp only[hg.1,hg.2,hc,ht,Int.toNat_natCast,cond_true,Bool.not_false,h32,hlen (out++[32]) (by simp;omega),if_true]
      exact ih _ _ _ (by omega) (by omega) (by simp;omega)
     |false=>
      cases gap with
      |false=>
       simp only[cond_false,hlen out (by omega),cond_true,Bool.false_eq_true,if_false]
       exact ih _ _ _ (by omega) (by omega) (by simp;omega)
      |true=>
       simp only[Bool.true_and]at hg
       simp only[cond_true,hg,cond_false,hlen out (by omega),Bool.false_eq_true,if_false]
       exact ih _ _ _ (by omega) (by omega) (by simp;omega)
   ·have:i=s.length:=by omega
    subst this
    simp[zoq,clnN]
 unfold qba
 have:=key s.length 0 [] false (by omega) (by omega) (by simp)
 rw[show ((0:Int))=((0:Nat):Int) from rfl,za5 (s.length+1) (by rw[za6];omega) this]
 try rfl
end Go.Proofs.YtdahfgialanmpaaGreatDoor
namespace Go.Proofs.YtdahfgialanmpaaGreatDoor
open Ev
open Go (IntKind)
def rng (lo hi n:Int):Bool:=decide (lo≤n)&&decide (n≤hi)
theorem zaoe (n:Int):qfp n=some (rng 0 109572 n):=by
 unfold qfp
 simp -zeta only[k_or,za4]
 try rfl
theorem zaoa (n:Int):qdx n=some (rng 0 109572 n):=by
 unfold qdx
 simp -zeta only[k_or,za4]
 try rfl
theorem zan8 (n:Int):qdc n=some (rng 1 9999 n):=by
 unfold qdc
 simp -zeta only[k_or,za4]
 try rfl
theorem za4e (n lo hi:Int):qbo n lo hi=some (rng lo hi n):=by
 unfold qbo
 simp -zeta only[k_or,za4]
 try rfl
def zb7 (l:List Charge) (i:Nat) (x:Charge):Int:=
 bif zbp l i (fun y=>decide (x.ID≤y.ID)) then 7
 else bif decide (x.ID<1)||decide (99999<x.ID)||decide (x.Patron<1)||decide (9999<x.Patron)||decide (x.Item<1)||decide (9999<x.Item)||!(rng 0 109572 x.Day) then 2
 else bif decide (x.Kind<1)||decide (3<x.Kind) then 1
 else bif decide (x.Amount<1)||decide (100000000<x.Amount)||decide (x.Paid<0)||decide (x.Amount≤x.Paid) then 2 else 0
def za8 (l:List Charge):Int:=bif decide (128<(l.length:Int)) then 13 else zb5 (zb7 l) 0 l
theorem z3u {l:List Charge} (hl:l.length<1000000000):zac zlu (l,0,())=some (if zb5 (zb7 l) 0 l==0 then .inl () else .inr (zb5 (zb7 l) 0 l,())):=by
 have h:=zd4 (step:=zlu) (fun i=>(l,(i:Int),())) l (zb7 l) (.inl ()) (fun e=>.inr (e,())) hl
  (by simp only[zlu,dge,cond_false])
  (fun i x hx=>by
   have hi:=(List.getElem?_eq_some_iff.1 hx).1
   have hxm:=List.mem_of_getElem? hx
   unfold zb7
   simp only[zdc]
   rcases i with _|j
   ·simp -zeta only[zlu,dlt hi,zag,hx,k_or,za4,z19,cond_false,cond_true,zbp,zam (show 0<9223372036854775807 by omega),zaoe]
    try rfl
   ·have hj:l[j]?=some l[j]:=List.getElem?_eq_getElem (by omega)
    simp -zeta only[zlu,dlt hi,zag,hx,k_or,za4,dpos,zgg (show j<1000000000 by omega),hj,cond_false,cond_true,zbp,zam (show j+1<9223372036854775807 by omega),zaoe]
    rfl)
 exact h
theorem zanl {l:List Charge} (hl:l.length<1000000000):qat l=some (za8 l):=by
 unfold qat za8
 rw[z3u hl]
 generalize zb5 (zb7 l) 0 l=e
 cases decide (128<(l.length:Int)) with
 |true=>rfl
 |false=>
  by_cases h:e=0
  ·subst h;rfl
  ·have h2:(e==0)=false:=by simpa using h
   simp only[h2,Bool.false_eq_true,if_false,cond_false]
def zfa (l:List Patron) (i:Nat) (x:Patron):Int:=
 bif decide (x.ID<1)||decide (9999<x.ID) then 2
 else bif zbp l i (fun y=>decide (x.ID≤y.ID)) then 7
 else bif decide (x.Kind<1)||decide (9<x.Kind)||decide (x.Branch<1)||decide (4<x.Branch) then 1
 else bif decide (x.Until<0)||decide (109572<x.Until) then 2
 else bif x.Name==[]||!(vld x.Name)||!(cln x.Name==x.Name) then 3
 else bif decide (200<(x.Name.length:Int)) then 4 else 0
def zfb (l:List Patron):Int:=bif decide (32<(l.length:Int)) then 13 else zb5 (zfa l) 0 l
theorem z3w {l:List Patron} (hl:l.length<1000000000) (hn:∀x∈l,x.Name.length<10000000):zac zlw (l,0,())=some (if zb5 (zfa l) 0 l==0 then .inl () else .inr (zb5 (zfa l) 0 l,())):=by
 have h:=zd4 (step:=zlw) (fun i=>(l,(i:Int),())) l (zfa l) (.inl ()) (fun e=>.inr (e,())) hl
  (by simp only[zlw,dge,cond_false])
  (fun i x hx=>by
   have hi:=(List.getElem?_eq_some_iff.1 hx).1
   have hxm:=List.mem_of_getElem? hx
   have hv:=zanj (s:=x.Name) (by have:=hn x hxm;omega)
   have hc:=za4a (s:=x.Name) (by have:=hn x hxm;omega)
   unfold zfa
   simp only[zdc]
   rcases i with _|j
   ·simp -zeta only[zlw,dlt hi,zag,hx,k_or,za4,z19,cond_false,cond_true,zbp,zam (show 0<9223372036854775807 by omega),hv,hc]
    try rfl
   ·have hj:l[j]?=some l[j]:=List.getElem?_eq_getElem (by omega)
    simp -zeta only[zlw,dlt hi,zag,hx,k_or,za4,dpos,zgg (show j<1000000000 by omega),hj,cond_false,cond_true,zbp,zam (show j+1<9223372036854775807 by omega),hv,hc]
    rfl)
 exact h
theorem za35 {l:List Patron} (hl:l.length<1000000000) (hn:∀x∈l,x.Name.length<10000000):qax l=some (zfb l):=by
 unfold qax zfb
 rw[z3w hl hn]
 generalize zb5 (zfa l) 0 l=e
 cases decide (32<(l.length:Int)) with
 |true=>rfl
 |false=>
  by_cases h:e=0
  ·subst h;rfl
  ·have h2:(e==0)=false:=by simpa using h
   simp only[h2,Bool.false_eq_true,if_false,cond_false]
def zid (l:List Loan) (i:Nat) (x:Loan):Int:=
 bif zbp l i (fun y=>decide (x.Item≤y.Item)) then 7
 else bif decide (x.Item<1)||decide (9999<x.Item)||decide (x.Patron<1)||decide (9999<x.Patron)||decide (x.Out<0)||decide (109572<x.Out)||decide (x.Due<0)||decide (109572<x.Due)||decide (x.Due<x.Out)||decide (x.Renewals<0)||decide (10<x.Renewals) then 2 else 0
def zhv (l:List Loan):Int:=bif decide (64<(l.length:Int)) then 13 else zb5 (zid l) 0 l
theorem z3v {l:List Loan} (hl:l.length<1000000000):zac zlv (l,0,())=some (if zb5 (zid l) 0 l==0 then .inl () else .inr (zb5 (zid l) 0 l,())):=by
 have h:=zd4 (step:=zlv) (fun i=>(l,(i:Int),())) l (zid l) (.inl ()) (fun e=>.inr (e,())) hl
  (by simp only[zlv,dge,cond_false])
  (fun i x hx=>by
   have hi:=(List.getElem?_eq_some_iff.1 hx).1
   have hxm:=List.mem_of_getElem? hx
   unfold zid
   simp only[zdc]
   rcases i with _|j
   ·simp -zeta only[zlv,dlt hi,zag,hx,k_or,za4,z19,cond_false,cond_true,zbp,zam (show 0<9223372036854775807 by omega)]
    try rfl
   ·have hj:l[j]?=some l[j]:=List.getElem?_eq_getElem (by omega)
    simp -zeta only[zlv,dlt hi,zag,hx,k_or,za4,dpos,zgg (show j<1000000000 by omega),hj,cond_false,cond_true,zbp,zam (show j+1<9223372036854775807 by omega)]
    rfl)
 exact h
theorem za34 {l:List Loan} (hl:l.length<1000000000):qaw l=some (zhv l):=by
 unfold qaw zhv
 rw[z3v hl]
 generalize zb5 (zid l) 0 l=e
 cases decide (64<(l.length:Int)) with
 |true=>rfl
 |false=>
  by_cases h:e=0
  ·subst h;rfl
  ·have h2:(e==0)=false:=by simpa using h
   simp only[h2,Bool.false_eq_true,if_false,cond_false]
def zb0 (h:Hold):Int:=
 bif decide (h.ID<1)||decide (99999<h.ID)||!(rng 1 9999 h.Patron)||!(rng 1 9999 h.Record)||!(h.Item==0)&&!(rng 1 9999 h.Item)||decide (h.Pickup<1)||decide (4<h.Pickup)||!(rng 0 109572 h.Placed)||!(h.Got==0)&&!(rng 1 9999 h.Got)||!(rng 0 109572 h.Until)||!(rng 0 109572 h.Asleep)||decide (h.Rank<0)||decide (9<h.Rank) then 2
 else bif decide (h.State<1)||decide (3<h.State) then 1
 else bif !((decide (0<h.Got))==(!(h.State==1)))||!((decide (0<h.Until))==(h.State==3)) then 12 else 0
theorem zan5 (h:Hold):qd6 h=some (zb0 h):=by
 unfold qd6 zb0
 simp -zeta only[k_or,za4,zan8,zaoa,←zcz]
 try rfl
def zde (l:List Hold) (i:Nat) (x:Hold):Int:=
 bif zbp l i (fun y=>decide (x.ID≤y.ID)) then 7 else bif !(zb0 x==0) then zb0 x else 0
theorem zaa1 {l:List Hold} (hl:l.length<1000000000):zac zwr (l,0,())=some (if zb5 (zde l) 0 l==0 then .inl (l,()) else .inr (zb5 (zde l) 0 l,())):=by
 have h:=zd4 (step:=zwr) (fun i=>(l,(i:Int),())) l (zde l) (.inl (l,())) (fun e=>.inr (e,())) hl
  (by simp only[zwr,dge,cond_false])
  (fun i x hx=>by
   have hi:=(List.getElem?_eq_some_iff.1 hx).1
   have hxm:=List.mem_of_getElem? hx
   have hs:∀(a:List Hold×Int×Unit) (g:Int→((List Hold×Unit)⊕(Int×Unit))),(bif !(zb0 x==0) then zgy a g (zb0 x) else zgy a g 0)=bif !(zb0 x==0) then some (.inr (g (zb0 x))) else some (.inl a):=fun a g=>by
    unfold zgy
    cases zb0 x==0<;>rfl
   unfold zde
   simp only[zdc,hs]
   rcases i with _|j
   ·simp -zeta only[zwr,dlt hi,zag,hx,k_or,za4,z19,cond_false,cond_true,zbp,zam (show 0<9223372036854775807 by omega),zan5]
    try rfl
   ·have hj:l[j]?=some l[j]:=List.getElem?_eq_getElem (by omega)
    simp -zeta only[zwr,dlt hi,zag,hx,k_or,za4,dpos,zgg (show j<1000000000 by omega),hj,cond_false,cond_true,zbp,zam (show j+1<9223372036854775807 by omega),zan5]
    rfl)
 exact h
def ze6 (x y:Hold):Bool:=x.Patron==y.Patron&&x.Record==y.Record||decide (0<x.Got)&&x.Got==y.Got
theorem z36 {l:List Hold} {i:Nat} {x:Hold} (hl:l.length<1000000000) (hx:l[i]?=some x):zac zl9 (l,(i:Int),0,())=some (bif (l.take i).all (fun y=>!(ze6 x y)) then .inl (l,(i:Int),()) else .inr (7,())):=by
 have hi:=(List.getElem?_eq_some_iff.1 hx).1
 have h:=zav (step:=zl9) (fun k=>(l,(i:Int),(k:Int),())) (l.take i) (fun _ y=>!(ze6 x y)) (.inr (7,())) (.inl (l,(i:Int),())) (by rw[List.length_take];omega)
  (by rw[List.length_take,Nat.min_eq_left (by omega)];simp only[zl9,dge,cond_false])
  (fun k y hy=>by
   have hk:=(List.getElem?_eq_some_iff.1 hy).1
   rw[List.length_take]at hk
   have hy2:l[k]?=some y:=by rw[←hy,List.getElem?_take_of_lt (by omega)]
   simp -zeta only[zl9,dlt (show k<i by omega),zag,hx,hy2,k_or,za4,cond_true,zam (show k<9223372036854775807 by omega)]
   dsimp only
   unfold ze6
   cases (x.Patron==y.Patron&&x.Record==y.Record||decide (0<x.Got)&&x.Got==y.Got)<;>rfl)
 rw[show zac zl9 (l,(i:Int),0,())=_ from h,za0]
def zia (l:List Hold):Bool:=zc4 (fun i x=>(l.take i).all (fun y=>!(ze6 x y))) 0 l
theorem z35 {l:List Hold} (hl:l.length<1000000000):zac zow (l,0,())=some (bif zia l then .inl () else .inr (7,())):=by
 have h:=zav (step:=zow) (fun i=>(l,(i:Int),())) l (fun i x=>(l.take i).all (fun y=>!(ze6 x y))) (.inr (7,())) (.inl ()) hl
  (by simp only[zow,dge,cond_false])
  (fun i x hx=>by
   have hi:=(List.getElem?_eq_some_iff.1 hx).1
   simp only[zow,dlt hi,cond_true,z36 hl hx]
   cases (l.take i).all (fun y=>!(ze6 x y)) with
   |true=>simp only[cond_true,zam (show i<9223372036854775807 by omega)]
   |false=>rfl)
 exact h
def zd0 (l:List Hold):Int:=bif decide (64<(l.length:Int)) then 13 else bif zb5 (zde l) 0 l==0 then (bif zia l then 0 else 7) else zb5 (zde l) 0 l
theorem za6i {l:List Hold} (hl:l.length<1000000000):qm l=some (zd0 l):=by
 unfold qm zd0
 rw[zaa1 hl]
 cases decide (64<(l.length:Int)) with
 |true=>rfl
 |false=>
  by_cases h:zb5 (zde l) 0 l=0
  ·simp only[h,beq_self_eq_true,if_true,cond_false,cond_true,z35 hl]
   cases zia l<;>rfl
  ·have:(zb5 (zde l) 0 l==0)=false:=by simpa using h
   simp only[this,Bool.false_eq_true,if_false,cond_false]
def zo1 (r:Rule):Bool:=rng 0 9 r.Patron&&rng 0 9 r.Item&&rng 0 4 r.Branch&&(rng 0 365 r.Days&&rng 0 10 r.Renewals&&rng 0 99 r.Loans)&&(rng 0 1000 r.Fine&&rng 0 30 r.Grace&&rng 0 100000000 r.MaxFine)&&rng 1 60 r.Shelf&&rng 1 60 r.Recall&&rng 0 109572 r.Fixed&&rng 0 9 r.Rank
theorem za4g (r:Rule):qc9 r=some (zo1 r):=by
 unfold qc9 zo1
 simp -zeta only[k_or,za4,za4e]
 try rfl
def zhz (x y:Rule):Bool:=x.Patron==y.Patron&&x.Item==y.Item&&x.Branch==y.Branch
def zhc (l:List Rule) (i:Nat) (x:Rule):Int:=bif !(zo1 x) then 2 else bif (l.take i).all (fun y=>!(zhz y x)) then 0 else 7
theorem zaa0 {l:List Rule} {i:Nat} {x:Rule} (hl:l.length<1000000000) (hx:l[i]?=some x):zac zwp (l,(i:Int),0,())=some (bif (l.take i).all (fun y=>!(zhz y x)) then .inl (l,(i:Int),()) else .inr (7,())):=by
 have hi:=(List.getElem?_eq_some_iff.1 hx).1
 have h:=zav (step:=zwp) (fun k=>(l,(i:Int),(k:Int),())) (l.take i) (fun _ y=>!(zhz y x)) (.inr (7,())) (.inl (l,(i:Int),())) (by rw[List.length_take];omega)
  (by rw[List.length_take,Nat.min_eq_left (by omega)];simp only[zwp,dge,cond_false])
  (fun k y hy=>by
   have hk:=(List.getElem?_eq_some_iff.1 hy).1
   rw[List.length_take]at hk
   have hy2:l[k]?=some y:=by rw[←hy,List.getElem?_take_of_lt (by omega)]
   simp -zeta only[zwp,dlt (show k<i by omega),zag,hx,hy2,k_or,za4,cond_true,zam (show k<9223372036854775807 by omega)]
   dsimp only
   unfold zhz
   cases (y.Patron==x.Patron&&y.Item==x.Item&&y.Branch==x.Branch)<;>rfl)
 rw[show zac zwp (l,(i:Int),0,())=_ from h,za0]
theorem zaaz {l:List Rule} (hl:l.length<1000000000):zac z34 (l,0,())=some (if zb5 (zhc l) 0 l==0 then .inl () else .inr (zb5 (zhc l) 0 l,())):=by
 have h:=zd4 (step:=z34) (fun i=>(l,(i:Int),())) l (zhc l) (.inl ()) (fun e=>.inr (e,())) hl
  (by simp only[z34,dge,cond_false])
  (fun i x hx=>by
   have hi:=(List.getElem?_eq_some_iff.1 hx).1
   unfold zhc
   simp only[zdc,z34,dlt hi,zag,hx,cond_true,za4g,zaa0 hl hx]
   cases zo1 x with
   |false=>rfl
   |true=>
    simp only[Bool.not_true,cond_false]
    cases (l.take i).all (fun y=>!(zhz y x)) with
    |true=>simp only[cond_true,zam (show i<9223372036854775807 by omega)];rfl
    |false=>rfl)
 exact h
def zgo (l:List Rule):Int:=bif decide (32<(l.length:Int)) then 13 else zb5 (zhc l) 0 l
theorem za6h {l:List Rule} (hl:l.length<1000000000):qk l=some (zgo l):=by
 unfold qk zgo
 rw[zaaz hl]
 generalize zb5 (zhc l) 0 l=e
 cases decide (32<(l.length:Int)) with
 |true=>rfl
 |false=>
  by_cases h:e=0
  ·subst h;rfl
  ·have h2:(e==0)=false:=by simpa using h
   simp only[h2,Bool.false_eq_true,if_false,cond_false]
def incr (l:List Int):Bool:=zc4 (fun i x=>!(zbp l i (fun y=>decide (x≤y)))) 0 l
theorem zu1 {X:Type} {p:Nat→X→Bool}:∀{l:List X} {i:Nat},zc4 p (i+1) l=zc4 (fun i=>p (i+1)) i l:=by
 intro l
 induction l with
 |nil=>intros;rfl
 |cons x l ih=>intro i;simp only[zc4];rw[ih]
theorem z8o (l:List Int):incr l=zc4 (fun i x=>!(zbp l (i+1) (fun y=>decide (x≤y)))) 0 l.tail:=by
 cases l with
 |nil=>rfl
 |cons x l=>
  unfold incr
  simp only[zc4,List.tail_cons]
  rw[zu1]
  try rfl
def zco (c:Calendar):Int:=
 bif decide (c.Week<0)||decide (126<c.Week) then 1
 else bif decide (64<(c.Closed.length:Int)) then 13
 else bif c.Closed.all (fun x=>!(decide (x<0)||decide (109572<x))) then (bif incr c.Closed then 0 else 7) else 2
theorem zaam {c:Calendar} (hl:c.Closed.length<1000000000):zac zwc (0,c,())=some (bif c.Closed.all (fun x=>!(decide (x<0)||decide (109572<x))) then .inl (c,()) else .inr (2,())):=by
 have h:=zav (step:=zwc) (fun i=>((i:Int),c,())) c.Closed (fun _ x=>!(decide (x<0)||decide (109572<x))) (.inr (2,())) (.inl (c,())) hl
  (by simp only[zwc,dge,cond_false])
  (fun i x hx=>by
   have hi:=(List.getElem?_eq_some_iff.1 hx).1
   simp -zeta only[zwc,dlt hi,zag,hx,k_or,za4,cond_true,zam (show i<9223372036854775807 by omega)]
   cases (decide (x<0)||decide (109572<x))<;>rfl)
 rw[show zac zwc (0,c,())=_ from h,za0]
theorem z3n {c:Calendar} (hl:c.Closed.length<1000000000):zac zlm (1,c,())=some (bif incr c.Closed then .inl () else .inr (7,())):=by
 have h:=zav (step:=zlm) (fun i=>(((i+1:Nat):Int),c,())) c.Closed.tail (fun i x=>!(zbp c.Closed (i+1) (fun y=>decide (x≤y)))) (.inr (7,())) (.inl ()) (by rw[List.length_tail];omega)
  (by
   rw[List.length_tail]
   have:decide (((c.Closed.length-1+1:Nat):Int)<(c.Closed.length:Int))=false:=by rw[decide_eq_false_iff_not];omega
   simp only[zlm,this,cond_false])
  (fun i x hx=>by
   rw[List.getElem?_tail]at hx
   have hi:=(List.getElem?_eq_some_iff.1 hx).1
   have hj:c.Closed[i]?=some c.Closed[i]:=List.getElem?_eq_getElem (by omega)
   simp -zeta only[zlm,dlt hi,zag,hx,cond_true,zgg (show i<1000000000 by omega),hj,zbp,zam (show i+1<9223372036854775807 by omega)]
   cases decide (x≤c.Closed[i])<;>rfl)
 rw[show zac zlm (1,c,())=_ from h,z8o]
theorem zai9 {c:Calendar} (hl:c.Closed.length<1000000000):q8 c=some (zco c):=by
 unfold q8 zco
 simp -zeta only[k_or]
 dsimp only
 rw[zaam hl]
 cases (decide (c.Week<0)||decide (126<c.Week)) with
 |true=>rfl
 |false=>
  cases decide (64<(c.Closed.length:Int)) with
  |true=>rfl
  |false=>
   cases c.Closed.all (fun x=>!(decide (x<0)||decide (109572<x))) with
   |false=>rfl
   |true=>
    simp only[cond_false,cond_true,z3n hl]
    cases incr c.Closed<;>rfl
end Go.Proofs.YtdahfgialanmpaaGreatDoor
namespace Go.Proofs.YtdahfgialanmpaaGreatDoor
open Ev
open Go (IntKind)
def zawu (state:Int):Bool:=(state==4||state==5||state==8||state==9||state==10)
theorem zl8 (state:Int):qfw state=some (zawu state):=by
 unfold qfw
 try simp -zeta only[k_or,za4,zib,zcz,cond_true,cond_false]
 try dsimp only
 try simp only[zcz]
 try rfl
def zi5 (c:Custody):Bool:=(bif decide (c.State<1)||decide (12<c.State)||decide (c.Branch<1)||decide (4<c.Branch) then false
 else
  bif c.State==6 then
   decide (0≤c.Who)&&decide (c.Who≤9999)&&decide (1≤c.To)&&decide (c.To≤4)&&!c.To==c.Branch
  else
   bif !c.To==0 then false
   else bif zawu c.State then decide (1≤c.Who)&&decide (c.Who≤9999) else c.Who==0)
theorem zl1 (c:Custody):qd8 c=some (zi5 c):=by
 unfold qd8
 try simp -zeta only[k_or,za4,zib,zcz,cond_true,cond_false,zl8]
 try dsimp only
 try simp only[zcz]
 try rfl
def zm8 (m:Move):Bool:=(decide (0≤m.Day)&&decide (m.Day≤109572)&&decide (1≤m.Item)&&decide (m.Item≤9999)&&
 decide (1≤m.Kind)&&
 decide (m.Kind≤15)&&
 decide (1≤m.Branch)&&
 decide (m.Branch≤4)&&
 decide (0≤m.Who)&&
 decide (m.Who≤9999))
theorem zov (m:Move):qe5 m=some (zm8 m):=by
 unfold qe5
 try simp -zeta only[k_or,za4,zib,zcz,cond_true,cond_false,zl8,zl1]
 try dsimp only
 try simp only[zcz]
 try rfl
def zaaw (kind:Int):(List Int):=(bif kind==1 then [1]
 else
  bif kind==2 then [2,5]
  else
   bif kind==3 then [3,5]
   else
    bif kind==4 then [4,8,9,10]
    else
     bif kind==5||kind==8 then [2,3]
     else
      bif kind==6 then [2,3,5]
      else
       bif kind==7 then [6]
       else
        bif kind==9 then [7]
        else
         bif kind==10 then [3]
         else
          bif kind==11 then [4]
          else
           bif kind==12 then [4,9]
           else
            bif kind==13 then [2,3,5,6,7]
            else bif kind==14 then [11] else bif kind==15 then [1,2,3,11,10] else [])
theorem zuh (kind:Int):qds kind=some (zaaw kind):=by
 unfold qds
 try simp -zeta only[k_or,za4,zib,zcz,cond_true,cond_false,zl8,zl1,zov]
 try dsimp only
 try simp only[zcz]
 try rfl
def zc0 (kind:Int):Int:=(bif kind==1||(kind==4||(kind==7||(kind==9||kind==14))) then 2
 else
  bif kind==2 then 3
  else
   bif kind==3 then 4
   else
    bif kind==5 then 5
    else
     bif kind==6 then 6
     else
      bif kind==8 then 7
      else
       bif kind==10 then 8
       else bif kind==11 then 9 else bif kind==12 then 10 else bif kind==13 then 11 else 12)
theorem z0y (kind:Int):qf5 kind=some (zc0 kind):=by
 unfold qf5
 try simp -zeta only[k_or,za4,zib,zcz,cond_true,cond_false,zl8,zl1,zov,zuh]
 try dsimp only
 try simp only[zcz]
 try rfl
def zaay (c:Custody) (m:Move):Bool:=(bif m.Kind==1||(m.Kind==4||(m.Kind==9||m.Kind==14)) then m.Who==0
 else
  bif m.Kind==7 then m.Who==0&&m.Branch==c.To
  else
   bif m.Kind==6 then !m.Branch==c.Branch
   else
    bif m.Kind==3||(m.Kind==5||m.Kind==10) then m.Branch==c.Branch&&decide (1≤m.Who)
    else m.Branch==c.Branch&&m.Who==0)
theorem zaax (c:Custody) (m:Move):qdw c m=some (zaay c m):=by
 unfold qdw
 try simp -zeta only[k_or,za4,zib,zcz,cond_true,cond_false,zl8,zl1,zov,zuh,z0y]
 try dsimp only
 try simp only[zcz]
 try rfl
def zwh (branch:Int):Custody:={State:=1,Branch:=branch,Who:=0,To:=0}
theorem zan6 (branch:Int):qd7 branch=some (zwh branch):=by
 unfold qd7
 try simp -zeta only[k_or,za4,zib,zcz,cond_true,cond_false,zl8,zl1,zov,zuh,z0y,zaax]
 try dsimp only
 try simp only[zcz]
 try rfl
def zq0 (u:Custody):Bool:=(u.State==4||u.State==9||u.State==10)
theorem zaoc (u:Custody):qez u=some (zq0 u):=by
 unfold qez
 try simp -zeta only[k_or,za4,zib,zcz,cond_true,cond_false,zl8,zl1,zov,zuh,z0y,zaax,zan6]
 try dsimp only
 try simp only[zcz]
 try rfl
end Go.Proofs.YtdahfgialanmpaaGreatDoor
namespace Go.Proofs.YtdahfgialanmpaaGreatDoor
open Ev
open Go (IntKind)
theorem hasX {X:Type} {p:X→Bool}:∀{l:List X} {i:Nat},zef p (fun _ _=>true) false i l=l.any p:=by
 intro l
 induction l with
 |nil=>intros;rfl
 |cons x l ih=>intro i;simp only[zef,List.any_cons];cases p x with|true=>rfl|false=>rw[cond_false,ih,Bool.false_or]
def zjm (state kind:Int):Bool:=(zaaw kind).any (fun x=>x==state)
theorem zagk {X:Type} {b:Bool} {x y:List X} {n:Nat} (hx:x.length<n) (hy:y.length<n):(bif b then x else y).length<n:=by cases b<;>assumption
theorem z4o (kind:Int):(zaaw kind).length<10:=by
 unfold zaaw
 repeat' first|apply zagk|decide
theorem za32 (state kind:Int):qau state kind=some (zjm state kind):=by
 unfold qau zjm
 rw[zuh]
 have hl:=z4o kind
 generalize zaaw kind=l at hl ⊢
 have h:=zbf (step:=zol) (fun i=>(state,l,(i:Int),())) l (fun x=>x==state) (fun _ _=>(.inr (true,()):Unit⊕(Bool×Unit))) (.inl ()) (by omega)
  (by simp only[zol,dge,cond_false])
  (fun i x hx=>by
   have hi:=(List.getElem?_eq_some_iff.1 hx).1
   simp only[zol,dlt hi,zag,hx,cond_true,zam (show i<9223372036854775807 by omega)])
 dsimp only
 rw[show zac zol (state,l,0,())=_ from h,←hasX (i:=0)]
 have key:∀(l:List Int) (i:Nat),(match some (zef (fun x=>x==state) (fun _ _=>(.inr (true,()):Unit⊕(Bool×Unit))) (.inl ()) i l) with|some (.inl _)=>some false|some (.inr (v,_))=>some v|none=>none)=some (zef (fun x=>x==state) (fun _ _=>true) false i l):=by
  intro l
  induction l with
  |nil=>intro i;rfl
  |cons x l ih=>intro i;simp only[zef];cases x==state with|true=>rfl|false=>exact ih _
 exact key l 0
def zbl (c:Custody) (m:Move):Custody×Int:=
 bif !(zi5 c)||!(zm8 m) then (⟨0,0,0,0⟩,1)
 else bif !(zjm c.State m.Kind) then (⟨0,0,0,0⟩,12)
 else bif m.Kind==3&&c.State==5&&!(m.Who==c.Who) then (⟨0,0,0,0⟩,16)
 else bif !(zaay c m) then (⟨0,0,0,0⟩,1)
 else bif zc0 m.Kind==2 then (⟨zc0 m.Kind,m.Branch,0,0⟩,0)
 else bif zc0 m.Kind==4||(zc0 m.Kind==5||zc0 m.Kind==8) then (⟨zc0 m.Kind,c.Branch,m.Who,0⟩,0)
 else bif zc0 m.Kind==6 then (⟨zc0 m.Kind,c.Branch,m.Who,m.Branch⟩,0)
 else bif zc0 m.Kind==9||zc0 m.Kind==10 then (⟨zc0 m.Kind,c.Branch,c.Who,0⟩,0)
 else (⟨zc0 m.Kind,c.Branch,0,0⟩,0)
theorem zan3 (c:Custody) (m:Move):qcr c m=some (zbl c m):=by
 unfold qcr zbl
 simp -zeta only[k_or,za4,zib,zl1,zov,za32,zaax,z0y]
 dsimp only
 simp only[zcz]
def zdg:Nat→List Move→Int→Custody→(Custody⊕(Int×Int))
 |_,[],_,c=>.inl c
 |i,x::l,item,c=>bif x.Item==item then (bif (zbl c x).2==0 then zdg (i+1) l item (zbl c x).1 else .inr ((i:Int),(zbl c x).2)) else zdg (i+1) l item c
def zeb (branch:Int) (l:List Move) (item:Int):Custody×Int×Int:=
 bif decide (branch<1)||decide (4<branch) then (⟨0,0,0,0⟩,-1,1)
 else match zdg 0 l item (zwh branch) with
  |.inl c=>(c,-1,0)
  |.inr (i,e)=>(⟨0,0,0,0⟩,i,e)
theorem zw1 {β:Type} (item:Int) (fin:Custody→β) (out:Int×Int→β):∀(l:List Move) (i:Nat) (c:Custody),
 zc2 (fun i x c=>bif x.Item==item then (bif (zbl c x).2==0 then .inl (zbl c x).1 else .inr (out ((i:Int),(zbl c x).2))) else .inl c) fin i l c=(match zdg i l item c with | .inl c=>fin c | .inr p=>out p):=by
 intro l
 induction l with
 |nil=>intros;rfl
 |cons x l ih=>
  intro i c
  simp only[zc2,zdg]
  cases x.Item==item with
  |false=>exact ih _ _
  |true=>
   simp only[cond_true]
   cases (zbl c x).2==0 with
   |true=>exact ih _ _
   |false=>rfl
theorem za31 {branch:Int} {l:List Move} {item:Int} (hl:l.length<1000000000):qas branch l item=some (zeb branch l item):=by
 unfold qas zeb
 simp -zeta only[k_or,zan6]
 dsimp only
 have h:=zcv (step:=zok) (fun i c=>(l,item,(i:Int),(⟨0,0,0,0⟩:Custody),c,())) l
  (fun i x c=>bif x.Item==item then (bif (zbl c x).2==0 then .inl (zbl c x).1 else .inr (.inr ((i:Int),(zbl c x).2,(⟨0,0,0,0⟩:Custody),()))) else .inl c)
  (fun c=>.inl (⟨0,0,0,0⟩,c,())) (by show l.length<18446744073709551616;omega) (fun c=>by simp only[zok,dge,cond_false])
  (fun i x c hx=>by
   have hi:=(List.getElem?_eq_some_iff.1 hx).1
   simp only[zok,dlt hi,zag,hx,cond_true,zan3,zam (show i<9223372036854775807 by omega)]
   cases x.Item==item with
   |false=>rfl
   |true=>
    simp only[Bool.not_true,cond_false,cond_true]
    obtain ⟨d,e⟩:=zbl c x
    cases he:e==0 with
    |true=>rfl
    |false=>rfl) (zwh branch)
 rw[zw1 item (fun c=>(.inl (⟨0,0,0,0⟩,c,()):(Custody×Custody×Unit)⊕(Int×Int×Custody×Unit))) (fun p=>.inr (p.1,p.2,(⟨0,0,0,0⟩:Custody),()))]at h
 rw[show zac zok (l,item,0,(⟨0,0,0,0⟩:Custody),zwh branch,())=_ from h]
 cases (decide (branch<1)||decide (4<branch)) with
 |true=>rfl
 |false=>
  simp only[cond_false]
  cases zdg 0 l item (zwh branch) with
  |inl c=>rfl
  |inr p=>rfl
end Go.Proofs.YtdahfgialanmpaaGreatDoor
namespace Go.Proofs.YtdahfgialanmpaaGreatDoor
open Ev
open Go (IntKind)
theorem za3 {X:Type} (p:X→Bool) (l:List X):(fIdx p l = -1∧l.find? p=none)∨∃(i:Nat) (x:X),fIdx p l=(i:Int)∧l[i]?=some x∧p x=true∧l.find? p=some x:=by
 unfold fIdx
 induction l with
 |nil=>exact .inl ⟨rfl,rfl⟩
 |cons y l ih=>
  simp only[List.findIdx?_cons,List.find?_cons]
  cases hp:p y with
  |true=>exact .inr ⟨0,y,rfl,rfl,hp,rfl⟩
  |false=>
   simp only[Bool.false_eq_true,if_false]
   rcases ih with ⟨h1,h2⟩|⟨i,x,h1,h2,h3,h4⟩
   ·left
    refine ⟨?_,h2⟩
    cases hf:l.findIdx? p with
    |none=>rfl
    |some k=>rw[hf]at h1;simp only at h1;omega
   ·right
    refine ⟨i+1,x,?_,by simpa using h2,h3,h4⟩
    cases hf:l.findIdx? p with
    |none=>rw[hf]at h1;simp only at h1;omega
    |some k=>rw[hf]at h1;simp only[Option.map_some]at h1 ⊢;omega
theorem ziy:decide ((-1:Int)<0)=true:=rfl
theorem zf2 {i:Nat}:decide ((i:Int)<0)=false:=by rw[decide_eq_false_iff_not];omega
def getP (l:List Patron) (id:Int):Patron×Bool:=match l.find? (fun p=>p.ID==id) with|some p=>(p,true)|none=>(⟨0,0,0,0,false,[]⟩,false)
def zg3 (l:List Loan) (item:Int):Loan×Bool:=match l.find? (fun n=>n.Item==item) with|some n=>(n,true)|none=>(⟨0,0,0,0,0,false⟩,false)
def zob:Hold:=⟨0,0,0,0,0,0,0,0,0,0,0⟩
def zdu (c:Circ) (item:Int):Hold×Bool:=match c.Holds.find? (fun h=>h.Got==item) with|some h=>(h,true)|none=>(zob,false)
theorem zaja {c:Circ} {item:Int} (hl:c.Items.length<1000000000):qg c item=some (fIdx (fun x=>x.ID==item) c.Items):=by
 unfold qg
 have h:=zbf (step:=z32) (fun i=>(item,(i:Int),c,())) c.Items (fun x=>x.ID==item) (fun i _=>(.inr ((i:Int),()):Unit⊕(Int×Unit))) (.inl ()) hl
  (by simp only[z32,dge,cond_false])
  (fun i x hx=>by
   have hi:=(List.getElem?_eq_some_iff.1 hx).1
   simp only[z32,dlt hi,zag,hx,cond_true,zam (show i<9223372036854775807 by omega)])
 rw[show zac z32 (item,0,c,())=_ from h,←zdd]
 have:=zcg (p:=fun x:Item=>x.ID==item) (g:=fun i _=>(.inr ((i:Int),()):Unit⊕(Int×Unit))) (d:=.inl ()) (fun z=>match (some z:Option (Unit⊕(Int×Unit))) with|some (.inl _)=>some (-1)|some (.inr (v,_))=>some v|none=>none) (l:=c.Items) (i:=0)
 exact this.trans ((zcg (p:=fun x:Item=>x.ID==item) (g:=fun i _=>(i:Int)) (d:=-1) (fun z=>some z) (l:=c.Items) (i:=0)).symm)
theorem zq1 {c:Circ} {item:Int} (hl:c.Items.length<1000000000):(qg c item=some (-1)∧c.Items.find? (fun x=>x.ID==item)=none)∨
 ∃(i:Nat) (x:Item),qg c item=some (i:Int)∧c.Items[i]?=some x∧x.ID=item∧c.Items.find? (fun x=>x.ID==item)=some x:=by
 rw[zaja hl]
 rcases za3 (fun x:Item=>x.ID==item) c.Items with ⟨h1,h2⟩|⟨i,x,h1,h2,h3,h4⟩
 ·exact .inl ⟨by rw[h1],h2⟩
 ·exact .inr ⟨i,x,by rw[h1],h2,by simpa using h3,h4⟩
theorem za3t {l:List Patron} {id:Int} (hl:l.length<1000000000):qa3 l id=some (fIdx (fun x=>x.ID==id) l):=by
 unfold qa3
 have h:=zbf (step:=zod) (fun i=>(l,id,(i:Int),())) l (fun x=>x.ID==id) (fun i _=>(.inr ((i:Int),()):Unit⊕(Int×Unit))) (.inl ()) hl
  (by simp only[zod,dge,cond_false])
  (fun i x hx=>by
   have hi:=(List.getElem?_eq_some_iff.1 hx).1
   simp only[zod,dlt hi,zag,hx,cond_true,zam (show i<9223372036854775807 by omega)])
 rw[show zac zod (l,id,0,())=_ from h,←zdd]
 have:=zcg (p:=fun x:Patron=>x.ID==id) (g:=fun i _=>(.inr ((i:Int),()):Unit⊕(Int×Unit))) (d:=.inl ()) (fun z=>match (some z:Option (Unit⊕(Int×Unit))) with|some (.inl _)=>some (-1)|some (.inr (v,_))=>some v|none=>none) (l:=l) (i:=0)
 exact this.trans ((zcg (p:=fun x:Patron=>x.ID==id) (g:=fun i _=>(i:Int)) (d:=-1) (fun z=>some z) (l:=l) (i:=0)).symm)
theorem zl0 {l:List Patron} {id:Int} (hl:l.length<1000000000):qci l id=some (getP l id):=by
 unfold qci getP
 rw[za3t hl]
 rcases za3 (fun x:Patron=>x.ID==id) l with ⟨h1,h2⟩|⟨i,x,h1,h2,h3,h4⟩
 ·simp only[h1,h2,ziy,cond_true]
 ·simp only[h1,h4,zf2,cond_false,zag,h2]
theorem zanh {l:List Loan} {id:Int} (hl:l.length<1000000000):qao l id=some (fIdx (fun x=>x.Item==id) l):=by
 unfold qao
 have h:=zbf (step:=zoh) (fun i=>(l,id,(i:Int),())) l (fun x=>x.Item==id) (fun i _=>(.inr ((i:Int),()):Unit⊕(Int×Unit))) (.inl ()) hl
  (by simp only[zoh,dge,cond_false])
  (fun i x hx=>by
   have hi:=(List.getElem?_eq_some_iff.1 hx).1
   simp only[zoh,dlt hi,zag,hx,cond_true,zam (show i<9223372036854775807 by omega)])
 rw[show zac zoh (l,id,0,())=_ from h,←zdd]
 have:=zcg (p:=fun x:Loan=>x.Item==id) (g:=fun i _=>(.inr ((i:Int),()):Unit⊕(Int×Unit))) (d:=.inl ()) (fun z=>match (some z:Option (Unit⊕(Int×Unit))) with|some (.inl _)=>some (-1)|some (.inr (v,_))=>some v|none=>none) (l:=l) (i:=0)
 exact this.trans ((zcg (p:=fun x:Loan=>x.Item==id) (g:=fun i _=>(i:Int)) (d:=-1) (fun z=>some z) (l:=l) (i:=0)).symm)
theorem za4o {l:List Loan} {id:Int} (hl:l.length<1000000000):qea l id=some (zg3 l id):=by
 unfold qea zg3
 rw[zanh hl]
 rcases za3 (fun x:Loan=>x.Item==id) l with ⟨h1,h2⟩|⟨i,x,h1,h2,h3,h4⟩
 ·simp only[h1,h2,ziy,cond_true]
 ·simp only[h1,h4,zf2,cond_false,zag,h2]
theorem zank {c:Circ} {item:Int} (hl:c.Holds.length<1000000000):qar c item=some (zdu c item):=by
 unfold qar zdu
 have h:=zbf (step:=zoj) (fun i=>(item,(i:Int),c,zob,())) c.Holds (fun x=>x.Got==item) (fun _ x=>(.inr (true,x,()):(Hold×Unit)⊕(Bool×Hold×Unit))) (.inl (zob,())) hl
  (by simp only[zoj,dge,cond_false])
  (fun i x hx=>by
   have hi:=(List.getElem?_eq_some_iff.1 hx).1
   simp only[zoj,dlt hi,zag,hx,cond_true,zam (show i<9223372036854775807 by omega)])
 rw[show zac zoj (item,0,c,(⟨0,0,0,0,0,0,0,0,0,0,0⟩:Hold),())=_ from h,zgk]
 cases c.Holds.find? (fun x=>x.Got==item)<;>rfl
def zd1 (c:Circ) (i:Nat) (x:Item):Bool:=
 !(decide (x.ID<1)||decide (9999<x.ID)||zbp c.Items i (fun y=>decide (x.ID≤y.ID))||decide (x.Record<1)||decide (9999<x.Record)||decide (x.Branch<1)||decide (4<x.Branch))&&
 !(decide (x.Kind<1)||decide (9<x.Kind)||decide (x.Price<0)||decide (100000000<x.Price)||decide (200<(x.Call.length:Int))||!(vld x.Call))&&
 !(!((zeb x.Branch c.Moves x.ID).2.2==0)||!(zbi (zeb x.Branch c.Moves x.ID).1 x.Custody))
def ze7 (c:Circ):Bool:=!(decide (64<(c.Items.length:Int))||decide (2000<(c.Moves.length:Int)))&&(zc4 (zd1 c) 0 c.Items&&c.Moves.all (fun m=>(c.Items.find? (fun x=>x.ID==m.Item)).isSome))
structure Short (c:Circ):Prop where
 items:c.Items.length<1000000000
 patrons:c.Patrons.length<1000000000
 loans:c.Loans.length<1000000000
 holds:c.Holds.length<1000000000
 charges:c.Charges.length<1000000000
 rules:c.Rules.length<1000000000
 moves:c.Moves.length<1000000000
 call:∀x∈c.Items,x.Call.length<10000000
 name:∀x∈c.Patrons,x.Name.length<10000000
 cal0:c.Cals.x0.Closed.length<1000000000
 cal1:c.Cals.x1.Closed.length<1000000000
 cal2:c.Cals.x2.Closed.length<1000000000
 cal3:c.Cals.x3.Closed.length<1000000000
theorem z3q {c:Circ} (hs:Short c):zac zlr (0,c,())=some (bif zc4 (zd1 c) 0 c.Items then .inl (c,()) else .inr (false,())):=by
 have h:=zav (step:=zlr) (fun i=>((i:Int),c,())) c.Items (zd1 c) (.inr (false,())) (.inl (c,())) hs.items
  (by simp only[zlr,dge,cond_false])
  (fun i x hx=>by
   have hi:=(List.getElem?_eq_some_iff.1 hx).1
   have hm:=List.mem_of_getElem? hx
   have hv:=zanj (s:=x.Call) (by have:=hs.call x hm;omega)
   have hr:=za31 (branch:=x.Branch) (item:=x.ID) hs.moves
   unfold zd1
   rcases i with _|j
   ·simp -zeta only[zlr,dlt hi,zag,hx,k_or,za4,z19,cond_false,cond_true,zbp,zam (show 0<9223372036854775807 by omega),hv,hr]
    dsimp only
    generalize (decide (x.ID<1)||decide (9999<x.ID)||false||decide (x.Record<1)||decide (9999<x.Record)||decide (x.Branch<1)||decide (4<x.Branch))=b1
    generalize (decide (x.Kind<1)||decide (9<x.Kind)||decide (x.Price<0)||decide (100000000<x.Price)||decide (200<(x.Call.length:Int))||!(vld x.Call))=b2
    generalize (!((zeb x.Branch c.Moves x.ID).2.2==0)||!(zbi (zeb x.Branch c.Moves x.ID).1 x.Custody))=b3
    cases b1<;>cases b2<;>cases b3<;>rfl
   ·have hj:c.Items[j]?=some c.Items[j]:=List.getElem?_eq_getElem (by omega)
    have:=hs.items
    simp -zeta only[zlr,dlt hi,zag,hx,k_or,za4,dpos,zgg (show j<1000000000 by omega),hj,cond_false,cond_true,Bool.true_and,zbp,zam (show j+1<9223372036854775807 by omega),hv,hr]
    dsimp only
    generalize (decide (x.ID<1)||decide (9999<x.ID)||decide (x.ID≤c.Items[j].ID)||decide (x.Record<1)||decide (9999<x.Record)||decide (x.Branch<1)||decide (4<x.Branch))=b1
    generalize (decide (x.Kind<1)||decide (9<x.Kind)||decide (x.Price<0)||decide (100000000<x.Price)||decide (200<(x.Call.length:Int))||!(vld x.Call))=b2
    generalize (!((zeb x.Branch c.Moves x.ID).2.2==0)||!(zbi (zeb x.Branch c.Moves x.ID).1 x.Custody))=b3
    cases b1<;>cases b2<;>cases b3<;>rfl)
 exact h
theorem zwd {c:Circ} (hs:Short c):zac zg8 (0,c,())=some (bif c.Moves.all (fun m=>(c.Items.find? (fun x=>x.ID==m.Item)).isSome) then .inl () else .inr (false,())):=by
 have h:=zav (step:=zg8) (fun i=>((i:Int),c,())) c.Moves (fun _ m=>(c.Items.find? (fun x=>x.ID==m.Item)).isSome) (.inr (false,())) (.inl ()) hs.moves
  (by simp only[zg8,dge,cond_false])
  (fun i x hx=>by
   have hi:=(List.getElem?_eq_some_iff.1 hx).1
   have:=hs.moves
   simp only[zg8,dlt hi,zag,hx,cond_true,zam (show i<9223372036854775807 by omega)]
   rcases zq1 (item:=x.Item) hs.items with ⟨h1,h2⟩|⟨k,y,h1,h2,h3,h4⟩
   ·simp only[h1,h2,ziy,cond_true,Option.isSome_none,cond_false]
   ·simp only[h1,h4,zf2,cond_false,Option.isSome_some,cond_true])
 rw[show zac zg8 (0,c,())=_ from h,za0]
theorem za3x {c:Circ} (hs:Short c):qaf c=some (ze7 c):=by
 unfold qaf ze7
 simp -zeta only[k_or]
 dsimp only
 rw[z3q hs]
 cases (decide (64<(c.Items.length:Int))||decide (2000<(c.Moves.length:Int))) with
 |true=>rfl
 |false=>
  cases zc4 (zd1 c) 0 c.Items with
  |false=>rfl
  |true=>
   simp only[cond_false,cond_true,zwd hs]
   cases c.Moves.all (fun m=>(c.Items.find? (fun x=>x.ID==m.Item)).isSome)<;>rfl
def zgm (c:Circ) (n:Loan):Bool:=match c.Items.find? (fun x=>x.ID==n.Item) with
 |some x=>!(!(getP c.Patrons n.Patron).2||!(zq0 x.Custody)||!(x.Custody.Who==n.Patron))
 |none=>false
def zf8 (c:Circ):Bool:=c.Loans.all (zgm c)&&c.Items.all (fun x=>(zg3 c.Loans x.ID).2==zq0 x.Custody)
theorem za3w {c:Circ} (hs:Short c):qae c=some (zf8 c):=by
 have h1:=zav (step:=zlq) (fun i=>((i:Int),c,())) c.Loans (fun _=>zgm c) (.inr (false,())) (.inl (c,())) hs.loans
  (by simp only[zlq,dge,cond_false])
  (fun i x hx=>by
   have hi:=(List.getElem?_eq_some_iff.1 hx).1
   have:=hs.loans
   unfold zgm
   rcases zq1 (item:=x.Item) hs.items with ⟨h1,h2⟩|⟨k,y,h1,h2,h3,h4⟩
   ·simp -zeta only[zlq,dlt hi,zag,hx,cond_true,k_or,zl0 hs.patrons,h1,h2,ziy,Bool.true_or]
    try rfl
   ·simp -zeta only[zlq,dlt hi,zag,hx,cond_true,k_or,zl0 hs.patrons,h1,h2,h4,zf2,Bool.false_or,zaoc,zam (show i<9223372036854775807 by omega)]
    dsimp only
    cases (!(getP c.Patrons x.Patron).2||!(zq0 y.Custody)||!(y.Custody.Who==x.Patron))<;>rfl)
 have h2:=zav (step:=zih) (fun i=>((i:Int),c,())) c.Items (fun _ x=>(zg3 c.Loans x.ID).2==zq0 x.Custody) (.inr (false,())) (.inl ()) hs.items
  (by simp only[zih,dge,cond_false])
  (fun i x hx=>by
   have hi:=(List.getElem?_eq_some_iff.1 hx).1
   have:=hs.items
   simp only[zih,dlt hi,zag,hx,cond_true,za4o hs.loans,zaoc,zam (show i<9223372036854775807 by omega)]
   cases (zg3 c.Loans x.ID).2==zq0 x.Custody<;>rfl)
 unfold qae zf8
 rw[show zac zlq (0,c,())=_ from h1,za0]
 cases c.Loans.all (zgm c) with
 |false=>rfl
 |true=>
  simp only[cond_true]
  rw[show zac zih (0,c,())=_ from h2,za0]
  cases c.Items.all (fun x=>(zg3 c.Loans x.ID).2==zq0 x.Custody)<;>rfl
def zhq (c:Circ) (h:Hold):Bool:=
 !(!(getP c.Patrons h.Patron).2||decide (c.NextHold≤h.ID))&&(h.State==1||(match c.Items.find? (fun x=>x.ID==h.Got) with
  |some x=>!(!(x.Record==h.Record))&&!(h.State==3&&(!(x.Custody.State==5)||!(x.Custody.Branch==h.Pickup)||!(x.Custody.Who==h.Patron)))&&
   !(h.State==2&&(!(x.Custody.State==6)||!(x.Custody.To==h.Pickup)||!(x.Custody.Who==h.Patron)))
  |none=>false))
def zgd (c:Circ) (x:Item):Bool:=!(x.Custody.State==5)||!(!(zdu c x.ID).2||!((zdu c x.ID).1.State==3))
def zf6 (c:Circ):Bool:=c.Holds.all (zhq c)&&c.Items.all (zgd c)
theorem za3y {c:Circ} (hs:Short c):qag c=some (zf6 c):=by
 have h1:=zav (step:=zls) (fun i=>((i:Int),c,())) c.Holds (fun _=>zhq c) (.inr (false,())) (.inl (c,())) hs.holds
  (by simp only[zls,dge,cond_false])
  (fun i x hx=>by
   have hi:=(List.getElem?_eq_some_iff.1 hx).1
   have:=hs.holds
   unfold zhq
   rcases zq1 (item:=x.Got) hs.items with ⟨h1,h2⟩|⟨k,y,h1,h2,h3,h4⟩
   ·simp -zeta only[zls,dlt hi,zag,hx,cond_true,k_or,zl0 hs.patrons,h1,h2,ziy,zam (show i<9223372036854775807 by omega)]
    dsimp only
    cases (!(getP c.Patrons x.Patron).2||decide (c.NextHold≤x.ID)) with
    |true=>rfl
    |false=>cases x.State==1<;>rfl
   ·simp -zeta only[zls,dlt hi,zag,hx,cond_true,k_or,za4,zl0 hs.patrons,h1,h2,h4,zf2,cond_false,zam (show i<9223372036854775807 by omega)]
    dsimp only
    generalize (!(getP c.Patrons x.Patron).2||decide (c.NextHold≤x.ID))=b1
    generalize (x.State==1)=b2
    generalize (!(y.Record==x.Record))=b3
    generalize (!(y.Custody.State==5)||!(y.Custody.Branch==x.Pickup)||!(y.Custody.Who==x.Patron))=b4
    generalize (!(y.Custody.State==6)||!(y.Custody.To==x.Pickup)||!(y.Custody.Who==x.Patron))=b5
    generalize (x.State==3)=b6
    generalize (x.State==2)=b7
    cases b1<;>cases b2<;>cases b3<;>cases b4<;>cases b5<;>cases b6<;>cases b7<;>rfl)
 have h2:=zav (step:=zii) (fun i=>((i:Int),c,())) c.Items (fun _=>zgd c) (.inr (false,())) (.inl ()) hs.items
  (by simp only[zii,dge,cond_false])
  (fun i x hx=>by
   have hi:=(List.getElem?_eq_some_iff.1 hx).1
   have:=hs.items
   unfold zgd
   simp -zeta only[zii,dlt hi,zag,hx,cond_true,k_or,zank hs.holds,zam (show i<9223372036854775807 by omega)]
   dsimp only
   cases x.Custody.State==5 with
   |false=>rfl
   |true=>
    generalize (!(zdu c x.ID).2||!((zdu c x.ID).1.State==3))=b
    cases b<;>rfl)
 unfold qag zf6
 rw[show zac zls (0,c,())=_ from h1,za0]
 cases c.Holds.all (zhq c) with
 |false=>rfl
 |true=>
  simp only[cond_true]
  rw[show zac zii (0,c,())=_ from h2,za0]
  cases c.Items.all (zgd c)<;>rfl
end Go.Proofs.YtdahfgialanmpaaGreatDoor
namespace Go.Proofs.YtdahfgialanmpaaGreatDoor
open Ev
open Go (IntKind)
def zhi (c:Circ):Bool:=zco c.Cals.x0==0&&(zco c.Cals.x1==0&&(zco c.Cals.x2==0&&zco c.Cals.x3==0))
theorem z3t {c:Circ} (hs:Short c):zac zip (0,c,())=some (bif zhi c then .inl (c,()) else .inr (false,())):=by
 have s0:zip (0,c,())=bif zco c.Cals.x0==0 then some (.inl (1,c,())) else some (.inr (.inr (false,()))):=by
  show (match q8 c.Cals.x0 with|some r=>(bif !(r==0) then (some (.inr (.inr (false,()))):Option ((Int×Circ×Unit)⊕((Circ×Unit)⊕(Bool×Unit)))) else some (.inl (1,c,())))|none=>none)=_
  rw[zai9 hs.cal0];dsimp only;cases zco c.Cals.x0==0<;>rfl
 have s1:zip (1,c,())=bif zco c.Cals.x1==0 then some (.inl (2,c,())) else some (.inr (.inr (false,()))):=by
  show (match q8 c.Cals.x1 with|some r=>(bif !(r==0) then (some (.inr (.inr (false,()))):Option ((Int×Circ×Unit)⊕((Circ×Unit)⊕(Bool×Unit)))) else some (.inl (2,c,())))|none=>none)=_
  rw[zai9 hs.cal1];dsimp only;cases zco c.Cals.x1==0<;>rfl
 have s2:zip (2,c,())=bif zco c.Cals.x2==0 then some (.inl (3,c,())) else some (.inr (.inr (false,()))):=by
  show (match q8 c.Cals.x2 with|some r=>(bif !(r==0) then (some (.inr (.inr (false,()))):Option ((Int×Circ×Unit)⊕((Circ×Unit)⊕(Bool×Unit)))) else some (.inl (3,c,())))|none=>none)=_
  rw[zai9 hs.cal2];dsimp only;cases zco c.Cals.x2==0<;>rfl
 have s3:zip (3,c,())=bif zco c.Cals.x3==0 then some (.inl (4,c,())) else some (.inr (.inr (false,()))):=by
  show (match q8 c.Cals.x3 with|some r=>(bif !(r==0) then (some (.inr (.inr (false,()))):Option ((Int×Circ×Unit)⊕((Circ×Unit)⊕(Bool×Unit)))) else some (.inl (4,c,())))|none=>none)=_
  rw[zai9 hs.cal3];dsimp only;cases zco c.Cals.x3==0<;>rfl
 have s4:zip (4,c,())=some (.inr (.inl (c,()))):=rfl
 refine za5 5 (by rw[za6];omega) ?_
 unfold zhi
 simp only[za7,s0,s1,s2,s3,s4]
 cases zco c.Cals.x0==0 with
 |false=>rfl
 |true=>
  simp only[cond_true,za7,s1]
  cases zco c.Cals.x1==0 with
  |false=>rfl
  |true=>
   simp only[cond_true,za7,s2]
   cases zco c.Cals.x2==0 with
   |false=>rfl
   |true=>
    simp only[cond_true,za7,s3]
    cases zco c.Cals.x3==0 with
    |false=>rfl
    |true=>simp only[cond_true,za7,s4];rfl
def ze2 (c:Circ) (x:Charge):Bool:=!(!(getP c.Patrons x.Patron).2||decide (c.NextCharge≤x.ID))
theorem zwg {c:Circ} (hs:Short c):zac zha (0,c,())=some (bif c.Charges.all (ze2 c) then .inl (c,()) else .inr (false,())):=by
 have h:=zav (step:=zha) (fun i=>((i:Int),c,())) c.Charges (fun _=>ze2 c) (.inr (false,())) (.inl (c,())) hs.charges
  (by simp only[zha,dge,cond_false])
  (fun i x hx=>by
   have hi:=(List.getElem?_eq_some_iff.1 hx).1
   have:=hs.charges
   unfold ze2
   simp -zeta only[zha,dlt hi,zag,hx,cond_true,k_or,zl0 hs.patrons,zam (show i<9223372036854775807 by omega)]
   dsimp only
   cases (!(getP c.Patrons x.Patron).2||decide (c.NextCharge≤x.ID))<;>rfl)
 rw[show zac zha (0,c,())=_ from h,za0]
def zqu (c:Circ):Bool:=!(decide (c.Today<0)||decide (109572<c.Today)||decide (c.NextHold<1)||decide (100000<c.NextHold)||decide (c.NextCharge<1)||decide (100000<c.NextCharge))
def zkw (c:Circ):Bool:=!(!(zfb c.Patrons==0)||!(zhv c.Loans==0)||!(zd0 c.Holds==0)||!(za8 c.Charges==0)||!(zgo c.Rules==0))
def zo0 (c:Circ):Bool:=zqu c&&(zkw c&&(zhi c&&(c.Charges.all (ze2 c)&&(ze7 c&&(zf8 c&&zf6 c)))))
theorem za30 {c:Circ} (hs:Short c):qam c=some (zo0 c):=by
 unfold qam zo0 zqu zkw
 simp -zeta only[k_or,za4,za35 hs.patrons hs.name,za34 hs.loans,za6i hs.holds,zanl hs.charges,za6h hs.rules]
 dsimp only
 rw[z3t hs]
 generalize (decide (c.Today<0)||decide (109572<c.Today)||decide (c.NextHold<1)||decide (100000<c.NextHold)||decide (c.NextCharge<1)||decide (100000<c.NextCharge))=b1
 generalize (!(zfb c.Patrons==0)||!(zhv c.Loans==0)||!(zd0 c.Holds==0)||!(za8 c.Charges==0)||!(zgo c.Rules==0))=b2
 cases b1 with
 |true=>rfl
 |false=>
  cases b2 with
  |true=>rfl
  |false=>
   cases zhi c with
   |false=>rfl
   |true=>
    simp only[cond_false,cond_true,zwg hs]
    cases c.Charges.all (ze2 c) with
    |false=>rfl
    |true=>
     simp -zeta only[cond_false,cond_true,za3x hs,za3w hs,za3y hs,za4]
     try dsimp only
     cases ze7 c<;>cases zf8 c<;>cases zf6 c<;>rfl
def zml (c:Circ):Bool:=
 !(decide (10<(c.Items.length:Int))||decide (8<(c.Patrons.length:Int))||decide (12<(c.Holds.length:Int))||decide (12<(c.Loans.length:Int))||decide (30<(c.Charges.length:Int))||decide (10<(c.Rules.length:Int))||decide (200<(c.Moves.length:Int)))&&
 (c.Items.all (fun x=>!(decide (300<(x.Call.length:Int))))&&(c.Patrons.all (fun x=>!(decide (300<(x.Name.length:Int))))&&
  (!(decide (20<(c.Cals.x0.Closed.length:Int)))&&(!(decide (20<(c.Cals.x1.Closed.length:Int)))&&(!(decide (20<(c.Cals.x2.Closed.length:Int)))&&!(decide (20<(c.Cals.x3.Closed.length:Int))))))))
theorem za6e (c:Circ):qb c=some (zml c):=by
 unfold qb zml
 simp -zeta only[k_or,za4]
 dsimp only
 cases hb:(decide (10<(c.Items.length:Int))||decide (8<(c.Patrons.length:Int))||decide (12<(c.Holds.length:Int))||decide (12<(c.Loans.length:Int))||decide (30<(c.Charges.length:Int))||decide (10<(c.Rules.length:Int))||decide (200<(c.Moves.length:Int))) with
 |true=>rfl
 |false=>
  simp only[Bool.or_eq_false_iff,decide_eq_false_iff_not]at hb
  have h1:=zav (step:=z3x) (fun i=>((i:Int),c,())) c.Items (fun _ x=>!(decide (300<(x.Call.length:Int)))) (.inr (false,())) (.inl (c,())) (by omega)
   (by simp only[z3x,dge,cond_false])
   (fun i x hx=>by
    have hi:=(List.getElem?_eq_some_iff.1 hx).1
    simp only[z3x,dlt hi,zag,hx,cond_true,zam (show i<9223372036854775807 by omega)]
    cases decide (300<(x.Call.length:Int))<;>rfl)
  have h2:=zav (step:=z3y) (fun i=>((i:Int),c,())) c.Patrons (fun _ x=>!(decide (300<(x.Name.length:Int)))) (.inr (false,())) (.inl (c,())) (by omega)
   (by simp only[z3y,dge,cond_false])
   (fun i x hx=>by
    have hi:=(List.getElem?_eq_some_iff.1 hx).1
    simp only[z3y,dlt hi,zag,hx,cond_true,zam (show i<9223372036854775807 by omega)]
    cases decide (300<(x.Name.length:Int))<;>rfl)
  have h3:zac ziq (0,c,())=some (bif (!(decide (20<(c.Cals.x0.Closed.length:Int)))&&(!(decide (20<(c.Cals.x1.Closed.length:Int)))&&(!(decide (20<(c.Cals.x2.Closed.length:Int)))&&!(decide (20<(c.Cals.x3.Closed.length:Int)))))) then .inl () else .inr (false,())):=by
   have s0:ziq (0,c,())=bif decide (20<(c.Cals.x0.Closed.length:Int)) then some (.inr (.inr (false,()))) else some (.inl (1,c,())):=rfl
   have s1:ziq (1,c,())=bif decide (20<(c.Cals.x1.Closed.length:Int)) then some (.inr (.inr (false,()))) else some (.inl (2,c,())):=rfl
   have s2:ziq (2,c,())=bif decide (20<(c.Cals.x2.Closed.length:Int)) then some (.inr (.inr (false,()))) else some (.inl (3,c,())):=rfl
   have s3:ziq (3,c,())=bif decide (20<(c.Cals.x3.Closed.length:Int)) then some (.inr (.inr (false,()))) else some (.inl (4,c,())):=rfl
   have s4:ziq (4,c,())=some (.inr (.inl ())):=rfl
   refine za5 5 (by rw[za6];omega) ?_
   simp only[za7,s0]
   cases decide (20<(c.Cals.x0.Closed.length:Int)) with
   |true=>rfl
   |false=>
    simp only[cond_false,za7,s1]
    cases decide (20<(c.Cals.x1.Closed.length:Int)) with
    |true=>rfl
    |false=>
     simp only[cond_false,za7,s2]
     cases decide (20<(c.Cals.x2.Closed.length:Int)) with
     |true=>rfl
     |false=>
      simp only[cond_false,za7,s3]
      cases decide (20<(c.Cals.x3.Closed.length:Int)) with
      |true=>rfl
      |false=>simp only[cond_false,za7,s4];rfl
  simp only[cond_false,Bool.not_false,Bool.true_and]
  rw[show zac z3x (0,c,())=_ from h1,za0]
  cases c.Items.all (fun x=>!(decide (300<(x.Call.length:Int)))) with
  |false=>rfl
  |true=>
   simp only[cond_true,Bool.true_and]
   rw[show zac z3y (0,c,())=_ from h2,za0]
   cases c.Patrons.all (fun x=>!(decide (300<(x.Name.length:Int)))) with
   |false=>rfl
   |true=>
    simp only[cond_true,Bool.true_and,h3]
    cases (!(decide (20<(c.Cals.x0.Closed.length:Int)))&&(!(decide (20<(c.Cals.x1.Closed.length:Int)))&&(!(decide (20<(c.Cals.x2.Closed.length:Int)))&&!(decide (20<(c.Cals.x3.Closed.length:Int))))))<;>rfl
structure SmallP (c:Circ):Prop where
 items:c.Items.length≤10
 patrons:c.Patrons.length≤8
 holds:c.Holds.length≤12
 loans:c.Loans.length≤12
 charges:c.Charges.length≤30
 rules:c.Rules.length≤10
 moves:c.Moves.length≤200
 call:∀x∈c.Items,x.Call.length≤300
 name:∀x∈c.Patrons,x.Name.length≤300
 cal0:c.Cals.x0.Closed.length≤20
 cal1:c.Cals.x1.Closed.length≤20
 cal2:c.Cals.x2.Closed.length≤20
 cal3:c.Cals.x3.Closed.length≤20
theorem zaph {c:Circ} (h:zml c=true):SmallP c:=by
 unfold zml at h
 simp only[Bool.and_eq_true,Bool.not_eq_true',Bool.or_eq_false_iff,decide_eq_false_iff_not,List.all_eq_true]at h
 obtain ⟨⟨⟨⟨⟨⟨⟨h1,h2⟩,h3⟩,h4⟩,h5⟩,h6⟩,h7⟩,h8,h9,h10,h11,h12,h13⟩:=h
 exact ⟨by omega,by omega,by omega,by omega,by omega,by omega,by omega,fun x hx=>by have:=h8 x hx;omega,fun x hx=>by have:=h9 x hx;omega,by omega,by omega,by omega,by omega⟩
theorem SmallP.short {c:Circ} (h:SmallP c):Short c:=by
 obtain ⟨h1,h2,h3,h4,h5,h6,h7,h8,h9,h10,h11,h12,h13⟩:=h
 exact ⟨by omega,by omega,by omega,by omega,by omega,by omega,by omega,fun x hx=>by have:=h8 x hx;omega,fun x hx=>by have:=h9 x hx;omega,by omega,by omega,by omega,by omega⟩
theorem za4s (c:Circ):qf6 c=some (zml c&&zo0 c):=by
 unfold qf6
 rw[za6e]
 cases h:zml c with
 |false=>rfl
 |true=>
  simp only[cond_true,za30 (zaph h).short]
  try rfl
end Go.Proofs.YtdahfgialanmpaaGreatDoor
namespace Go.Proofs.YtdahfgialanmpaaGreatDoor
open Ev
open Go (IntKind)
theorem zaej:qfj=some true:=by kernel_rfl
theorem za6j {γ0:Type} {p:γ0→Patron→Option Bool} {q:Patron→Bool} {s:List Patron} {g:γ0} (hs:s.length<1000000000) (hp:∀x∈s,p g x=some (q x)):qn p s g=some (fIdx q s):=by
 have h:=zbf (step:=zws p) (fun i=>(s,g,(s.length:Int),(i:Int),())) s q (fun i _=>(.inr ((i:Int),()):Unit⊕(Int×Unit))) (.inl ()) hs
  (by simp only[zws,dge,cond_false])
  (fun i x hx=>by
   have hi:=(List.getElem?_eq_some_iff.1 hx).1
   simp only[zws,dlt hi,cond_true,zag,hx,hp x (List.mem_of_getElem? hx),zam (show i<9223372036854775807 by omega)])
 unfold qn
 rw[show zac (zws p) (s,g,(s.length:Int),0,())=_ from h,←zdd]
 have:=zcg (p:=q) (g:=fun i _=>(.inr ((i:Int),()):Unit⊕(Int×Unit))) (d:=.inl ()) (fun z=>match (some z:Option (Unit⊕(Int×Unit))) with|some (.inl _)=>some (-1)|some (.inr (v,_))=>some v|none=>none) (l:=s) (i:=0)
 exact this.trans ((zcg (p:=q) (g:=fun i _=>(i:Int)) (d:=-1) (fun z=>some z) (l:=s) (i:=0)).symm)
theorem za4j {l:List Patron} {id:Int} (hl:l.length<1000000000):qcv l id=some (getP l id):=by
 unfold qcv qb6 getP
 rw[za6j (q:=fun x=>x.ID==id) hl (fun x _=>rfl)]
 rcases za3 (fun x:Patron=>x.ID==id) l with ⟨h1,h2⟩|⟨i,x,h1,h2,h3,h4⟩
 ·simp only[h1,h2,ziy,cond_true]
 ·simp only[h1,h4,zf2,cond_false,zag,h2]
end Go.Proofs.YtdahfgialanmpaaGreatDoor
namespace Go.Proofs.YtdahfgialanmpaaGreatDoor
open Ev
open Go (IntKind)
theorem zqt (lo hi n:Int):(!(rng lo hi n))=(decide (n<lo)||decide (hi<n)):=by
 unfold rng
 by_cases h1:n<lo
 ·have:¬lo≤n:=by omega
  simp[h1,this]
 ·have:lo≤n:=by omega
  by_cases h2:hi<n
  ·have:¬n≤hi:=by omega
   simp[*]
  ·have:n≤hi:=by omega
   simp[*]
theorem zauv {X:Type} (p:X→Bool) (l:List X):decide (fIdx p l<0)=!(l.any p):=by
 unfold fIdx
 induction l with
 |nil=>rfl
 |cons y l ih=>
  simp only[List.findIdx?_cons,List.any_cons]
  cases hp:p y with
  |true=>rfl
  |false=>
   simp only[Bool.false_eq_true,if_false,Bool.false_or]
   rw[←ih]
   cases l.findIdx? p with
   |none=>rfl
   |some k=>simp only[Option.map_some];rw[decide_eq_decide];omega
theorem z74 {X:Type} (p:X→Bool) (l:List X):decide (0≤fIdx p l)=l.any p:=by
 have h:=zauv p l
 cases hb:l.any p with
 |true=>rw[hb]at h;simp at h ⊢;omega
 |false=>rw[hb]at h;simp at h ⊢;omega
theorem zaog {γ:Type} {p:γ→Loan→Option Bool} {g:γ} (q:Loan→Bool) {l:List Loan} (hl:l.length<1000000000) (hp:∀x∈l,p g x=some (q x)):ql p l g=some (fIdx q l):=by
 have h:=zbf (step:=zwq p) (fun i=>(l,g,(l.length:Int),(i:Int),())) l q (fun i _=>(.inr ((i:Int),()):(Unit)⊕(Int×Unit))) (.inl ()) hl
  (by simp only[zwq,dge,cond_false])
  (fun i x hx=>by
   have hi:=(List.getElem?_eq_some_iff.1 hx).1
   simp only[zwq,dlt hi,zag,hx,cond_true,hp x (List.mem_of_getElem? hx),zam (show i<9223372036854775807 by omega)])
 unfold ql
 rw[show zac (zwq p) (l,g,(l.length:Int),0,())=_ from h]
 have e:=zcg (p:=q) (g:=fun i _=>(.inr ((i:Int),()):(Unit)⊕(Int×Unit))) (d:=.inl ()) (fun r:(Unit)⊕(Int×Unit)=>match r with | .inl (_)=>(-1:Int) | .inr (v,_)=>v) (l:=l) (i:=0)
 dsimp only at e
 rw[←zdd,←e]
 generalize zef q (fun i _=>(.inr ((i:Int),()):(Unit)⊕(Int×Unit))) (.inl ()) 0 l=r
 rcases r with _|⟨v,_⟩<;>rfl
theorem zanz {γ:Type} {p:γ→Item→Option Bool} {g:γ} (q:Item→Bool) {l:List Item} (hl:l.length<1000000000) (hp:∀x∈l,p g x=some (q x)):qc p l g=some (fIdx q l):=by
 have h:=zbf (step:=zqy p) (fun i=>(l,g,(l.length:Int),(i:Int),())) l q (fun i _=>(.inr ((i:Int),()):(Unit)⊕(Int×Unit))) (.inl ()) hl
  (by simp only[zqy,dge,cond_false])
  (fun i x hx=>by
   have hi:=(List.getElem?_eq_some_iff.1 hx).1
   simp only[zqy,dlt hi,zag,hx,cond_true,hp x (List.mem_of_getElem? hx),zam (show i<9223372036854775807 by omega)])
 unfold qc
 rw[show zac (zqy p) (l,g,(l.length:Int),0,())=_ from h]
 have e:=zcg (p:=q) (g:=fun i _=>(.inr ((i:Int),()):(Unit)⊕(Int×Unit))) (d:=.inl ()) (fun r:(Unit)⊕(Int×Unit)=>match r with | .inl (_)=>(-1:Int) | .inr (v,_)=>v) (l:=l) (i:=0)
 dsimp only at e
 rw[←zdd,←e]
 generalize zef q (fun i _=>(.inr ((i:Int),()):(Unit)⊕(Int×Unit))) (.inl ()) 0 l=r
 rcases r with _|⟨v,_⟩<;>rfl
theorem zawt {γ:Type} {p:γ→Item→Option Bool} {g:γ} (q:Item→Bool) {l:List Item} (hl:l.length<1000000000) (hp:∀x∈l,p g x=some (q x)):qfq p l g=some (l.any q):=by
 unfold qfq
 rw[zanz q hl hp]
 dsimp only
 rw[z74]
theorem zuf {γ:Type} {p:γ→Hold→Option Bool} {g:γ} (q:Hold→Bool) {l:List Hold} (hl:l.length<1000000000) (hp:∀x∈l,p g x=some (q x)):qa p l g=some (fIdx q l):=by
 have h:=zbf (step:=zi4 p) (fun i=>(l,g,(l.length:Int),(i:Int),())) l q (fun i _=>(.inr ((i:Int),()):(Unit)⊕(Int×Unit))) (.inl ()) hl
  (by simp only[zi4,dge,cond_false])
  (fun i x hx=>by
   have hi:=(List.getElem?_eq_some_iff.1 hx).1
   simp only[zi4,dlt hi,zag,hx,cond_true,hp x (List.mem_of_getElem? hx),zam (show i<9223372036854775807 by omega)])
 unfold qa
 rw[show zac (zi4 p) (l,g,(l.length:Int),0,())=_ from h]
 have e:=zcg (p:=q) (g:=fun i _=>(.inr ((i:Int),()):(Unit)⊕(Int×Unit))) (d:=.inl ()) (fun r:(Unit)⊕(Int×Unit)=>match r with | .inl (_)=>(-1:Int) | .inr (v,_)=>v) (l:=l) (i:=0)
 dsimp only at e
 rw[←zdd,←e]
 generalize zef q (fun i _=>(.inr ((i:Int),()):(Unit)⊕(Int×Unit))) (.inl ()) 0 l=r
 rcases r with _|⟨v,_⟩<;>rfl
theorem zaav {γ:Type} {p:γ→Hold→Option Bool} {g:γ} (q:Hold→Bool) {l:List Hold} (hl:l.length<1000000000) (hp:∀x∈l,p g x=some (q x)):qce p l g=some (l.any q):=by
 unfold qce
 rw[zuf q hl hp]
 dsimp only
 rw[z74]
theorem za4h (n lo hi:Int):qcg n lo hi=some (rng lo hi n):=by
 unfold qcg
 simp -zeta only[k_or,za4]
 try rfl
theorem za4r (n:Int):qeu n=some (rng 0 109572 n):=by
 unfold qeu
 simp -zeta only[k_or,za4]
 try rfl
theorem za4t (n:Int):qfg n=some (rng 1 9999 n):=by
 unfold qfg
 simp -zeta only[k_or,za4]
 try rfl
theorem zan9 (n:Int):qdi n=some (rng 0 109572 n):=by
 unfold qdi
 simp -zeta only[k_or,za4]
 try rfl
def zfi (x:Charge):Int:=
 bif decide (x.ID<1)||decide (99999<x.ID)||decide (x.Patron<1)||decide (9999<x.Patron)||decide (x.Item<1)||decide (9999<x.Item)||!(rng 0 109572 x.Day) then 2
 else bif decide (x.Kind<1)||decide (3<x.Kind) then 1
 else bif decide (x.Amount<1)||decide (100000000<x.Amount)||decide (x.Paid<0)||decide (x.Amount≤x.Paid) then 2 else 0
theorem zan1 (x:Charge):qck x=some (zfi x):=by
 unfold qck zfi
 simp -zeta only[k_or,za4,za4r,za4t,zqt 1 9999,Bool.or_assoc]
 dsimp only
 simp only[zcz,Bool.or_assoc]
theorem zr9 {α β:Type} (a:α) (g:Int→β) (e:Int):(bif !(e==0) then some (.inr (g e)) else some (.inl a):Option (α⊕β))=zgy a g e:=by
 unfold zgy
 cases e==0<;>rfl
theorem zj1 (l:List Charge) (i:Nat) (x:Charge):zb7 l i x=bif zbp l i (fun y=>decide (x.ID≤y.ID)) then 7 else zfi x:=rfl
theorem z3z {l:List Charge} (hl:l.length<1000000000):zac zlx (l,l,(l.length:Int),0,())=some (if zb5 (zb7 l) 0 l==0 then .inl () else .inr (zb5 (zb7 l) 0 l,())):=by
 have h:=zd4 (step:=zlx) (fun i=>(l,l,(l.length:Int),(i:Int),())) l (zb7 l) (.inl ()) (fun e=>.inr (e,())) hl
  (by simp only[zlx,dge,cond_false])
  (fun i x hx=>by
   have hi:=(List.getElem?_eq_some_iff.1 hx).1
   have hxm:=List.mem_of_getElem? hx
   rw[zj1,zdc,←zr9 _ _ (zfi x)]
   rcases i with _|j
   ·simp -zeta only[zlx,dlt hi,zag,hx,k_or,za4,z19,cond_false,cond_true,zbp,zam (show 0<9223372036854775807 by omega),zan1]
    try rfl
   ·have hj:l[j]?=some l[j]:=List.getElem?_eq_getElem (by omega)
    simp -zeta only[zlx,dlt hi,zag,hx,k_or,za4,dpos,zgg (show j<1000000000 by omega),hj,cond_false,cond_true,zbp,zam (show j+1<9223372036854775807 by omega),zan1]
    rfl)
 exact h
theorem za4b {l:List Charge} (hl:l.length<1000000000):qbj l=some (za8 l):=by
 unfold qbj za8
 rw[z3z hl]
 generalize zb5 (zb7 l) 0 l=e
 cases decide (128<(l.length:Int)) with
 |true=>rfl
 |false=>
  by_cases h:e=0
  ·subst h;rfl
  ·have h2:(e==0)=false:=by simpa using h
   simp only[h2,Bool.false_eq_true,if_false,cond_false]
theorem zhp (l:List Hold) (i:Nat) (x:Hold):zde l i x=bif zbp l i (fun y=>decide (x.ID≤y.ID)) then 7 else zb0 x:=by
 unfold zde
 congr 1
 cases h:zb0 x==0 with
 |true=>simp at h;simp[h]
 |false=>simp
def za6w (q:Hold→Hold→Bool) (l:List Hold):Bool:=zc4 (fun i x=>(l.take i).all (fun y=>!(q y x))) 0 l
theorem zapp {X:Type} (q:X→Bool) (l:List X):l.any q=!(l.all (fun y=>!(q y))):=by
 induction l with
 |nil=>rfl
 |cons y l ih=>simp only[List.any_cons,List.all_cons];rw[ih];cases q y<;>rfl
end Go.Proofs.YtdahfgialanmpaaGreatDoor
namespace Go.Proofs.YtdahfgialanmpaaGreatDoor
open Ev
open Go (IntKind)
theorem zanw (n lo hi:Int):qbx n lo hi=some (rng lo hi n):=by
 unfold qbx
 simp -zeta only[k_or,za4]
 try rfl
theorem zcm {lo hi n:Int}:rng lo hi n=true↔lo≤n∧n≤hi:=by
 unfold rng
 simp only[Bool.and_eq_true,decide_eq_true_eq]
theorem zkl {n:Int} (h:rng 1 12 n=true):n=1∨n=2∨n=3∨n=4∨n=5∨n=6∨n=7∨n=8∨n=9∨n=10∨n=11∨n=12:=by
 have:=zcm.1 h;omega
theorem zea {n:Int} (h:rng 1 15 n=true):n=1∨n=2∨n=3∨n=4∨n=5∨n=6∨n=7∨n=8∨n=9∨n=10∨n=11∨n=12∨n=13∨n=14∨n=15:=by
 have:=zcm.1 h;omega
theorem za4w {s k:Int} (hs:rng 1 12 s=true) (hk:rng 1 15 k=true):qft s k=some (zjm s k):=by
 rcases zkl hs with h|h|h|h|h|h|h|h|h|h|h|h<;>subst h<;>
  rcases zea hk with h|h|h|h|h|h|h|h|h|h|h|h|h|h|h<;>subst h<;>rfl
theorem za4x (c:Custody):qfu c=some (zi5 c):=by
 unfold qfu zi5 zawu
 simp -zeta only[k_or,za4,zib,zanw,zqt]
 dsimp only
 cases hb:(decide (c.State<1)||decide (12<c.State)||(decide (c.Branch<1)||decide (4<c.Branch))) with
 |true=>
  have:(decide (c.State<1)||decide (12<c.State)||decide (c.Branch<1)||decide (4<c.Branch))=true:=by rw[←hb,Bool.or_assoc _ _ (decide (4<c.Branch))]
  rw[this];rfl
 |false=>
  have:(decide (c.State<1)||decide (12<c.State)||decide (c.Branch<1)||decide (4<c.Branch))=false:=by rw[←hb,Bool.or_assoc _ _ (decide (4<c.Branch))]
  rw[this]
  have hr:rng 1 12 c.State=true:=by
   simp only[Bool.or_eq_false_iff,decide_eq_false_iff_not]at hb
   rw[zcm];omega
  unfold rng
  simp only[cond_false]
  generalize decide (0≤c.Who)=a1
  generalize decide (c.Who≤9999)=a2
  generalize decide (1≤c.Who)=a3
  generalize decide (1≤c.To)=a4
  generalize decide (c.To≤4)=a5
  generalize (c.To==0)=a6
  generalize (c.To==c.Branch)=a7
  generalize (c.Who==0)=a8
  rcases zkl hr with h|h|h|h|h|h|h|h|h|h|h|h<;>rw[h]<;>revert a1 a2 a3 a4 a5 a6 a7 a8<;>decide
theorem zany (c:Custody) (ok:Bool):qc7 c ok=some (bif ok then (c,0) else (⟨0,0,0,0⟩,1)):=by
 cases ok<;>rfl
theorem za4y (c:Custody) (m:Move):qfx c m=some (bif !(m.Branch==c.Branch) then (⟨6,c.Branch,m.Who,m.Branch⟩,0) else (⟨0,0,0,0⟩,1)):=by
 unfold qfx
 rw[zany]
theorem za4q (c:Custody) (m:Move):qeo c m=some (zbl c m):=by
 unfold qeo zbl
 simp -zeta only[k_or,za4,zib,zanw,za4x]
 dsimp only
 have hw:(!(rng 0 109572 m.Day)||!(rng 1 9999 m.Item)||!(rng 1 15 m.Kind)||!(rng 1 4 m.Branch)||!(rng 0 9999 m.Who))=!(zm8 m):=by
  unfold zm8 rng
  simp only[Bool.not_and,Bool.or_assoc]
 rw[show (!(zi5 c)||!(rng 0 109572 m.Day)||!(rng 1 9999 m.Item)||!(rng 1 15 m.Kind)||!(rng 1 4 m.Branch)||!(rng 0 9999 m.Who))=(!(zi5 c)||!(zm8 m)) by rw[←hw];simp only[Bool.or_assoc]]
 cases hb:(!(zi5 c)||!(zm8 m)) with
 |true=>rfl
 |false=>
  simp only[Bool.or_eq_false_iff,Bool.not_eq_false']at hb
  obtain ⟨h1,h2⟩:=hb
  rw[h2,Bool.not_true]at hw
  simp only[Bool.or_eq_false_iff,Bool.not_eq_false']at hw
  obtain ⟨⟨⟨⟨w1,w2⟩,w3⟩,w4⟩,w5⟩:=hw
  have hs:rng 1 12 c.State=true:=by
   unfold zi5 at h1
   rw[zcm]
   cases hq:(decide (c.State<1)||decide (12<c.State)||decide (c.Branch<1)||decide (4<c.Branch)) with
   |true=>rw[hq]at h1;cases h1
   |false=>simp only[Bool.or_eq_false_iff,decide_eq_false_iff_not]at hq;omega
  rw[za4w hs w3]
  simp only[cond_false]
  cases ha:zjm c.State m.Kind with
  |false=>rfl
  |true=>
   simp only[Bool.not_true,cond_false]
   have h0:=(zcm.1 w5).1
   unfold zaay zc0
   simp only[zany,za4y]
   generalize (c.State==5)=g5
   generalize (m.Who==c.Who)=g7
   generalize (m.Branch==c.To)=g6
   by_cases hw0:m.Who=0
   ·have e2:decide (1≤m.Who)=false:=by rw[decide_eq_false_iff_not];omega
    rw[e2]
    simp only[hw0]
    by_cases hb:m.Branch=c.Branch
    ·simp only[hb,beq_self_eq_true]
     rcases zea w3 with h|h|h|h|h|h|h|h|h|h|h|h|h|h|h<;>
      (simp only[h];cases g5<;>cases g6<;>cases g7<;>rfl)
    ·have e3:(m.Branch==c.Branch)=false:=by simpa using hb
     simp only[e3]
     rcases zea w3 with h|h|h|h|h|h|h|h|h|h|h|h|h|h|h<;>
      (simp only[h];cases g5<;>cases g6<;>cases g7<;>rfl)
   ·have e2:decide (1≤m.Who)=true:=by rw[decide_eq_true_eq];omega
    have e1:(m.Who==0)=false:=by simpa using hw0
    rw[e2]
    simp only[e1]
    by_cases hb:m.Branch=c.Branch
    ·simp only[hb,beq_self_eq_true]
     rcases zea w3 with h|h|h|h|h|h|h|h|h|h|h|h|h|h|h<;>
      (simp only[h];cases g5<;>cases g6<;>cases g7<;>rfl)
    ·have e3:(m.Branch==c.Branch)=false:=by simpa using hb
     simp only[e3]
     rcases zea w3 with h|h|h|h|h|h|h|h|h|h|h|h|h|h|h<;>
      (simp only[h];cases g5<;>cases g6<;>cases g7<;>rfl)
end Go.Proofs.YtdahfgialanmpaaGreatDoor
namespace Go.Proofs.YtdahfgialanmpaaGreatDoor
open Ev
open Go (IntKind)
theorem za3v {c:Circ} {item:Int} (hl:c.Items.length<1000000000):qac c item=some (fIdx (fun x=>x.ID==item) c.Items):=by
 unfold qac
 rw[zanz (fun x=>x.ID==item) hl (fun x _=>rfl)]
theorem za4k {l:List Loan} {item:Int} (hl:l.length<1000000000):qcw l item=some (zg3 l item):=by
 unfold qcw qad qbs zg3
 dsimp only
 rw[zaog (p:=fun (g:Unit×Int×Unit) x0=>qcl x0 g.2.1) (g:=((),(item,()))) (fun x=>x.Item==item) hl (fun x _=>rfl)]
 rcases za3 (fun x:Loan=>x.Item==item) l with ⟨h1,h2⟩|⟨i,x,h1,h2,h3,h4⟩
 ·simp only[h1,h2,ziy,cond_true]
  try rfl
 ·simp only[h1,h4,zf2,cond_false,zag,h2]
  have:decide ((0:Int)≤(i:Int))=true:=by rw[decide_eq_true_eq];omega
  rw[this]
theorem za33 {c:Circ} {item:Int} (hl:c.Holds.length<1000000000):qav c item=some (zdu c item):=by
 unfold qav zdu
 rw[zuf (p:=fun (g:Unit×Int×Unit) x0=>qcz x0 g.2.1) (g:=((),(item,()))) (fun x=>x.Got==item) hl (fun x _=>rfl)]
 rcases za3 (fun x:Hold=>x.Got==item) c.Holds with ⟨h1,h2⟩|⟨i,x,h1,h2,h3,h4⟩
 ·simp only[h1,h2,ziy,cond_true]
  try rfl
 ·simp only[h1,h4,zf2,cond_false,zag,h2]
def zds (x:Item):Bool:=rng 1 9999 x.ID&&rng 1 9999 x.Record&&rng 1 4 x.Branch&&rng 1 9 x.Kind&&rng 0 100000000 x.Price&&decide ((x.Call.length:Int)≤200)&&vld x.Call
def zc1 (c:Circ) (x:Item):Bool:=!(!((zeb x.Branch c.Moves x.ID).2.2==0)||!(zbi (zeb x.Branch c.Moves x.ID).1 x.Custody))
def zaaf (c:Circ):Bool:=c.Moves.all (fun m=>(c.Items.find? (fun x=>x.ID==m.Item)).isSome)
def zku (c:Circ):Bool:=!(decide (64<(c.Items.length:Int))||decide (2000<(c.Moves.length:Int)))&&(zc4 (fun i x=>!(!(zds x)||zbp c.Items i (fun y=>decide (x.ID≤y.ID)))) 0 c.Items&&(zaaf c&&c.Items.all (zc1 c)))
end Go.Proofs.YtdahfgialanmpaaGreatDoor
namespace Go.Proofs.YtdahfgialanmpaaGreatDoor
open Ev
open Go (IntKind)
theorem zec {X:Type} {key:X→Int} {l:List X} (h:∀i x,l[i]?=some x→zbp l i (fun y=>decide (key x≤key y))=false):∀(j i:Nat) (x y:X),i<j→l[i]?=some x→l[j]?=some y→key x<key y:=by
 intro j
 induction j with
 |zero=>intro i x y hi;omega
 |succ j ih=>
  intro i x y hi hx hy
  have hj:=(List.getElem?_eq_some_iff.1 hy).1
  have hz:l[j]?=some l[j]:=List.getElem?_eq_getElem (by omega)
  have:=h _ _ hy
  simp only[zbp,hz,decide_eq_false_iff_not]at this
  by_cases e:i=j
  ·subst e
   rw[hz]at hx;cases hx;omega
  ·have:=ih i x l[j] (by omega) hx hz
   omega
theorem zxg {X:Type} {key:X→Int} {l:List X} (h:∀i x,l[i]?=some x→zbp l i (fun y=>decide (key x≤key y))=false) {x:X} (hx:x∈l):l.find? (fun y=>key y==key x)=some x:=by
 rcases za3 (fun y=>key y==key x) l with ⟨h1,h2⟩|⟨i,y,h1,h2,h3,h4⟩
 ·rw[List.find?_eq_none]at h2
  exact absurd (beq_self_eq_true _) (h2 x hx)
 ·rw[h4]
  obtain ⟨j,hj⟩:=List.getElem?_of_mem hx
  have e:key y=key x:=by simpa using h3
  by_cases hij:i=j
  ·subst hij;rw[h2]at hj;exact hj
  ·rcases Nat.lt_or_gt_of_ne hij with hlt|hlt
   ·have:=zec h _ _ _ _ hlt h2 hj;omega
   ·have:=zec h _ _ _ _ hlt hj h2;omega
theorem zkk {X:Type} {f:Nat→X→Int}:∀{l:List X} {k:Nat},zb5 f k l=0→∀i x,l[i]?=some x→f (k+i) x=0:=by
 intro l
 induction l with
 |nil=>intro k _ i x hx;simp at hx
 |cons y l ih=>
  intro k h i x hx
  unfold zb5 at h
  by_cases e:f k y=0
  ·rw[e]at h
   simp only[beq_self_eq_true,if_true]at h
   cases i with
   |zero=>simp at hx;subst hx;exact e
   |succ i=>have:=ih h i x (by simpa using hx);rwa [show k+(i+1)=k+1+i by omega]
  ·have:(f k y==0)=false:=by simpa using e
   rw[this]at h
   exact absurd h e
theorem zdp {b:Bool} {n m:Int} (h:(bif b then n else m)=0) (hn:n≠0):b=false:=by
 cases b with
 |false=>rfl
 |true=>exact absurd h hn
theorem zhr {l:List Hold} (h:zd0 l=0):zb5 (zde l) 0 l=0:=by
 unfold zd0 at h
 rw[zdp h (by decide)]at h
 simp only[cond_false]at h
 by_cases e:zb5 (zde l) 0 l=0
 ·exact e
 ·have h2:(zb5 (zde l) 0 l==0)=false:=by simpa using e
  rw[h2]at h
  exact h
theorem zsd {l:List Hold} (h:zd0 l=0):∀i x,l[i]?=some x→zbp l i (fun y=>decide (x.ID≤y.ID))=false:=by
 intro i x hx
 have:=zkk (k:=0) (zhr h) i x hx
 rw[Nat.zero_add,zhp]at this
 exact zdp this (by decide)
theorem z2j {l:List Hold} (h:zd0 l=0) {x:Hold} (hx:x∈l):zb0 x=0:=by
 obtain ⟨i,hi⟩:=List.getElem?_of_mem hx
 have:=zkk (k:=0) (zhr h) i x hi
 rw[Nat.zero_add,zhp]at this
 rw[zdp this (by decide)]at this
 exact this
theorem zki {a b:Custody}:zbi a b=true↔a=b:=by
 obtain ⟨a1,a2,a3,a4⟩:=a
 obtain ⟨b1,b2,b3,b4⟩:=b
 unfold zbi
 simp[Bool.and_eq_true]
 try (constructor<;>(intro h;simp_all))
end Go.Proofs.YtdahfgialanmpaaGreatDoor
namespace Go.Proofs.YtdahfgialanmpaaGreatDoor
open Ev
open Go (IntKind)
theorem zv2 (c:Circ) (i:Nat) (x:Item):zd1 c i x=(!(!(zds x)||zbp c.Items i (fun y=>decide (x.ID≤y.ID)))&&zc1 c x):=by
 unfold zd1 zc1 zds
 rw[Bool.eq_iff_iff]
 simp only[Bool.and_eq_true,Bool.not_eq_true',Bool.or_eq_false_iff,decide_eq_false_iff_not,Bool.not_eq_false',zcm,decide_eq_true_eq]
 constructor
 ·rintro ⟨⟨h1,h2⟩,h3⟩
  obtain ⟨⟨⟨⟨⟨⟨a1,a2⟩,a3⟩,a4⟩,a5⟩,a6⟩,a7⟩:=h1
  obtain ⟨⟨⟨⟨⟨b1,b2⟩,b3⟩,b4⟩,b5⟩,b6⟩:=h2
  refine ⟨⟨⟨⟨⟨⟨⟨⟨⟨?_,?_⟩,⟨?_,?_⟩⟩,⟨?_,?_⟩⟩,⟨?_,?_⟩⟩,⟨?_,?_⟩⟩,?_⟩,b6⟩,a3⟩,h3⟩<;>omega
 ·rintro ⟨⟨h1,a3⟩,h3⟩
  obtain ⟨⟨⟨⟨⟨⟨⟨a1,a2⟩,⟨a4,a5⟩⟩,⟨a6,a7⟩⟩,⟨a8,a9⟩⟩,⟨b1,b2⟩⟩,b3⟩,b4⟩:=h1
  refine ⟨⟨⟨⟨⟨⟨⟨⟨?_,?_⟩,a3⟩,?_⟩,?_⟩,?_⟩,?_⟩,⟨⟨⟨⟨⟨?_,?_⟩,?_⟩,?_⟩,?_⟩,b4⟩⟩,h3⟩<;>omega
theorem zsk (c:Circ):ze7 c=zku c:=by
 have key:zc4 (zd1 c) 0 c.Items=(zc4 (fun i x=>!(!(zds x)||zbp c.Items i (fun y=>decide (x.ID≤y.ID)))) 0 c.Items&&c.Items.all (zc1 c)):=by
  have gen:∀(l:List Item) (k:Nat),zc4 (zd1 c) k l=(zc4 (fun i x=>!(!(zds x)||zbp c.Items i (fun y=>decide (x.ID≤y.ID)))) k l&&l.all (zc1 c)):=by
   intro l
   induction l with
   |nil=>intro k;rfl
   |cons x l ih=>
    intro k
    simp only[zc4,List.all_cons]
    rw[ih,zv2]
    generalize (!(!(zds x)||zbp c.Items k (fun y=>decide (x.ID≤y.ID))))=b1
    generalize zc4 (fun i x=>!(!(zds x)||zbp c.Items i (fun y=>decide (x.ID≤y.ID)))) (k+1) l=b2
    cases b1<;>cases b2<;>cases zc1 c x<;>cases l.all (zc1 c)<;>rfl
  exact gen _ _
 unfold ze7 zku zaaf
 rw[key]
 generalize (!(decide (64<(c.Items.length:Int))||decide (2000<(c.Moves.length:Int))))=b1
 generalize zc4 (fun i x=>!(!(zds x)||zbp c.Items i (fun y=>decide (x.ID≤y.ID)))) 0 c.Items=b2
 generalize c.Moves.all (fun m=>(c.Items.find? (fun x=>x.ID==m.Item)).isSome)=b3
 cases b1<;>cases b2<;>cases b3<;>cases c.Items.all (zc1 c)<;>rfl
theorem zsm {c:Circ} (h:zku c=true):∀i x,c.Items[i]?=some x→zbp c.Items i (fun y=>decide (x.ID≤y.ID))=false:=by
 intro i x hx
 unfold zku at h
 simp only[Bool.and_eq_true]at h
 have:=(zrf.1 h.2.1) i x hx
 rw[Nat.zero_add]at this
 simp only[Bool.not_eq_true',Bool.or_eq_false_iff]at this
 exact this.2
theorem zsl {c:Circ} (h:zku c=true) {x:Item} (hx:x∈c.Items):zc1 c x=true:=by
 unfold zku at h
 simp only[Bool.and_eq_true,List.all_eq_true]at h
 exact h.2.2.2 x hx
end Go.Proofs.YtdahfgialanmpaaGreatDoor
namespace Go.Proofs.YtdahfgialanmpaaGreatDoor
open Ev
open Go (IntKind)
theorem zcx {X:Type} (l:List X):l.all (fun _=>true)=true:=by rw[List.all_eq_true];intros;rfl
theorem zbj (x:Custody):zbi x x=true:=by simp[zbi]
theorem zp5 (x:Item):zp4 x x=true:=by simp[zp4,zbj]
theorem zkj (x:Patron):zh8 x x=true:=by simp[zh8,zbj]
theorem zp7 (x:Loan):zp6 x x=true:=by simp[zp6,zbj]
theorem zp3 (x:Hold):zp2 x x=true:=by simp[zp2,zbj]
theorem zkh (x:Charge):zh7 x x=true:=by simp[zh7,zbj]
theorem zqb (x:Rule):zqa x x=true:=by simp[zqa,zbj]
theorem zp9 (x:Move):zp8 x x=true:=by simp[zp8,zbj]
theorem z30 {c:Circ} (hs:Short c):zac zwo (0,c,c,())=some (.inl (c,c,())):=by
 have h:=zav (step:=zwo) (fun i=>((i:Int),c,c,())) c.Items (fun _ _=>true) (.inr (false,())) (.inl (c,c,())) hs.items
  (by simp only[zwo,dge,cond_false])
  (fun i x hx=>by
   have hi:=(List.getElem?_eq_some_iff.1 hx).1
   have:=hs.items
   simp only[zwo,dlt hi,zag,hx,cond_true,zp5,Bool.not_true,cond_false,zam (show i<9223372036854775807 by omega)])
 rw[show zac zwo (0,c,c,())=_ from h,za0]
 rw[zcx];rfl
theorem zwi {c:Circ} (hs:Short c):zac zl2 (0,c,c,())=some (.inl (c,c,())):=by
 have h:=zav (step:=zl2) (fun i=>((i:Int),c,c,())) c.Patrons (fun _ _=>true) (.inr (false,())) (.inl (c,c,())) hs.patrons
  (by simp only[zl2,dge,cond_false])
  (fun i x hx=>by
   have hi:=(List.getElem?_eq_some_iff.1 hx).1
   have:=hs.patrons
   simp only[zl2,dlt hi,zag,hx,cond_true,zkj,Bool.not_true,cond_false,zam (show i<9223372036854775807 by omega)])
 rw[show zac zl2 (0,c,c,())=_ from h,za0]
 rw[zcx];rfl
theorem zwj {c:Circ} (hs:Short c):zac zl3 (0,c,c,())=some (.inl (c,c,())):=by
 have h:=zav (step:=zl3) (fun i=>((i:Int),c,c,())) c.Loans (fun _ _=>true) (.inr (false,())) (.inl (c,c,())) hs.loans
  (by simp only[zl3,dge,cond_false])
  (fun i x hx=>by
   have hi:=(List.getElem?_eq_some_iff.1 hx).1
   have:=hs.loans
   simp only[zl3,dlt hi,zag,hx,cond_true,zp7,Bool.not_true,cond_false,zam (show i<9223372036854775807 by omega)])
 rw[show zac zl3 (0,c,c,())=_ from h,za0]
 rw[zcx];rfl
theorem zwk {c:Circ} (hs:Short c):zac zl4 (0,c,c,())=some (.inl (c,c,())):=by
 have h:=zav (step:=zl4) (fun i=>((i:Int),c,c,())) c.Holds (fun _ _=>true) (.inr (false,())) (.inl (c,c,())) hs.holds
  (by simp only[zl4,dge,cond_false])
  (fun i x hx=>by
   have hi:=(List.getElem?_eq_some_iff.1 hx).1
   have:=hs.holds
   simp only[zl4,dlt hi,zag,hx,cond_true,zp3,Bool.not_true,cond_false,zam (show i<9223372036854775807 by omega)])
 rw[show zac zl4 (0,c,c,())=_ from h,za0]
 rw[zcx];rfl
theorem zwl {c:Circ} (hs:Short c):zac zl5 (0,c,c,())=some (.inl (c,c,())):=by
 have h:=zav (step:=zl5) (fun i=>((i:Int),c,c,())) c.Charges (fun _ _=>true) (.inr (false,())) (.inl (c,c,())) hs.charges
  (by simp only[zl5,dge,cond_false])
  (fun i x hx=>by
   have hi:=(List.getElem?_eq_some_iff.1 hx).1
   have:=hs.charges
   simp only[zl5,dlt hi,zag,hx,cond_true,zkh,Bool.not_true,cond_false,zam (show i<9223372036854775807 by omega)])
 rw[show zac zl5 (0,c,c,())=_ from h,za0]
 rw[zcx];rfl
theorem zwm {c:Circ} (hs:Short c):zac zl6 (0,c,c,())=some (.inl (c,c,())):=by
 have h:=zav (step:=zl6) (fun i=>((i:Int),c,c,())) c.Rules (fun _ _=>true) (.inr (false,())) (.inl (c,c,())) hs.rules
  (by simp only[zl6,dge,cond_false])
  (fun i x hx=>by
   have hi:=(List.getElem?_eq_some_iff.1 hx).1
   have:=hs.rules
   simp only[zl6,dlt hi,zag,hx,cond_true,zqb,Bool.not_true,cond_false,zam (show i<9223372036854775807 by omega)])
 rw[show zac zl6 (0,c,c,())=_ from h,za0]
 rw[zcx];rfl
theorem zwn {c:Circ} (hs:Short c):zac zl7 (0,c,c,())=some (.inl (c,c,())):=by
 have h:=zav (step:=zl7) (fun i=>((i:Int),c,c,())) c.Moves (fun _ _=>true) (.inr (false,())) (.inl (c,c,())) hs.moves
  (by simp only[zl7,dge,cond_false])
  (fun i x hx=>by
   have hi:=(List.getElem?_eq_some_iff.1 hx).1
   have:=hs.moves
   simp only[zl7,dlt hi,zag,hx,cond_true,zp9,Bool.not_true,cond_false,zam (show i<9223372036854775807 by omega)])
 rw[show zac zl7 (0,c,c,())=_ from h,za0]
 rw[zcx];rfl
theorem zwt {c:Circ} (hs:Short c):zac zeg (0,0,c,c,())=some (.inl (0,c,c,())):=by
 have st:∀k:Int,zeg (0,k,c,c,())=(bif decide (k<(c.Cals.x0.Closed.length:Int)) then (match getI c.Cals.x0.Closed k with|some x=>(match getI c.Cals.x0.Closed k with|some y=>(bif !(x==y) then some (.inr (.inr (false,()))) else some (.inl (0,wr .i64 (k+1),c,c,())))|none=>none)|none=>none) else some (.inr (.inl (0,c,c,())))):=fun k=>rfl
 have h:=zav (step:=zeg) (fun k=>(0,(k:Int),c,c,())) c.Cals.x0.Closed (fun _ _=>true) (.inr (false,())) (.inl (0,c,c,())) hs.cal0
  (by rw[st];simp only[dge,cond_false])
  (fun k x hx=>by
   have hi:=(List.getElem?_eq_some_iff.1 hx).1
   have:=hs.cal0
   rw[st]
   simp only[dlt hi,zag,hx,cond_true,beq_self_eq_true,Bool.not_true,cond_false,zam (show k<9223372036854775807 by omega)])
 rw[show zac zeg (0,0,c,c,())=_ from h,za0]
 rw[zcx];rfl
theorem zajd {c:Circ} (hs:Short c):zi6 (0,c,c,())=some (.inl (1,c,c,())):=by
 have st:zi6 (0,c,c,())=(bif !(c.Cals.x0.Week==c.Cals.x0.Week) then some (.inr (.inr (false,()))) else bif !((c.Cals.x0.Closed.length:Int)==(c.Cals.x0.Closed.length:Int)) then some (.inr (.inr (false,()))) else
  match zac zeg (0,0,c,c,()) with
  |some (.inl (i,a,b,_))=>some (.inl (wr .i64 (i+1),a,b,()))
  |some (.inr (v,_))=>some (.inr (.inr (v,())))
  |none=>none):=by
  show (bif !(c.Cals.x0.Week==c.Cals.x0.Week) then _ else _)=_
  cases (!(c.Cals.x0.Week==c.Cals.x0.Week))<;>rfl
 rw[st,zwt hs]
 simp only[beq_self_eq_true,Bool.not_true,cond_false]
 try rfl
theorem zwu {c:Circ} (hs:Short c):zac zeg (1,0,c,c,())=some (.inl (1,c,c,())):=by
 have st:∀k:Int,zeg (1,k,c,c,())=(bif decide (k<(c.Cals.x1.Closed.length:Int)) then (match getI c.Cals.x1.Closed k with|some x=>(match getI c.Cals.x1.Closed k with|some y=>(bif !(x==y) then some (.inr (.inr (false,()))) else some (.inl (1,wr .i64 (k+1),c,c,())))|none=>none)|none=>none) else some (.inr (.inl (1,c,c,())))):=fun k=>rfl
 have h:=zav (step:=zeg) (fun k=>(1,(k:Int),c,c,())) c.Cals.x1.Closed (fun _ _=>true) (.inr (false,())) (.inl (1,c,c,())) hs.cal1
  (by rw[st];simp only[dge,cond_false])
  (fun k x hx=>by
   have hi:=(List.getElem?_eq_some_iff.1 hx).1
   have:=hs.cal1
   rw[st]
   simp only[dlt hi,zag,hx,cond_true,beq_self_eq_true,Bool.not_true,cond_false,zam (show k<9223372036854775807 by omega)])
 rw[show zac zeg (1,0,c,c,())=_ from h,za0]
 rw[zcx];rfl
theorem zaje {c:Circ} (hs:Short c):zi6 (1,c,c,())=some (.inl (2,c,c,())):=by
 have st:zi6 (1,c,c,())=(bif !(c.Cals.x1.Week==c.Cals.x1.Week) then some (.inr (.inr (false,()))) else bif !((c.Cals.x1.Closed.length:Int)==(c.Cals.x1.Closed.length:Int)) then some (.inr (.inr (false,()))) else
  match zac zeg (1,0,c,c,()) with
  |some (.inl (i,a,b,_))=>some (.inl (wr .i64 (i+1),a,b,()))
  |some (.inr (v,_))=>some (.inr (.inr (v,())))
  |none=>none):=by
  show (bif !(c.Cals.x1.Week==c.Cals.x1.Week) then _ else _)=_
  cases (!(c.Cals.x1.Week==c.Cals.x1.Week))<;>rfl
 rw[st,zwu hs]
 simp only[beq_self_eq_true,Bool.not_true,cond_false]
 try rfl
theorem zwv {c:Circ} (hs:Short c):zac zeg (2,0,c,c,())=some (.inl (2,c,c,())):=by
 have st:∀k:Int,zeg (2,k,c,c,())=(bif decide (k<(c.Cals.x2.Closed.length:Int)) then (match getI c.Cals.x2.Closed k with|some x=>(match getI c.Cals.x2.Closed k with|some y=>(bif !(x==y) then some (.inr (.inr (false,()))) else some (.inl (2,wr .i64 (k+1),c,c,())))|none=>none)|none=>none) else some (.inr (.inl (2,c,c,())))):=fun k=>rfl
 have h:=zav (step:=zeg) (fun k=>(2,(k:Int),c,c,())) c.Cals.x2.Closed (fun _ _=>true) (.inr (false,())) (.inl (2,c,c,())) hs.cal2
  (by rw[st];simp only[dge,cond_false])
  (fun k x hx=>by
   have hi:=(List.getElem?_eq_some_iff.1 hx).1
   have:=hs.cal2
   rw[st]
   simp only[dlt hi,zag,hx,cond_true,beq_self_eq_true,Bool.not_true,cond_false,zam (show k<9223372036854775807 by omega)])
 rw[show zac zeg (2,0,c,c,())=_ from h,za0]
 rw[zcx];rfl
theorem zajf {c:Circ} (hs:Short c):zi6 (2,c,c,())=some (.inl (3,c,c,())):=by
 have st:zi6 (2,c,c,())=(bif !(c.Cals.x2.Week==c.Cals.x2.Week) then some (.inr (.inr (false,()))) else bif !((c.Cals.x2.Closed.length:Int)==(c.Cals.x2.Closed.length:Int)) then some (.inr (.inr (false,()))) else
  match zac zeg (2,0,c,c,()) with
  |some (.inl (i,a,b,_))=>some (.inl (wr .i64 (i+1),a,b,()))
  |some (.inr (v,_))=>some (.inr (.inr (v,())))
  |none=>none):=by
  show (bif !(c.Cals.x2.Week==c.Cals.x2.Week) then _ else _)=_
  cases (!(c.Cals.x2.Week==c.Cals.x2.Week))<;>rfl
 rw[st,zwv hs]
 simp only[beq_self_eq_true,Bool.not_true,cond_false]
 try rfl
theorem zww {c:Circ} (hs:Short c):zac zeg (3,0,c,c,())=some (.inl (3,c,c,())):=by
 have st:∀k:Int,zeg (3,k,c,c,())=(bif decide (k<(c.Cals.x3.Closed.length:Int)) then (match getI c.Cals.x3.Closed k with|some x=>(match getI c.Cals.x3.Closed k with|some y=>(bif !(x==y) then some (.inr (.inr (false,()))) else some (.inl (3,wr .i64 (k+1),c,c,())))|none=>none)|none=>none) else some (.inr (.inl (3,c,c,())))):=fun k=>rfl
 have h:=zav (step:=zeg) (fun k=>(3,(k:Int),c,c,())) c.Cals.x3.Closed (fun _ _=>true) (.inr (false,())) (.inl (3,c,c,())) hs.cal3
  (by rw[st];simp only[dge,cond_false])
  (fun k x hx=>by
   have hi:=(List.getElem?_eq_some_iff.1 hx).1
   have:=hs.cal3
   rw[st]
   simp only[dlt hi,zag,hx,cond_true,beq_self_eq_true,Bool.not_true,cond_false,zam (show k<9223372036854775807 by omega)])
 rw[show zac zeg (3,0,c,c,())=_ from h,za0]
 rw[zcx];rfl
theorem zajg {c:Circ} (hs:Short c):zi6 (3,c,c,())=some (.inl (4,c,c,())):=by
 have st:zi6 (3,c,c,())=(bif !(c.Cals.x3.Week==c.Cals.x3.Week) then some (.inr (.inr (false,()))) else bif !((c.Cals.x3.Closed.length:Int)==(c.Cals.x3.Closed.length:Int)) then some (.inr (.inr (false,()))) else
  match zac zeg (3,0,c,c,()) with
  |some (.inl (i,a,b,_))=>some (.inl (wr .i64 (i+1),a,b,()))
  |some (.inr (v,_))=>some (.inr (.inr (v,())))
  |none=>none):=by
  show (bif !(c.Cals.x3.Week==c.Cals.x3.Week) then _ else _)=_
  cases (!(c.Cals.x3.Week==c.Cals.x3.Week))<;>rfl
 rw[st,zww hs]
 simp only[beq_self_eq_true,Bool.not_true,cond_false]
 try rfl
theorem zawv {c:Circ} (hs:Short c):qy c c=some true:=by
 have s4:zi6 (4,c,c,())=some (.inr (.inl ())):=rfl
 have h:zac zi6 (0,c,c,())=some (.inl ()):=by
  refine za5 5 (by rw[za6];omega) ?_
  simp only[za7,zajd hs,zaje hs,zajf hs,zajg hs,s4]
 unfold qy
 rw[h]
theorem zqz {c:Circ} (hs:Short c):qd c c=some true:=by
 unfold qd
 simp -zeta only[k_or,beq_self_eq_true,Bool.not_true,Bool.or_false]
 dsimp only
 simp only[z30 hs,zwi hs,zwj hs,zwk hs,zwl hs,zwm hs,zwn hs,zawv hs,Bool.or_false,cond_false]
end Go.Proofs.YtdahfgialanmpaaGreatDoor
namespace Go.Proofs.YtdahfgialanmpaaGreatDoor
open Ev
open Go (IntKind)
theorem ze8 {n m:Nat} (h:n+m≤1000000100):decide (n+m≤LIM)=true:=by rw[decide_eq_true_eq];unfold LIM;omega
theorem zi7 {X:Type} {s:List X} (h:s.length<1000000000):decide (([]:List X).length+s.length≤LIM)=true:=ze8 (by simp;omega)
def zdx:Circ:=⟨0,[],[],[],[],[],[],⟨⟨0,[]⟩,⟨0,[]⟩,⟨0,[]⟩,⟨0,[]⟩⟩,[],0,0,false⟩
theorem zt9:Short zdx:=by
 constructor<;>first|(show (0:Nat)<_;decide)|(intro x hx;cases hx)
end Go.Proofs.YtdahfgialanmpaaGreatDoor
namespace Go.Proofs.YtdahfgialanmpaaGreatDoor
open Ev
open Go (IntKind)
def ChOk (x:Charge):Prop:=0≤x.Paid∧x.Paid<x.Amount∧x.Amount≤100000000
theorem z1v {l:List Charge} (h:za8 l=0):l.length≤128∧∀x∈l,ChOk x:=by
 unfold za8 at h
 rw[Bool.cond_eq_ite]at h
 split at h
 ·omega
 ·rename_i hlen
  simp only[decide_eq_true_eq]at hlen
  refine ⟨by omega,fun x hx=>?_⟩
  obtain ⟨i,hi⟩:=List.getElem?_of_mem hx
  have:=z2c.1 h i x hi
  unfold zb7 at this
  simp only[Bool.cond_eq_ite]at this
  split at this
  ·omega
  ·split at this
   ·omega
   ·split at this
    ·omega
    ·split at this
     ·omega
     ·rename_i h4
      simp only[Bool.or_eq_true,decide_eq_true_eq,not_or]at h4
      unfold ChOk
      omega
def owed (p:Int):List Charge→Int
 | []=>0
 |x::l=>(bif x.Patron==p then x.Amount-x.Paid else 0)+owed p l
end Go.Proofs.YtdahfgialanmpaaGreatDoor
namespace Go.Proofs.YtdahfgialanmpaaGreatDoor
open Ev
open Go (IntKind)
end Go.Proofs.YtdahfgialanmpaaGreatDoor
namespace Go.Proofs.YtdahfgialanmpaaGreatDoor
open Ev
open Go (IntKind)
def zdj (r:Rule):Int:=(bif !(r.Patron==0) then 4 else 0)+((bif !(r.Item==0) then 2 else 0)+(bif !(r.Branch==0) then 1 else 0))
theorem za4n (r:Rule):qe6 r=some (zdj r):=by
 unfold qe6 zdj
 cases r.Patron==0<;>cases r.Item==0<;>cases r.Branch==0<;>rfl
theorem za4d (r:Rule):qbn r=some (zdj r):=by
 unfold qbn
 have st:∀(a b c n:Int),(∀(m:Int),zir (m,3,0,[a,b,c],())=some (.inl (bif !(a==0) then wr .i64 ((wr .i64 (m*2))+1) else wr .i64 (m*2),3,1,[a,b,c],())))∧
  (∀(m:Int),zir (m,3,1,[a,b,c],())=some (.inl (bif !(b==0) then wr .i64 ((wr .i64 (m*2))+1) else wr .i64 (m*2),3,2,[a,b,c],())))∧
  (∀(m:Int),zir (m,3,2,[a,b,c],())=some (.inl (bif !(c==0) then wr .i64 ((wr .i64 (m*2))+1) else wr .i64 (m*2),3,3,[a,b,c],()))):=fun a b c n=>
  ⟨fun m=>by show (bif !(a==0) then _ else _)=_;cases a==0<;>rfl,fun m=>by show (bif !(b==0) then _ else _)=_;cases b==0<;>rfl,fun m=>by show (bif !(c==0) then _ else _)=_;cases c==0<;>rfl⟩
 obtain ⟨s0,s1,s2⟩:=st r.Patron r.Item r.Branch 0
 have s3:∀m:Int,zir (m,3,3,[r.Patron,r.Item,r.Branch],())=some (.inr (m,())):=fun m=>rfl
 have h:zac zir (0,(([r.Patron,r.Item,r.Branch]).length:Int),0,[r.Patron,r.Item,r.Branch],())=some (zdj r,()):=by
  refine za5 4 (by rw[za6];omega) ?_
  show za7 zir 4 (0,3,0,[r.Patron,r.Item,r.Branch],())=_
  simp only[za7,s0,s1,s2,s3]
  unfold zdj
  cases r.Patron==0<;>cases r.Item==0<;>cases r.Branch==0<;>rfl
 rw[h]
def zm0 (r:Rule) (p i b:Int):Bool:=(r.Patron==0||r.Patron==p)&&(r.Item==0||r.Item==i)&&(r.Branch==0||r.Branch==b)
theorem zaod (r:Rule) (p i b:Int):qfo r p i b=some (zm0 r p i b):=by
 unfold qfo zm0
 simp -zeta only[k_or,za4]
 try rfl
theorem za4m (a b:Int):qe0 a b=some (a==0||a==b):=by
 unfold qe0
 cases a==0<;>rfl
theorem zan0 (r:Rule) (p i b:Int):qcc r p i b=some (zm0 r p i b):=by
 unfold qcc zm0
 simp -zeta only[za4m,k_or,za4]
 try dsimp only
def wB (l:List Rule) (b:Int):Int:=match getI l b with|some y=>zdj y|none=>0
def zrl (l:List Rule) (p it br:Int) (i:Nat) (x:Rule) (b:Int):Int:=bif zm0 x p it br&&(decide (b<0)||decide (wB l b<zdj x)) then (i:Int) else b
def zaeq (l:List Rule) (p it br:Int):Int:=zc2 (fun i x b=>.inl (zrl l p it br i x b)) (fun b=>b) 0 l (-1)
def zfv (l:List Rule) (b:Int):Prop:=b<0∨∃k:Nat,b=(k:Int)∧k<l.length
theorem zrm {l:List Rule} {b:Int} (h:zfv l b) (hb:decide (b<0)=false):∃y,getI l b=some y∧wB l b=zdj y:=by
 rcases h with h|⟨k,rfl,hk⟩
 ·rw[decide_eq_false_iff_not]at hb;omega
 ·have:getI l (k:Int)=some l[k]:=by rw[zag,List.getElem?_eq_getElem hk]
  exact ⟨_,this,by unfold wB;rw[this]⟩
theorem zjt {l:List Rule} {p it br:Int} {i:Nat} {x:Rule} {b:Int} (h:zfv l b) (hi:i<l.length):zfv l (zrl l p it br i x b):=by
 unfold zrl
 cases zm0 x p it br&&(decide (b<0)||decide (wB l b<zdj x)) with
 |true=>exact .inr ⟨i,rfl,hi⟩
 |false=>exact h
theorem zun {X σ β γ:Type} {f:Nat→X→σ→σ} {g:σ→β} (k:β→γ):∀{l:List X} {i:Nat} {s:σ},k (zc2 (fun i x s=>.inl (f i x s)) g i l s)=zc2 (fun i x s=>.inl (f i x s)) (fun s=>k (g s)) i l s:=by
 intro l
 induction l with
 |nil=>intros;rfl
 |cons x l ih=>intro i s;simp only[zc2];exact ih
theorem za3s {l:List Rule} {p it br:Int} (hl:l.length<1000000000):qa0 l p it br=some (zaeq l p it br):=by
 have h:=zb4 (step:=zlo) (fun (i:Nat) (b:Int)=>zfv l b) (fun i b=>(l,p,it,br,b,l,(l.length:Int),(i:Int),())) l
  (fun i x b=>.inl (zrl l p it br i x b)) (fun b=>(b,())) (by rw[za6];omega)
  (fun b _=>by simp only[zlo,dge,cond_false])
  (fun i x b hx hi=>by
   have hlt:=(List.getElem?_eq_some_iff.1 hx).1
   refine ⟨?_,fun s' hs'=>by cases hs';exact zjt hi hlt⟩
   unfold zrl
   cases hb:decide (b<0) with
   |true=>
    simp only[zlo,dlt hlt,zag,hx,cond_true,zan0,hb,zam (show i<9223372036854775807 by omega)]
    cases zm0 x p it br<;>rfl
   |false=>
    obtain ⟨y,h1,h2⟩:=zrm hi hb
    simp only[zlo,dlt hlt,zag,hx,cond_true,cond_false,zan0,za4d,h1,h2,hb,zam (show i<9223372036854775807 by omega)]
    cases zm0 x p it br<;>cases decide (zdj y<zdj x)<;>rfl) (-1) (.inl (by omega))
 unfold qa0
 rw[show zac zlo (l,p,it,br,(-1),l,(l.length:Int),0,())=_ from h,←zun (g:=fun b=>b) (fun b:Int=>(b,()))]
 try rfl
theorem zanx {l:List Rule} {p it br:Int} (hl:l.length<1000000000):qby l p it br=some (zaeq l p it br):=by
 have h:=zb4 (step:=zly) (fun (i:Nat) (b:Int)=>zfv l b) (fun i b=>(l,p,it,br,b,(i:Int),())) l
  (fun i x b=>.inl (zrl l p it br i x b)) (fun b=>(b,())) (by rw[za6];omega)
  (fun b _=>by simp only[zly,dge,cond_false])
  (fun i x b hx hi=>by
   have hlt:=(List.getElem?_eq_some_iff.1 hx).1
   refine ⟨?_,fun s' hs'=>by cases hs';exact zjt hi hlt⟩
   unfold zrl
   cases hb:decide (b<0) with
   |true=>
    simp only[zly,dlt hlt,zag,hx,cond_true,zaod,hb,zam (show i<9223372036854775807 by omega)]
    cases zm0 x p it br<;>rfl
   |false=>
    obtain ⟨y,h1,h2⟩:=zrm hi hb
    simp only[zly,dlt hlt,zag,hx,cond_true,cond_false,zaod,za4n,h1,h2,hb,zam (show i<9223372036854775807 by omega)]
    cases zm0 x p it br<;>cases decide (zdj y<zdj x)<;>rfl) (-1) (.inl (by omega))
 unfold qby
 rw[show zac zly (l,p,it,br,(-1),0,())=_ from h,←zun (g:=fun b=>b) (fun b:Int=>(b,()))]
 try rfl
theorem zawq {l:List Rule} {p it br:Int} (hl:l.length<1000000000):qdo l p it br=qgd l p it br:=by
 unfold qdo qgd
 rw[za3s hl,zanx hl]
 try rfl
theorem zawp {c:Circ} {p:Int} {x:Item} (hs:Short c):qcd c p x=qga c p x:=by
 unfold qcd qga
 rw[za4j hs.patrons,zl0 hs.patrons]
 dsimp only
 rw[zawq hs.rules]
 try rfl
def calS (c:Circ) (b:Int):Calendar:=bif b==1 then c.Cals.x0 else bif b==2 then c.Cals.x1 else bif b==3 then c.Cals.x2 else c.Cals.x3
theorem znq {n:Int} (h:rng 1 4 n=true):n=1∨n=2∨n=3∨n=4:=by
 have:=zcm.1 h;omega
theorem za6k {c:Circ} {b:Int} (h:rng 1 4 b=true):qq c b=some (calS c b):=by
 rcases znq h with h|h|h|h<;>subst h<;>rfl
theorem zan4 {c:Circ} {b:Int} (h:rng 1 4 b=true):qct c b=some (calS c b):=by
 rcases znq h with h|h|h|h<;>subst h<;>rfl
end Go.Proofs.YtdahfgialanmpaaGreatDoor
namespace Go.Proofs.YtdahfgialanmpaaGreatDoor
open Ev
open Go (IntKind)
def zf9 (week:Int) (i:Nat):Bool:=(wr .i64 (BitVec.ofInt 64 (week.fdiv (2 ^ (min i 64))) &&& BitVec.ofInt 64 1).toNat)==0
theorem za36 (c:Calendar):qaz c=some ⟨zf9 c.Week 0,zf9 c.Week 1,zf9 c.Week 2,zf9 c.Week 3,zf9 c.Week 4,zf9 c.Week 5,zf9 c.Week 6⟩:=by
 have h:zac zaas (0,c,(⟨false,false,false,false,false,false,false⟩:V7 Bool),(⟨false,false,false,false,false,false,false⟩:V7 Bool),())=some ((⟨false,false,false,false,false,false,false⟩:V7 Bool),(⟨zf9 c.Week 0,zf9 c.Week 1,zf9 c.Week 2,zf9 c.Week 3,zf9 c.Week 4,zf9 c.Week 5,zf9 c.Week 6⟩:V7 Bool),()):=by
  refine za5 8 (by rw[za6];omega) ?_
  try rfl
 unfold qaz
 rw[h]
def bitW:Int→Nat→Int
 |n,0=>n
 |n,k+1=>bitW (wr .i64 (n.tdiv 2)) k
theorem z3r {day n:Int} {c:Calendar}:∀(k:Nat) (i:Nat) (n:Int),i+k<100→za7 zog (k+1) (day,n,((i+k:Nat):Int),(i:Int),c,())=some (day,bitW n k,c,()):=by
 intro k
 induction k with
 |zero=>
  intro i n hi
  have:decide ((i:Int)<((i+0:Nat):Int))=false:=by rw[decide_eq_false_iff_not];omega
  simp only[za7,zog,this,cond_false,bitW]
 |succ k ih=>
  intro i n hi
  have:decide ((i:Int)<((i+(k+1):Nat):Int))=true:=by rw[decide_eq_true_eq];omega
  rw[za7]
  simp only[zog,this,cond_true,zam (show i<9223372036854775807 by omega),bitW]
  have:=ih (i+1) (wr .i64 (n.tdiv 2)) (by omega)
  rw[show i+1+k=i+(k+1) by omega]at this
  exact this
theorem z4s:((List.range 127).all fun n=>(List.range 7).all fun w=>zf9 (n:Int) w==!((bitW (n:Int) w).tmod 2==1))=true:=by kernel_rfl
theorem zad7 {week:Int} {w:Nat} (h1:0≤week) (h2:week≤126) (hw:w<7):zf9 week w=!((bitW week w).tmod 2==1):=by
 obtain ⟨n,rfl⟩:∃n:Nat,week=(n:Int):=⟨week.toNat,by omega⟩
 have h:=z4s
 rw[List.all_eq_true]at h
 have h3:=h n (List.mem_range.2 (by omega))
 rw[List.all_eq_true]at h3
 have h4:=h3 w (List.mem_range.2 hw)
 simpa using h4
def lbS (t:Int) (l:List Int):Nat:=(l.takeWhile (fun x=>decide (x<t))).length
theorem za6c {t:Int} {l:List Int}:lbS t l≤l.length:=by
 unfold lbS
 have:=(List.takeWhile_prefix (fun x=>decide (x<t)) (l:=l)).length_le
 exact this
theorem zsn {t:Int}:∀{l:List Int} {k:Nat} {x:Int},k<lbS t l→l[k]?=some x→x<t:=by
 intro l
 induction l with
 |nil=>intro k x h;simp[lbS]at h
 |cons y l ih=>
  intro k x h hx
  unfold lbS at h ih
  rw[List.takeWhile_cons]at h
  by_cases hy:y<t
  ·simp only[hy,decide_true,if_true,List.length_cons]at h
   cases k with
   |zero=>simp at hx;omega
   |succ k=>exact ih (k:=k) (by omega) (by simpa using hx)
  ·simp[hy]at h
theorem za3n {t:Int}:∀{l:List Int} {x:Int},l[lbS t l]?=some x→¬x<t:=by
 intro l
 induction l with
 |nil=>intro x h;simp[lbS]at h
 |cons y l ih=>
  intro x hx
  unfold lbS at hx ih
  rw[List.takeWhile_cons]at hx
  by_cases hy:y<t
  ·simp only[hy,decide_true,if_true,List.length_cons,List.getElem?_cons_succ]at hx
   exact ih hx
  ·simp[hy]at hx;omega
theorem zam9 {t:Int} {l:List Int} (hsort:∀(j i:Nat) (x y:Int),i<j→l[i]?=some x→l[j]?=some y→x<y) {k:Nat} {x:Int} (hx:l[k]?=some x):decide (x<t)=decide (k<lbS t l):=by
 rw[decide_eq_decide]
 constructor
 ·intro h
  by_cases hk:k<lbS t l
  ·exact hk
  ·exfalso
   have hlt:lbS t l<l.length:=by have:=(List.getElem?_eq_some_iff.1 hx).1;omega
   have hz:l[lbS t l]?=some l[lbS t l]:=List.getElem?_eq_getElem hlt
   have:=za3n hz
   by_cases e:lbS t l=k
   ·subst e
    rw[hz]at hx;cases hx;exact this h
   ·have:=hsort k (lbS t l) _ _ (by omega) hz hx;omega
 ·intro h;exact zsn h hx
theorem za3p {i j:Nat} (h:i+j<2000000000):wr .i64 ((wr .u64 (wr .i64 ((i:Int)+(j:Int)))).fdiv (2 ^ 1))=(((i+j) / 2:Nat):Int):=by
 rw[zee (n:=(i:Int)+(j:Int)) (by omega) (by omega)]
 have:wr .u64 ((i:Int)+(j:Int))=(i:Int)+(j:Int):=by
  unfold wr;simp[IntKind.wrap,IntKind.bits,IntKind.signed];omega
 rw[this,Int.fdiv_eq_ediv_of_nonneg _ (by omega)]
 have e:((i:Int)+(j:Int)) / 2 ^ 1=(((i+j) / 2:Nat):Int):=by omega
 rw[e,zee (by omega) (by omega)]
theorem za4u (x y:Int):qfh x y=some (decide (x<y)):=by
 have e:∀z:Int,qff z=some false:=fun z=>by unfold qff;simp
 unfold qfh
 rw[e]
 try rfl
theorem z4h {l:List Int} {t:Int} (hl:l.length<1000000000) (hsort:∀(j i:Nat) (x y:Int),i<j→l[i]?=some x→l[j]?=some y→x<y) :
 zac zoe (l,t,(l.length:Int),0,(l.length:Int),())=some (l,t,(l.length:Int),(lbS t l:Int),()):=by
 refine zad8 (step:=zoe) (fun a=>∃i j:Nat,a=(l,t,(l.length:Int),(i:Int),(j:Int),())∧i≤lbS t l∧lbS t l≤j∧j≤l.length) (fun a=>(a.2.2.2.2.1-a.2.2.2.1).toNat) (fun _=>(l,t,(l.length:Int),(lbS t l:Int),())) ?_ ⟨0,l.length,rfl,by omega,za6c,by omega⟩ (by rw[za6];show ((l.length:Int)-0).toNat<_;omega)
 rintro a ⟨i,j,rfl,h1,h2,h3⟩
 by_cases hij:i<j
 ·left
  have d:decide ((i:Int)<(j:Int))=true:=by rw[decide_eq_true_eq];omega
  have hm:(i+j) / 2<l.length:=by omega
  have hx:l[(i+j) / 2]?=some l[(i+j) / 2]:=List.getElem?_eq_getElem hm
  have hlb:=zam9 (t:=t) hsort hx
  simp only[zoe,d,cond_true,za3p (show i+j<2000000000 by omega),zag,hx,za4u,hlb]
  by_cases hk:(i+j) / 2<lbS t l
  ·rw[show decide ((i+j) / 2<lbS t l)=true by rw[decide_eq_true_eq];exact hk]
   simp only[cond_true,zam (show (i+j) / 2<9223372036854775807 by omega)]
   exact ⟨_,rfl,⟨(i+j) / 2+1,j,rfl,by omega,h2,h3⟩,by simp only;omega,trivial⟩
  ·rw[show decide ((i+j) / 2<lbS t l)=false by rw[decide_eq_false_iff_not];exact hk]
   simp only[cond_false]
   exact ⟨_,rfl,⟨i,(i+j) / 2,rfl,h1,by omega,by omega⟩,by simp only;omega,trivial⟩
 ·right
  have d:decide ((i:Int)<(j:Int))=false:=by rw[decide_eq_false_iff_not];omega
  have hi:i=lbS t l:=by omega
  subst hi
  simp only[zoe,d,cond_false]
theorem zabd {l:List Int} {t:Int} (hl:l.length<1000000000) (hsort:∀(j i:Nat) (x y:Int),i<j→l[i]?=some x→l[j]?=some y→x<y) :
 qa4 l t=some ((lbS t l:Int),l.any (fun x=>x==t)):=by
 unfold qa4
 rw[z4h hl hsort]
 by_cases hk:lbS t l<l.length
 ·have d:decide ((lbS t l:Int)<(l.length:Int))=true:=by rw[decide_eq_true_eq];omega
  have hx:l[lbS t l]?=some l[lbS t l]:=List.getElem?_eq_getElem hk
  have hn:qew l[lbS t l]=some false:=by unfold qew;simp
  simp only[d,cond_true,zag,hx,hn,cond_false]
  have e:(l[lbS t l]==t)=l.any (fun x=>x==t):=by
   rw[Bool.eq_iff_iff,List.any_eq_true]
   constructor
   ·intro h;exact ⟨_,List.getElem_mem hk,h⟩
   ·rintro ⟨x,hm,he⟩
    have he':x=t:=by simpa using he
    obtain ⟨i,hi⟩:=List.getElem?_of_mem hm
    have h1:=zam9 (t:=t) hsort hi
    have h2:=za3n hx
    rw[decide_eq_decide]at h1
    by_cases e:i=lbS t l
    ·rw[e,hx]at hi;cases hi;exact he
    ·have:lbS t l<i:=by omega
     have:=hsort _ _ _ _ this hx hi
     omega
  rw[←e]
  cases l[lbS t l]==t<;>rfl
 ·have d:decide ((lbS t l:Int)<(l.length:Int))=false:=by rw[decide_eq_false_iff_not];omega
  have e:l.any (fun x=>x==t)=false:=by
   rw[List.any_eq_false]
   intro x hm he
   have he':x=t:=by simpa using he
   obtain ⟨i,hi⟩:=List.getElem?_of_mem hm
   have:=(List.getElem?_eq_some_iff.1 hi).1
   have:=zsn (t:=t) (show i<lbS t l by omega) hi
   omega
  simp only[d,cond_false,e]
end Go.Proofs.YtdahfgialanmpaaGreatDoor
namespace Go.Proofs.YtdahfgialanmpaaGreatDoor
open Ev
open Go (IntKind)
theorem zvy {l:List Int} (h:incr l=true):∀(j i:Nat) (x y:Int),i<j→l[i]?=some x→l[j]?=some y→x<y:=by
 have h2:∀i x,l[i]?=some x→zbp l i (fun y=>decide (x≤y))=false:=by
  intro i x hx
  have:=(zrf.1 h) i x hx
  rw[Nat.zero_add]at this
  simpa using this
 exact zec (key:=fun x:Int=>x) h2
structure CalOk (c:Calendar):Prop where
 w1:0≤c.Week
 w2:c.Week≤126
 len:c.Closed.length<1000000000
 inc:incr c.Closed=true
theorem zaet {c:Calendar} (h:(zco c==0)=true):CalOk c:=by
 have h:zco c=0:=by simpa using h
 unfold zco at h
 have h1:=zdp h (by decide)
 rw[h1]at h
 simp only[cond_false]at h
 have h2:=zdp h (by decide)
 rw[h2]at h
 simp only[cond_false]at h
 simp only[Bool.or_eq_false_iff,decide_eq_false_iff_not]at h1 h2
 cases h3:c.Closed.all (fun x=>!(decide (x<0)||decide (109572<x))) with
 |false=>rw[h3]at h;cases h
 |true=>
  rw[h3]at h
  cases h4:incr c.Closed with
  |false=>rw[h4]at h;cases h
  |true=>exact ⟨by omega,by omega,by omega,h4⟩
def z3d (c:Calendar) (d:Int):Bool:=rng 0 109572 d&&(!(c.Closed.any (fun x=>x==d))&&zf9 c.Week (d.tmod 7).toNat)
theorem za51 {d:Int} (h:0≤d):0≤d.tmod 7∧d.tmod 7<7:=by
 rw[Int.tmod_eq_emod_of_nonneg h];omega
theorem zan2 {c:Calendar} (hc:CalOk c) (d:Int):qco c d=some (z3d c d):=by
 unfold qco z3d
 rw[zan9]
 dsimp only
 cases hr:rng 0 109572 d with
 |false=>rfl
 |true=>
  simp -zeta only[Bool.not_true,cond_false,Bool.true_and]
  rw[zabd hc.len (zvy hc.inc)]
  dsimp only
  cases c.Closed.any (fun x=>x==d) with
  |true=>rfl
  |false=>
   have hk:qdl d=some (d.tmod 7):=by
    have e:qf2 d=some (rng 0 109572 d):=by
     unfold qf2
     simp -zeta only[za4]
     try rfl
    unfold qdl
    rw[e,hr]
    try rfl
   simp only[Bool.not_false,cond_true,za36,hk,Bool.true_and]
   obtain ⟨h1,h2⟩:=za51 (zcm.1 hr).1
   generalize d.tmod 7=w at h1 h2
   have:w=0∨w=1∨w=2∨w=3∨w=4∨w=5∨w=6:=by omega
   rcases this with h|h|h|h|h|h|h<;>subst h<;>rfl
theorem zwe {c:Calendar} {d:Int} (hl:c.Closed.length<1000000000):zac zg9 (d,0,c,())=some (bif c.Closed.all (fun x=>!(x==d)) then .inl () else .inr (false,())):=by
 have h:=zav (step:=zg9) (fun i=>(d,(i:Int),c,())) c.Closed (fun _ x=>!(x==d)) (.inr (false,())) (.inl ()) hl
  (by simp only[zg9,dge,cond_false])
  (fun i x hx=>by
   have hi:=(List.getElem?_eq_some_iff.1 hx).1
   simp only[zg9,dlt hi,zag,hx,cond_true,zam (show i<9223372036854775807 by omega)]
   cases x==d<;>rfl)
 rw[show zac zg9 (d,0,c,())=_ from h,za0]
theorem zane {c:Calendar} (hc:CalOk c) (d:Int):qah c d=some (z3d c d):=by
 unfold qah z3d
 simp -zeta only[k_or]
 dsimp only
 rw[←zqt]
 cases hr:rng 0 109572 d with
 |false=>rfl
 |true=>
  have hk:qfi d=some (d.tmod 7):=by
   have e:qge d=some (rng 0 109572 d):=by
    unfold qge
    simp -zeta only[za4]
    try rfl
   unfold qfi
   rw[e,hr]
   try rfl
  simp only[Bool.not_true,cond_false,Bool.true_and,hk]
  obtain ⟨h1,h2⟩:=za51 (zcm.1 hr).1
  generalize d.tmod 7=w at h1 h2
  obtain ⟨n,rfl⟩:∃n:Nat,w=(n:Int):=⟨w.toNat,by omega⟩
  have hn:n<7:=by omega
  have hw:zac zog (d,c.Week,(n:Int),0,c,())=some (d,bitW c.Week n,c,()):=by
   have:=z3r (day:=d) (n:=0) (c:=c) n 0 c.Week (by omega)
   rw[Nat.zero_add]at this
   exact za5 (n+1) (by rw[za6];omega) this
  simp only[hw,Int.toNat_natCast,zad7 hc.w1 hc.w2 hn,zwe hc.len]
  cases (bitW c.Week n).tmod 2==1 with
  |true=>simp
  |false=>
   simp only[cond_false,Bool.not_false,Bool.and_true,zapp,Bool.not_not]
   cases c.Closed.all (fun x=>!(x==d))<;>rfl
theorem zuy {α β:Type} {s1 s2:α→Option (α⊕β)} (Inv:α→Prop) (h:∀a,Inv a→s1 a=s2 a) (hi:∀a b,Inv a→s1 a=some (.inl b)→Inv b) {a:α} (ha:Inv a):zac s1 a=zac s2 a:=by
 have key:∀n a,Inv a→za7 s1 n a=za7 s2 n a:=by
  intro n
  induction n with
  |zero=>intro a _;rfl
  |succ n ih=>
   intro a ha
   simp only[za7]
   rw[←h a ha]
   cases hs:s1 a with
   |none=>rfl
   |some x=>
    cases x with
    |inl b=>exact ih b (hi a b ha hs)
    |inr b=>rfl
 exact key FUEL a ha
theorem zaao {c:Calendar} (hc:CalOk c) (d:Int):qa8 c d=qbq c d:=by
 have h:∀d0:Int,zac zue (d0,c,())=zac zou (d0,c,()):=fun d0=>by
  refine zuy (fun a=>a.2.1=c) ?_ ?_ rfl
  ·rintro ⟨d,c',_⟩ (rfl:c'=c)
   simp only[zue,zou,zan2 hc,zane hc]
  ·rintro ⟨d,c',_⟩ b (rfl:c'=c) hb
   simp only[zue,zan2 hc]at hb
   cases hq:decide (d≤109572) with
   |false=>rw[hq]at hb;cases hb
   |true=>
    rw[hq]at hb
    simp only[cond_true]at hb
    cases ho:z3d c' d with
    |true=>rw[ho]at hb;cases hb
    |false=>rw[ho]at hb;cases hb;rfl
 unfold qa8 qbq
 rw[h]
 try rfl
end Go.Proofs.YtdahfgialanmpaaGreatDoor
namespace Go.Proofs.YtdahfgialanmpaaGreatDoor
open Ev
open Go (IntKind)
end Go.Proofs.YtdahfgialanmpaaGreatDoor
namespace Go.Proofs.YtdahfgialanmpaaGreatDoor
open Ev
open Go (IntKind)
theorem zqj {l:List Loan} {item:Int} (hl:l.length<1000000000):qbs (fun (g:Unit×Int×Unit) x0=>qcl x0 g.2.1) l ((),(item,())) =
 some (match l.find? (fun n=>n.Item==item) with|some x=>(x,fIdx (fun n=>n.Item==item) l)|none=>((⟨0,0,0,0,0,false⟩:Loan),-1)):=by
 unfold qbs
 rw[zaog (p:=fun (g:Unit×Int×Unit) x0=>qcl x0 g.2.1) (g:=((),(item,()))) (fun x=>x.Item==item) hl (fun x _=>rfl)]
 rcases za3 (fun x:Loan=>x.Item==item) l with ⟨h1,h2⟩|⟨i,x,h1,h2,h3,h4⟩
 ·simp only[h1,h2,ziy,cond_true]
 ·simp only[h1,h4,zf2,cond_false,zag,h2]
def zkd (c:Circ) (l:List Loan):Circ:=⟨c.Today,c.Items,c.Patrons,l,c.Holds,c.Charges,c.Rules,c.Cals,c.Moves,c.NextHold,c.NextCharge,c.Local⟩
end Go.Proofs.YtdahfgialanmpaaGreatDoor
namespace Go.Proofs.YtdahfgialanmpaaGreatDoor
open Ev
open Go (IntKind)
structure FitP (c:Circ):Prop where
 charges:za8 c.Charges=0
 loans:zhv c.Loans=0
 holds:zd0 c.Holds=0
 rules:zgo c.Rules=0
 patrons:zfb c.Patrons=0
 cal0:CalOk c.Cals.x0
 cal1:CalOk c.Cals.x1
 cal2:CalOk c.Cals.x2
 cal3:CalOk c.Cals.x3
 items:zku c=true
 loanG:∀n∈c.Loans,zgm c n=true
 itemG:∀x∈c.Items,(zg3 c.Loans x.ID).2=zq0 x.Custody
 holdG:∀h∈c.Holds,zhq c h=true
 readyG:∀x∈c.Items,zgd c x=true
 nums:zqu c=true
theorem fitP {c:Circ} (h:zo0 c=true):FitP c:=by
 unfold zo0 at h
 rw[zsk]at h
 simp only[Bool.and_eq_true]at h
 obtain ⟨h1,h2,h3,h4,h5,h6,h7⟩:=h
 unfold zkw at h2
 simp only[Bool.not_eq_true',Bool.or_eq_false_iff,Bool.not_eq_false',beq_iff_eq]at h2
 unfold zhi at h3
 simp only[Bool.and_eq_true]at h3
 unfold zf8 at h6
 unfold zf6 at h7
 simp only[Bool.and_eq_true,List.all_eq_true,beq_iff_eq]at h6 h7
 exact ⟨h2.1.2,h2.1.1.1.2,h2.1.1.2,h2.2,h2.1.1.1.1,zaet h3.1,zaet h3.2.1,zaet h3.2.2.1,zaet h3.2.2.2,h5,h6.1,h6.2,h7.1,h7.2,h1⟩
theorem zapw {c:Circ} (h:FitP c) (b:Int):CalOk (calS c b):=by
 unfold calS
 cases b==1 with
 |true=>exact h.cal0
 |false=>
  cases b==2 with
  |true=>exact h.cal1
  |false=>
   cases b==3 with
   |true=>exact h.cal2
   |false=>exact h.cal3
theorem zawx {c:Circ} (h:FitP c) {r:Rule} (hr:r∈c.Rules):zo1 r=true:=by
 have h:=h.rules
 unfold zgo at h
 rw[zdp h (by decide)]at h
 obtain ⟨i,hi⟩:=List.getElem?_of_mem hr
 have:=zkk (k:=0) h i r hi
 rw[Nat.zero_add]at this
 unfold zhc at this
 have:=zdp this (by decide)
 simpa using this
def zfh (c:Custody):Prop:=rng 1 4 c.Branch=true
theorem zul {c:Custody} (h:zi5 c=true):zfh c:=by
 unfold zi5 at h
 unfold zfh
 cases hq:(decide (c.State<1)||decide (12<c.State)||decide (c.Branch<1)||decide (4<c.Branch)) with
 |true=>rw[hq]at h;cases h
 |false=>
  simp only[Bool.or_eq_false_iff,decide_eq_false_iff_not]at hq
  rw[zcm];omega
theorem zq8 {m:Move} (h:zm8 m=true):rng 1 4 m.Branch=true:=by
 unfold zm8 at h
 simp only[Bool.and_eq_true,decide_eq_true_eq]at h
 rw[zcm];omega
theorem zhf {c:Custody} {m:Move} (h:((zbl c m).2==0)=true):zfh (zbl c m).1:=by
 unfold zbl at h ⊢
 cases e1:(!(zi5 c)||!(zm8 m)) with
 |true=>rw[e1]at h;cases h
 |false=>
  have e0:=e1
  simp only[Bool.or_eq_false_iff,Bool.not_eq_false']at e0
  have b1:=zul e0.1
  have b2:=zq8 e0.2
  rw[e1]at h
  simp only[cond_false]at h ⊢
  cases e2:!(zjm c.State m.Kind) with
  |true=>rw[e2]at h;cases h
  |false=>
   rw[e2]at h
   simp only[cond_false]at h ⊢
   cases e3:(m.Kind==3&&c.State==5&&!(m.Who==c.Who)) with
   |true=>rw[e3]at h;cases h
   |false=>
    rw[e3]at h
    simp only[cond_false]at h ⊢
    cases e4:!(zaay c m) with
    |true=>rw[e4]at h;cases h
    |false=>
     simp only[cond_false]
     cases (zc0 m.Kind==2) with
     |true=>exact b2
     |false=>
      simp only[cond_false]
      cases (zc0 m.Kind==4||(zc0 m.Kind==5||zc0 m.Kind==8)) with
      |true=>exact b1
      |false=>
       simp only[cond_false]
       cases e5:(zc0 m.Kind==6) with
       |true=>exact b1
       |false=>
        simp only[cond_false]
        cases (zc0 m.Kind==9||zc0 m.Kind==10) with
        |true=>exact b1
        |false=>exact b1
theorem zm9:∀{l:List Move} {i:Nat} {item:Int} {c d:Custody},zfh c→zdg i l item c=.inl d→zfh d:=by
 intro l
 induction l with
 |nil=>intro i item c d hc h;simp only[zdg]at h;cases h;exact hc
 |cons x l ih=>
  intro i item c d hc h
  simp only[zdg]at h
  cases e:x.Item==item with
  |false=>rw[e]at h;exact ih hc h
  |true=>
   rw[e]at h
   simp only[cond_true]at h
   cases e2:(zbl c x).2==0 with
   |true=>rw[e2]at h;exact ih (zhf e2) h
   |false=>rw[e2]at h;cases h
theorem zmb {c:Circ} {x:Item} (h:zc1 c x=true):zfh x.Custody:=by
 unfold zc1 at h
 simp only[Bool.not_eq_true',Bool.or_eq_false_iff,Bool.not_eq_false',beq_iff_eq]at h
 obtain ⟨h1,h2⟩:=h
 have e:=zki.1 h2
 rw[←e]
 unfold zeb at h1 ⊢
 cases hb:(decide (x.Branch<1)||decide (4<x.Branch)) with
 |true=>rw[hb]at h1;cases h1
 |false=>
  rw[hb]at h1
  simp only[cond_false]at h1 ⊢
  have hb2:zfh (zwh x.Branch):=by
   simp only[Bool.or_eq_false_iff,decide_eq_false_iff_not]at hb
   show rng 1 4 x.Branch=true
   rw[zcm];omega
  cases hr:zdg 0 c.Moves x.ID (zwh x.Branch) with
  |inl d=>exact zm9 hb2 hr
  |inr p=>
   rw[hr]at h1
   exfalso
   obtain ⟨i,e⟩:=p
   simp only at h1
   have key:∀(l:List Move) (i:Nat) (c:Custody) (p:Int×Int),zdg i l x.ID c=.inr p→p.2≠0:=by
    intro l
    induction l with
    |nil=>intro i c p h;simp only[zdg]at h;cases h
    |cons y l ih=>
     intro i c p h
     simp only[zdg]at h
     cases e:y.Item==x.ID with
     |false=>rw[e]at h;exact ih _ _ _ h
     |true=>
      rw[e]at h
      simp only[cond_true]at h
      cases e2:(zbl c y).2==0 with
      |true=>rw[e2]at h;exact ih _ _ _ h
      |false=>rw[e2]at h;cases h;simpa using e2
   exact key _ _ _ _ hr h1
theorem z2f {c:Circ} (h:FitP c) {x:Item} (hx:x∈c.Items):rng 1 4 x.Custody.Branch=true:=zmb (zsl h.items hx)
theorem z26 {c:Circ} (h:FitP c) {n:Loan} (hn:n∈c.Loans):∃x p,c.Items.find? (fun x=>x.ID==n.Item)=some x∧x∈c.Items∧x.ID=n.Item∧getP c.Patrons n.Patron=(p,true)∧p.ID=n.Patron∧zq0 x.Custody=true∧x.Custody.Who=n.Patron:=by
 have hg:=h.loanG n hn
 unfold zgm at hg
 cases hf:c.Items.find? (fun x=>x.ID==n.Item) with
 |none=>rw[hf]at hg;cases hg
 |some x=>
  rw[hf]at hg
  simp only[Bool.not_eq_true',Bool.or_eq_false_iff,Bool.not_eq_false',beq_iff_eq]at hg
  obtain ⟨⟨g1,g2⟩,g3⟩:=hg
  unfold getP at g1 ⊢
  cases hp:c.Patrons.find? (fun p=>p.ID==n.Patron) with
  |none=>rw[hp]at g1;cases g1
  |some p=>exact ⟨x,p,rfl,List.mem_of_find?_eq_some hf,by have:=List.find?_some hf;simpa using this,rfl,by have:=List.find?_some hp;simpa using this,g2,g3⟩
theorem z5m {l:List Rule} {p it br:Int}:zfv l (zaeq l p it br):=by
 have key:∀(m:List Rule) (i:Nat) (b:Int),i+m.length=l.length→zfv l b→zfv l (zc2 (σ:=Int) (β:=Int) (fun i x b=>.inl (zrl l p it br i x b)) (fun b=>b) i m b):=by
  intro m
  induction m with
  |nil=>intro i b _ h;exact h
  |cons x m ih=>intro i b hi h;simp only[zc2];simp only[List.length_cons]at hi;exact ih _ _ (by omega) (zjt h (by omega))
 exact key l 0 (-1) (by omega) (.inl (by omega))
theorem zaww {c:Circ} (hs:Short c) {p:Int} {x:Item}:∃r b,qga c p x=some (r,b)∧(b=true→r∈c.Rules):=by
 unfold qga
 rw[zl0 hs.patrons]
 dsimp only
 cases (getP c.Patrons p).2 with
 |false=>exact ⟨_,false,rfl,fun h=>by cases h⟩
 |true=>
  simp only[Bool.not_true,cond_false]
  unfold qgd
  rw[zanx hs.rules]
  dsimp only
  rcases z5m (l:=c.Rules) (p:=(getP c.Patrons p).1.Kind) (it:=x.Kind) (br:=x.Branch) with h|⟨k,hk,hlt⟩
  ·rw[show decide (zaeq c.Rules (getP c.Patrons p).1.Kind x.Kind x.Branch<0)=true by rw[decide_eq_true_eq];exact h]
   exact ⟨_,false,rfl,fun h=>by cases h⟩
  ·rw[hk,show decide ((k:Int)<0)=false by rw[decide_eq_false_iff_not];omega]
   simp only[cond_false,zag,List.getElem?_eq_getElem hlt]
   exact ⟨_,true,rfl,fun _=>List.getElem_mem hlt⟩
end Go.Proofs.YtdahfgialanmpaaGreatDoor
namespace Go.Proofs.YtdahfgialanmpaaGreatDoor
open Ev
open Go (IntKind)
theorem ziu {α β:Type} {step:α→Option (α⊕β)} (Inv:α→Prop) (μ:α→Nat) (h:∀a,Inv a→(∃a',step a=some (.inl a')∧Inv a'∧μ a'<μ a)∨∃b,step a=some (.inr b)) {a:α} (ha:Inv a) (hm:μ a<FUEL):∃r,zac step a=some r:=by
 have key:∀n a,Inv a→μ a<n→∃r,za7 step n a=some r:=by
  intro n
  induction n with
  |zero=>intro a _ h;omega
  |succ n ih=>
   intro a hi hn
   simp only[za7]
   rcases h a hi with ⟨a',h1,h2,h3⟩|⟨b,h1⟩
   ·rw[h1];exact ih a' h2 (by omega)
   ·rw[h1];exact ⟨b,rfl⟩
 exact key FUEL a ha hm
theorem zt8 {c:Calendar} (hc:CalOk c) (d:Int):∃a b,qbq c d=some (a,b):=by
 obtain ⟨r,hr⟩:=ziu (step:=zou) (fun a=>0≤a.1∧a.2.1=c) (fun a=>(109573-a.1).toNat) (by
  rintro ⟨d,c',_⟩ ⟨h0,(rfl:c'=c)⟩
  simp only at h0
  simp only[zou,zane hc]
  by_cases hq:d≤109572
  ·rw[show decide (d≤109572)=true by rw[decide_eq_true_eq];exact hq]
   simp only[cond_true]
   cases z3d c' d with
   |true=>exact .inr ⟨_,rfl⟩
   |false=>
    simp only[cond_false]
    rw[zee (by omega) (by omega)]
    exact .inl ⟨_,rfl,⟨by show 0≤d+1;omega,rfl⟩,by show (109573-(d+1)).toNat<(109573-d).toNat;omega⟩
  ·rw[show decide (d≤109572)=false by rw[decide_eq_false_iff_not];exact hq]
   exact .inr ⟨_,rfl⟩) (a:=((if d<0 then 0 else d),c,())) ⟨by show 0≤if d<0 then 0 else d;split<;>omega,rfl⟩ (by rw[za6];show (109573-if d<0 then 0 else d).toNat<_;split<;>omega)
 unfold qbq
 rw[hr]
 rcases r with _|⟨a,b,_⟩
 ·exact ⟨_,_,rfl⟩
 ·exact ⟨_,_,rfl⟩
theorem zx3 {α β:Type} {b:Bool} {x y:Option (α×β)} (hx:∃u v,x=some (u,v)) (hy:∃u v,y=some (u,v)):∃u v,(bif b then x else y)=some (u,v):=by
 cases b
 ·exact hy
 ·exact hx
end Go.Proofs.YtdahfgialanmpaaGreatDoor
namespace Go.Proofs.YtdahfgialanmpaaGreatDoor
open Ev
open Go (IntKind)
def getH (l:List Hold) (id:Int):Hold×Bool:=match l.find? (fun h=>h.ID==id) with|some h=>(h,true)|none=>(zob,false)
theorem za4p {l:List Hold} {id:Int} (hl:l.length<1000000000):qed l id=some (getH l id):=by
 unfold qed qa2 getH
 rw[zuf (p:=fun (g:Unit×Int×Unit) x0=>qeq x0 g.2.1) (g:=((),(id,()))) (fun x=>x.ID==id) hl (fun x _=>rfl)]
 rcases za3 (fun x:Hold=>x.ID==id) l with ⟨h1,h2⟩|⟨i,x,h1,h2,h3,h4⟩
 ·simp only[h1,h2]
  try rfl
 ·have d:decide ((0:Int)≤(i:Int))=true:=by rw[decide_eq_true_eq];omega
  simp only[h1,h4,d,cond_true,zag,h2]
theorem zaar {l:List Hold} {id:Int} (hl:l.length<1000000000):qay l id=some (getH l id):=by
 unfold qay getH
 have h:=zbf (step:=zom) (fun i=>(l,id,(i:Int),zob,())) l (fun x=>x.ID==id) (fun _ x=>(.inr (true,x,()):(Hold×Unit)⊕(Bool×Hold×Unit))) (.inl (zob,())) hl
  (by simp only[zom,dge,cond_false])
  (fun i x hx=>by
   have hi:=(List.getElem?_eq_some_iff.1 hx).1
   simp only[zom,dlt hi,zag,hx,cond_true,zam (show i<9223372036854775807 by omega)])
 rw[show zac zom (l,id,0,(⟨0,0,0,0,0,0,0,0,0,0,0⟩:Hold),())=_ from h,zgk]
 cases l.find? (fun x=>x.ID==id)<;>rfl
theorem zux {α β γ:Type} {s1:α→Option (α⊕β)} {s2:γ→Option (γ⊕β)} (Inv:α→Prop) (φ:α→γ)
 (h:∀a,Inv a→s2 (φ a)=(match s1 a with|none=>none|some (.inl b)=>some (.inl (φ b))|some (.inr b)=>some (.inr b)))
 (hi:∀a b,Inv a→s1 a=some (.inl b)→Inv b) {a:α} (ha:Inv a):zac s2 (φ a)=zac s1 a:=by
 have key:∀n a,Inv a→za7 s2 n (φ a)=za7 s1 n a:=by
  intro n
  induction n with
  |zero=>intro a _;rfl
  |succ n ih=>
   intro a ha
   simp only[za7]
   rw[h a ha]
   cases hs:s1 a with
   |none=>rfl
   |some x=>
    cases x with
    |inl b=>exact ih b (hi a b ha hs)
    |inr b=>rfl
 exact key FUEL a ha
theorem zaan {c:Calendar} (hc:CalOk c) (day n:Int):qa7 c day n=qbz c day n:=by
 have hw:zac zlz (n,day,0,c,())=zac zof (day,n,0,c,()):=by
  refine zux (s1:=zof) (s2:=zlz) (fun a=>a.2.2.2.1=c) (fun a=>(a.2.1,a.1,a.2.2.1,a.2.2.2.1,())) ?_ ?_ (a:=(day,n,0,c,())) rfl
  ·rintro ⟨d,n,i,c',_⟩ (rfl:c'=c)
   simp only[zof,zlz,zaao hc]
   cases decide (i<n) with
   |false=>rfl
   |true=>
    simp only[cond_true]
    cases qbq c' (wr .i64 (d+1)) with
    |none=>rfl
    |some p=>
     obtain ⟨a,b⟩:=p
     simp only
     cases !(b==0)<;>rfl
  ·rintro ⟨d,n,i,c',_⟩ b (rfl:c'=c) hb
   simp only[zof]at hb
   cases hq:decide (i<n) with
   |false=>rw[hq]at hb;cases hb
   |true=>
    rw[hq]at hb
    simp only[cond_true]at hb
    cases hn:qa8 c' (wr .i64 (d+1)) with
    |none=>rw[hn]at hb;cases hb
    |some p=>
     obtain ⟨a,b2⟩:=p
     rw[hn]at hb
     simp only at hb
     cases he:!(b2==0) with
     |true=>rw[he]at hb;cases hb
     |false=>rw[he]at hb;cases hb;rfl
 unfold qa7 qbz
 simp -zeta only[k_or,zan9,zaao hc]
 dsimp only
 rw[hw,←zqt 0 109572]
 try rfl
end Go.Proofs.YtdahfgialanmpaaGreatDoor
namespace Go.Proofs.YtdahfgialanmpaaGreatDoor
open Ev
open Go (IntKind)
def za3q:Loan:=⟨0,0,0,0,0,false⟩
theorem znu {c:Calendar} (hc:CalOk c) (d n:Int):∃a b,qbz c d n=some (a,b):=by
 unfold qbz
 simp -zeta only[k_or]
 dsimp only
 cases hb:(decide (n<0)||decide (1000<n)) with
 |true=>exact ⟨_,_,rfl⟩
 |false=>
  simp only[Bool.or_eq_false_iff,decide_eq_false_iff_not]at hb
  simp only[cond_false]
  refine zx3 ⟨_,_,rfl⟩ (zx3 ?_ ?_)
  ·obtain ⟨a,b,h⟩:=zt8 hc d
   rw[h]
   exact ⟨_,_,rfl⟩
  ·obtain ⟨r,hr⟩:=ziu (step:=zlz) (fun a=>a.1=n∧0≤a.2.2.1∧a.2.2.2.1=c) (fun a=>(n-a.2.2.1).toNat) (by
    rintro ⟨n',d,i,c',_⟩ ⟨(rfl:n'=n),h0,(rfl:c'=c)⟩
    simp only at h0
    simp only[zlz]
    by_cases hq:i<n'
    ·rw[show decide (i<n')=true by rw[decide_eq_true_eq];exact hq]
     obtain ⟨a,b,h⟩:=zt8 hc (wr .i64 (d+1))
     simp only[cond_true,h]
     cases !(b==0) with
     |true=>exact .inr ⟨_,rfl⟩
     |false=>
      simp only[cond_false]
      rw[zee (n:=i+1) (by omega) (by omega)]
      exact .inl ⟨_,rfl,⟨rfl,by show 0≤i+1;omega,rfl⟩,by show (n'-(i+1)).toNat<(n'-i).toNat;omega⟩
    ·rw[show decide (i<n')=false by rw[decide_eq_false_iff_not];exact hq]
     exact .inr ⟨_,rfl⟩) (a:=(n,d,0,c,())) ⟨rfl,by show (0:Int)≤0;omega,rfl⟩ (by rw[za6];show (n-0).toNat<_;omega)
   rw[hr]
   rcases r with ⟨a,_⟩|⟨a,b,_⟩
   ·exact ⟨_,_,rfl⟩
   ·exact ⟨_,_,rfl⟩
end Go.Proofs.YtdahfgialanmpaaGreatDoor
namespace Go.Proofs.YtdahfgialanmpaaGreatDoor
open Ev
open Go (IntKind)
def insW {X:Type} (lt:X→X→Bool) (y:X):List X→List X→List X
 | [],rest=>y::rest
 |z::zs,rest=>bif lt y z then insW lt y zs (z::rest) else zs.reverse++z::y::rest
theorem z8q {X:Type} {lt:X→X→Bool} {y:X}:∀{r rest more:List X},insW lt y r (rest++more)=insW lt y r rest++more:=by
 intro r
 induction r with
 |nil=>intro rest more;rfl
 |cons z zs ih=>
  intro rest more
  simp only[insW]
  cases lt y z with
  |true=>simp only[cond_true];rw[←List.cons_append,ih]
  |false=>simp
theorem z2n {X:Type} {lt:X→X→Bool} {y:X}:∀{B A rest:List X},(∀b∈B,lt y b=true)→(∀a∈A,lt y a=false)→insW lt y (B++A) rest=A.reverse++y::(B.reverse++rest):=by
 intro B
 induction B with
 |nil=>
  intro A rest _ hA
  cases A with
  |nil=>rfl
  |cons a A=>simp only[List.nil_append,insW,hA a (List.mem_cons_self ..),cond_false,List.reverse_cons,List.append_assoc,List.reverse_nil];rfl
 |cons b B ih=>
  intro A rest hB hA
  simp only[List.cons_append,insW,hB b (List.mem_cons_self ..),cond_true]
  rw[ih (fun b hb=>hB b (List.mem_cons_of_mem _ hb)) hA]
  simp
section
variable {γ:Type} {p:γ→Hold→Hold→Option Int} {g:γ} {lt:Hold→Hold→Bool}
theorem zau9 (hp:∀y z,∃n,p g y z=some n∧decide (n<0)=lt y z) {b i:Int}:∀(r:List Hold) (y:Hold) (rest:List Hold),r.length<1000000→
 za7 (z39 p) (r.length+1) (0,b,g,i,(r.length:Int),r.reverse++y::rest,())=some (0,b,g,i,insW lt y r rest,()):=by
 intro r
 induction r with
 |nil=>
  intro y rest _
  simp only[List.length_nil,za7,insW,z39]
  try rfl
 |cons z zs ih=>
  intro y rest hl
  simp only[List.length_cons]at hl
  obtain ⟨n,h1,h2⟩:=hp y z
  have d:decide ((0:Int)<((zs.length+1:Nat):Int))=true:=by rw[decide_eq_true_eq];omega
  have w:=zgg (j:=zs.length) (by omega)
  have e:(z::zs).reverse++y::rest=zs.reverse++z::y::rest:=by simp
  have gy:(zs.reverse++z::y::rest)[zs.length+1]?=some y:=by rw[List.getElem?_append_right (by simp)];simp
  have gz:(zs.reverse++z::y::rest)[zs.length]?=some z:=by rw[List.getElem?_append_right (by simp)];simp
  have s1:(zs.reverse++z::y::rest).set (zs.length+1) z=zs.reverse++z::z::rest:=by
   rw[List.set_append_right _ _ (by simp)];simp
  have gz2:(zs.reverse++z::z::rest)[zs.length]?=some z:=by rw[List.getElem?_append_right (by simp)];simp
  have s2:(zs.reverse++z::z::rest).set zs.length y=zs.reverse++y::z::rest:=by
   rw[List.set_append_right _ _ (by simp)];simp
  rw[za7,e]
  simp only[List.length_cons,z39,d,cond_true,w,zag,Int.toNat_natCast,gy,gz,h1,h2,s1,gz2,s2,insW]
  cases lt y z with
  |true=>simp only[cond_true];exact ih y (z::rest) (by omega)
  |false=>rfl
def zff (lt:Hold→Hold→Bool) (l:List Hold):List Hold:=l.foldl (fun pre y=>insW lt y pre.reverse []) []
theorem zgp {l:List Hold} {y:Hold}:zff lt (l++[y])=insW lt y (zff lt l).reverse []:=by
 unfold zff
 rw[List.foldl_append];rfl
theorem zv0 {y:Hold}:∀{r rest:List Hold},(insW lt y r rest).length=r.length+1+rest.length:=by
 intro r
 induction r with
 |nil=>intro rest;simp[insW];omega
 |cons z zs ih=>
  intro rest
  simp only[insW]
  cases lt y z with
  |true=>simp only[cond_true];rw[ih];simp;omega
  |false=>simp;omega
theorem zus:∀{l:List Hold},(zff lt l).length=l.length:=by
 have key:∀(l pre:List Hold),(l.foldl (fun pre y=>insW lt y pre.reverse []) pre).length=pre.length+l.length:=by
  intro l
  induction l with
  |nil=>intro pre;rfl
  |cons y l ih=>intro pre;rw[List.foldl_cons,ih,zv0];simp;omega
 intro l
 unfold zff
 rw[key];simp
theorem zajt (hp:∀y z,∃n,p g y z=some n∧decide (n<0)=lt y z) {l:List Hold} (hl:l.length<1000000):∀(k i:Nat),i+k=l.length→
 za7 (z38 p) (k+1) (0,(l.length:Int),g,(i:Int),zff lt (l.take i)++l.drop i,())=some (zff lt l,()):=by
 intro k
 induction k with
 |zero=>
  intro i hi
  have:i=l.length:=by omega
  subst this
  have d:decide ((l.length:Int)<(l.length:Int))=false:=by rw[decide_eq_false_iff_not];omega
  simp only[za7,z38,d,cond_false,List.take_length,List.drop_length,List.append_nil]
 |succ k ih=>
  intro i hi
  have hlt:i<l.length:=by omega
  have d:decide ((i:Int)<(l.length:Int))=true:=by rw[decide_eq_true_eq];omega
  have hlen:(zff lt (l.take i)).length=i:=by rw[zus,List.length_take];omega
  have hr:=zau9 (p:=p) (g:=g) (lt:=lt) hp (b:=(l.length:Int)) (i:=(i:Int)) (zff lt (l.take i)).reverse l[i] (l.drop (i+1)) (by rw[List.length_reverse,hlen];omega)
  rw[List.length_reverse,List.reverse_reverse,hlen,←List.drop_eq_getElem_cons hlt]at hr
  have hw:zac (z39 p) (0,(l.length:Int),g,(i:Int),(i:Int),zff lt (l.take i)++l.drop i,())=_:=za5 (i+1) (by rw[za6];omega) hr
  rw[za7]
  simp only[z38,d,cond_true,hw,zam (show i<9223372036854775807 by omega)]
  have e:insW lt l[i] (zff lt (l.take i)).reverse (l.drop (i+1))=zff lt (l.take (i+1))++l.drop (i+1):=by
   have:=z8q (lt:=lt) (y:=l[i]) (r:=(zff lt (l.take i)).reverse) (rest:=[]) (more:=l.drop (i+1))
   rw[List.nil_append]at this
   rw[this,List.take_succ_eq_append_getElem hlt,zgp]
  rw[e]
  exact ih (i+1) (by omega)
theorem za0j (hp:∀y z,∃n,p g y z=some n∧decide (n<0)=lt y z) {l:List Hold} (hl:l.length<20):qee p l g=some (zff lt l):=by
 have h1:zac (zajb p) ((l.length:Int),g,20,0,20,l,())=some ((l.length:Int),g,20,0,l,()):=by
  refine za5 1 (by rw[za6];omega) ?_
  have d:decide ((20:Int)≤(l.length:Int))=false:=by rw[decide_eq_false_iff_not];omega
  simp only[za7,zajb,d,cond_false]
 have h2:∀m:List Hold,zac (zajc p) ((l.length:Int),g,20,m,())=some (m,()):=fun m=>by
  refine za5 1 (by rw[za6];omega) ?_
  have d:decide ((20:Int)<(l.length:Int))=false:=by rw[decide_eq_false_iff_not];omega
  simp only[za7,zajc,d,cond_false]
 have h3:qs p l 0 (l.length:Int) g=some (zff lt l):=by
  unfold qs
  have hw:zac (z38 p) (0,(l.length:Int),g,wr .i64 (0+1),l,())=some (zff lt l,()):=by
   cases l with
   |nil=>
    refine za5 1 (by rw[za6];omega) ?_
    try rfl
   |cons y m=>
    have:=zajt (p:=p) (g:=g) (lt:=lt) hp (l:=y::m) (by omega) m.length 1 (by simp only[List.length_cons];omega)
    exact za5 (m.length+1) (by rw[za6];simp only[List.length_cons]at hl;omega) this
  rw[hw]
 unfold qee qo
 rw[h1]
 simp only[h3,h2]
end
end Go.Proofs.YtdahfgialanmpaaGreatDoor
namespace Go.Proofs.YtdahfgialanmpaaGreatDoor
open Ev
open Go (IntKind)
def rk (k:Int) (l:List Hold):List Hold:=l.filter (fun x=>x.Rank==k)
def ltR (y z:Hold):Bool:=decide (z.Rank<y.Rank)
def zbc (l:List Hold):List Hold:=rk 9 l++(rk 8 l++(rk 7 l++(rk 6 l++(rk 5 l++(rk 4 l++(rk 3 l++(rk 2 l++(rk 1 l++rk 0 l))))))))
theorem za5j {k:Int} {l:List Hold} {x:Hold} (h:x∈rk k l):x.Rank=k:=by
 unfold rk at h
 rw[List.mem_filter]at h
 simpa using h.2
theorem zex (k:Int) (l:List Hold) (y:Hold):rk k (l++[y])=rk k l++(bif y.Rank==k then [y] else []):=by
 unfold rk
 rw[List.filter_append,List.filter_cons]
 cases y.Rank==k<;>simp
theorem zau8 {A B:List Hold} {y:Hold} (hA:∀a∈A,y.Rank≤a.Rank) (hB:∀b∈B,b.Rank<y.Rank):insW ltR y (A++B).reverse []=A++y::B:=by
 rw[List.reverse_append,z2n (by intro b hb;rw[List.mem_reverse]at hb;unfold ltR;rw[decide_eq_true_eq];exact hB b hb) (by intro a ha;rw[List.mem_reverse]at ha;unfold ltR;rw[decide_eq_false_iff_not];have:=hA a ha;omega)]
 simp
theorem zxf:∀(m:List Hold) (l:List Hold),l=m.reverse→(∀x∈l,rng 0 9 x.Rank=true)→zff ltR l=zbc l:=by
 intro m
 induction m with
 |nil=>intro l h _;subst h;rfl
 |cons y m ih=>
  intro l h hr
  rw[List.reverse_cons]at h
  subst h
  have hy:=zcm.1 (hr y (by simp))
  rw[zgp,ih m.reverse rfl (fun x hx=>hr x (by simp at hx ⊢;exact .inl hx))]
  generalize m.reverse=l
  have hc:y.Rank=0∨y.Rank=1∨y.Rank=2∨y.Rank=3∨y.Rank=4∨y.Rank=5∨y.Rank=6∨y.Rank=7∨y.Rank=8∨y.Rank=9:=by omega
  have mid:∀(A B:List Hold),zbc l=A++B→(∀a∈A,y.Rank≤a.Rank)→(∀b∈B,b.Rank<y.Rank)→insW ltR y (zbc l).reverse []=A++y::B:=fun A B e hA hB=>by rw[e];exact zau8 hA hB
  have mm:∀(k:Int) (x:Hold),x∈rk k l→x.Rank=k:=fun k x h=>za5j h
  rcases hc with h|h|h|h|h|h|h|h|h|h
  ·rw[mid (rk 9 l++(rk 8 l++(rk 7 l++(rk 6 l++(rk 5 l++(rk 4 l++(rk 3 l++(rk 2 l++(rk 1 l++rk 0 l))))))))) [] (by simp[zbc]) (by intro a ha;simp only[List.mem_append]at ha;rcases ha with h|h|h|h|h|h|h|h|h|h<;>(have:=mm _ _ h;omega)) (by intro b hb;cases hb)]
   simp[zbc,zex,h]
  ·rw[mid (rk 9 l++(rk 8 l++(rk 7 l++(rk 6 l++(rk 5 l++(rk 4 l++(rk 3 l++(rk 2 l++rk 1 l)))))))) (rk 0 l) (by simp[zbc]) (by intro a ha;simp only[List.mem_append]at ha;rcases ha with h|h|h|h|h|h|h|h|h<;>(have:=mm _ _ h;omega)) (by intro b hb;have:=mm _ _ hb;omega)]
   simp[zbc,zex,h]
  ·rw[mid (rk 9 l++(rk 8 l++(rk 7 l++(rk 6 l++(rk 5 l++(rk 4 l++(rk 3 l++rk 2 l))))))) (rk 1 l++rk 0 l) (by simp[zbc]) (by intro a ha;simp only[List.mem_append]at ha;rcases ha with h|h|h|h|h|h|h|h<;>(have:=mm _ _ h;omega)) (by intro b hb;simp only[List.mem_append]at hb;rcases hb with h|h<;>(have:=mm _ _ h;omega))]
   simp[zbc,zex,h]
  ·rw[mid (rk 9 l++(rk 8 l++(rk 7 l++(rk 6 l++(rk 5 l++(rk 4 l++rk 3 l)))))) (rk 2 l++(rk 1 l++rk 0 l)) (by simp[zbc]) (by intro a ha;simp only[List.mem_append]at ha;rcases ha with h|h|h|h|h|h|h<;>(have:=mm _ _ h;omega)) (by intro b hb;simp only[List.mem_append]at hb;rcases hb with h|h|h<;>(have:=mm _ _ h;omega))]
   simp[zbc,zex,h]
  ·rw[mid (rk 9 l++(rk 8 l++(rk 7 l++(rk 6 l++(rk 5 l++rk 4 l))))) (rk 3 l++(rk 2 l++(rk 1 l++rk 0 l))) (by simp[zbc]) (by intro a ha;simp only[List.mem_append]at ha;rcases ha with h|h|h|h|h|h<;>(have:=mm _ _ h;omega)) (by intro b hb;simp only[List.mem_append]at hb;rcases hb with h|h|h|h<;>(have:=mm _ _ h;omega))]
   simp[zbc,zex,h]
  ·rw[mid (rk 9 l++(rk 8 l++(rk 7 l++(rk 6 l++rk 5 l)))) (rk 4 l++(rk 3 l++(rk 2 l++(rk 1 l++rk 0 l)))) (by simp[zbc]) (by intro a ha;simp only[List.mem_append]at ha;rcases ha with h|h|h|h|h<;>(have:=mm _ _ h;omega)) (by intro b hb;simp only[List.mem_append]at hb;rcases hb with h|h|h|h|h<;>(have:=mm _ _ h;omega))]
   simp[zbc,zex,h]
  ·rw[mid (rk 9 l++(rk 8 l++(rk 7 l++rk 6 l))) (rk 5 l++(rk 4 l++(rk 3 l++(rk 2 l++(rk 1 l++rk 0 l))))) (by simp[zbc]) (by intro a ha;simp only[List.mem_append]at ha;rcases ha with h|h|h|h<;>(have:=mm _ _ h;omega)) (by intro b hb;simp only[List.mem_append]at hb;rcases hb with h|h|h|h|h|h<;>(have:=mm _ _ h;omega))]
   simp[zbc,zex,h]
  ·rw[mid (rk 9 l++(rk 8 l++rk 7 l)) (rk 6 l++(rk 5 l++(rk 4 l++(rk 3 l++(rk 2 l++(rk 1 l++rk 0 l)))))) (by simp[zbc]) (by intro a ha;simp only[List.mem_append]at ha;rcases ha with h|h|h<;>(have:=mm _ _ h;omega)) (by intro b hb;simp only[List.mem_append]at hb;rcases hb with h|h|h|h|h|h|h<;>(have:=mm _ _ h;omega))]
   simp[zbc,zex,h]
  ·rw[mid (rk 9 l++rk 8 l) (rk 7 l++(rk 6 l++(rk 5 l++(rk 4 l++(rk 3 l++(rk 2 l++(rk 1 l++rk 0 l))))))) (by simp[zbc]) (by intro a ha;simp only[List.mem_append]at ha;rcases ha with h|h<;>(have:=mm _ _ h;omega)) (by intro b hb;simp only[List.mem_append]at hb;rcases hb with h|h|h|h|h|h|h|h<;>(have:=mm _ _ h;omega))]
   simp[zbc,zex,h]
  ·rw[mid (rk 9 l) (rk 8 l++(rk 7 l++(rk 6 l++(rk 5 l++(rk 4 l++(rk 3 l++(rk 2 l++(rk 1 l++rk 0 l)))))))) (by simp[zbc]) (by intro a ha;have:=mm _ _ ha;omega) (by intro b hb;simp only[List.mem_append]at hb;rcases hb with h|h|h|h|h|h|h|h|h<;>(have:=mm _ _ h;omega))]
   simp[zbc,zex,h]
def zcc (record day:Int) (x:Hold):Bool:=x.Record==record&&x.State==1&&decide (x.Asleep≤day)
theorem zad6 (record day:Int) (x:Hold):(x.State==1&&x.Record==record&&decide (x.Asleep≤day))=zcc record day x:=by
 unfold zcc
 cases x.Record==record<;>cases x.State==1<;>rfl
theorem zaa2 (y z:Hold) (hy:rng 0 9 y.Rank=true) (hz:rng 0 9 z.Rank=true):decide (wr .i64 (z.Rank-y.Rank)<0)=ltR y z:=by
 have h1:=zcm.1 hy
 have h2:=zcm.1 hz
 rw[zee (by omega) (by omega)]
 unfold ltR
 rw[decide_eq_decide];omega
theorem zag1 {lt:Hold→Hold→Bool} {y x:Hold}:∀{r rest:List Hold},x∈insW lt y r rest→x=y∨x∈r∨x∈rest:=by
 intro r
 induction r with
 |nil=>intro rest h;simp only[insW,List.mem_cons]at h;rcases h with h|h<;>simp[h]
 |cons z zs ih=>
  intro rest h
  simp only[insW]at h
  cases hb:lt y z with
  |true=>
   rw[hb]at h
   rcases ih h with h|h|h
   ·exact .inl h
   ·exact .inr (.inl (List.mem_cons_of_mem _ h))
   ·rcases List.mem_cons.1 h with h|h
    ·subst h;exact .inr (.inl (List.mem_cons_self ..))
    ·exact .inr (.inr h)
  |false=>
   rw[hb]at h
   simp only[cond_false,List.mem_append,List.mem_reverse,List.mem_cons]at h
   rcases h with h|h|h|h
   ·exact .inr (.inl (List.mem_cons_of_mem _ h))
   ·subst h;exact .inr (.inl (List.mem_cons_self ..))
   ·exact .inl h
   ·exact .inr (.inr h)
theorem z2m {lt lt':Hold→Hold→Bool} {y:Hold}:∀{r rest:List Hold},(∀z∈r,lt y z=lt' y z)→insW lt y r rest=insW lt' y r rest:=by
 intro r
 induction r with
 |nil=>intros;rfl
 |cons z zs ih=>
  intro rest h
  simp only[insW]
  rw[h z (List.mem_cons_self ..),ih (fun z hz=>h z (List.mem_cons_of_mem _ hz))]
theorem zadz {lt lt':Hold→Hold→Bool}:∀(m l:List Hold),l=m.reverse→(∀x∈l,∀y∈l,lt x y=lt' x y)→zff lt l=zff lt' l∧∀x∈zff lt' l,x∈l:=by
 intro m
 induction m with
 |nil=>intro l h _;subst h;exact ⟨rfl,fun x hx=>by cases hx⟩
 |cons y m ih=>
  intro l h hc
  rw[List.reverse_cons]at h
  subst h
  obtain ⟨e1,e2⟩:=ih m.reverse rfl (fun a ha b hb=>hc a (by simp at ha ⊢;exact .inl ha) b (by simp at hb ⊢;exact .inl hb))
  rw[zgp,zgp,e1]
  refine ⟨z2m (fun z hz=>hc y (by simp) z ?_),fun x hx=>?_⟩
  ·rw[List.mem_reverse]at hz
   have:=e2 z hz
   simp at this ⊢;exact .inl this
  ·rcases zag1 hx with h|h|h
   ·subst h;simp
   ·rw[List.mem_reverse]at h
    have:=e2 x h
    simp at this ⊢;exact .inl this
   ·cases h
theorem z4a {l:List Hold} (hl:l.length<20) (hr:∀x∈l,rng 0 9 x.Rank=true):qee (fun (g:Unit×Unit) x0 x1=>qcb x0 x1) l ((),())=some (zbc l):=by
 rw[za0j (lt:=fun y z=>decide (wr .i64 (z.Rank-y.Rank)<0)) (fun y z=>⟨_,rfl,rfl⟩) hl]
 congr 1
 rw[(zadz l.reverse l (by simp) (fun x hx y hy=>zaa2 x y (hr x hx) (hr y hy))).1]
 exact zxf l.reverse l (by simp) hr
end Go.Proofs.YtdahfgialanmpaaGreatDoor
namespace Go.Proofs.YtdahfgialanmpaaGreatDoor
open Ev
open Go (IntKind)
theorem zkn {X:Type} (p:X→Bool):∀(l o:List X),l.foldl (fun s y=>bif p y then s++[y] else s) o=o++l.filter p:=by
 intro l
 induction l with
 |nil=>intro o;simp
 |cons x l ih=>intro o;rw[List.foldl_cons,ih,List.filter_cons];cases p x<;>simp
theorem ziz {X Y:Type} (p:X→Bool) (f:X→Y):∀(l:List X) (o:List Y),l.foldl (fun s y=>bif p y then s++[f y] else s) o=o++(l.filter p).map f:=by
 intro l
 induction l with
 |nil=>intro o;simp
 |cons x l ih=>intro o;rw[List.foldl_cons,ih,List.filter_cons];cases p x<;>simp
theorem za6g {l:List Hold} {record day:Int} (hl:l.length<1000000) (h20:(l.filter (zcc record day)).length<20) (hr:∀x∈l,rng 0 9 x.Rank=true):qi l record day=some (zbc (l.filter (zcc record day))):=by
 have h:=zb4 (step:=z33) (fun (i:Nat) (s:List Hold)=>s.length≤i) (fun i s=>(record,day,l,(l.length:Int),(i:Int),s,())) l
  (fun i y s=>.inl (bif zcc record day y then s++[y] else s)) (fun s=>(s,())) (by rw[za6];omega)
  (fun s _=>by simp only[z33,dge,cond_false])
  (fun i y s hx hi=>by
   have hlt:=(List.getElem?_eq_some_iff.1 hx).1
   have l1:decide (s.length+([y]:List Hold).length≤LIM)=true:=ze8 (by simp;omega)
   refine ⟨?_,fun s' hs'=>?_⟩
   ·simp -zeta only[z33,dlt hlt,zag,hx,cond_true,l1,za4,zam (show i<9223372036854775807 by omega)]
    unfold zcc
    dsimp only
    cases (y.Record==record&&y.State==1&&decide (y.Asleep≤day))<;>rfl
   ·cases hs'
    cases zcc record day y<;>simp<;>omega) [] (by simp)
 rw[zfe]at h
 unfold qi
 rw[show zac z33 (record,day,l,(l.length:Int),0,[],())=_ from h,zkn,List.nil_append]
 simp only
 rw[z4a h20 (fun x hx=>hr x (List.mem_filter.1 hx).1)]
theorem z3p {l:List Hold} {record day rank:Int} (hl:l.length<1000000) (s:List Int) (hs:s.length<100000000):zac zlp (l,record,day,rank,0,s,())=some (l,record,day,rank,s++(rk rank (l.filter (zcc record day))).map (fun x=>x.ID),()):=by
 have h:=zb4 (step:=zlp) (fun (i:Nat) (o:List Int)=>o.length≤s.length+i) (fun i o=>(l,record,day,rank,(i:Int),o,())) l
  (fun i y o=>.inl (bif zcc record day y&&y.Rank==rank then o++[y.ID] else o)) (fun o=>(l,record,day,rank,o,())) (by rw[za6];omega)
  (fun o _=>by simp only[zlp,dge,cond_false])
  (fun i y o hx hi=>by
   have hlt:=(List.getElem?_eq_some_iff.1 hx).1
   have l1:decide (o.length+([y.ID]:List Int).length≤LIM)=true:=ze8 (by simp;omega)
   refine ⟨?_,fun s' hs'=>?_⟩
   ·simp -zeta only[zlp,dlt hlt,zag,hx,cond_true,l1,za4,zam (show i<9223372036854775807 by omega)]
    dsimp only
    rw[zad6]
    cases (zcc record day y&&y.Rank==rank)<;>rfl
   ·cases hs'
    cases (zcc record day y&&y.Rank==rank)<;>simp<;>omega) s (by omega)
 rw[zfe]at h
 rw[show zac zlp (l,record,day,rank,0,s,())=_ from h]
 have e:(fun (s:List Int) (x:Hold)=>bif zcc record day x&&x.Rank==rank then s++[x.ID] else s)=(fun s x=>bif (fun y=>zcc record day y&&y.Rank==rank) x then s++[(fun z:Hold=>z.ID) x] else s):=rfl
 rw[e,ziz]
 unfold rk
 rw[List.filter_filter]
 have e2:(fun y:Hold=>zcc record day y&&y.Rank==rank)=(fun a=>a.Rank==rank&&zcc record day a):=by funext y;rw[Bool.and_comm]
 rw[e2]
def dn (q:List Hold):Nat→List Hold
 |0=>[]
 |k+1=>rk (k:Int) q++dn q k
theorem z5q (q:List Hold):zbc q=dn q 10:=by
 simp[zbc,dn]
theorem zum {k:Int} {q:List Hold}:(rk k q).length≤q.length:=List.length_filter_le _ _
theorem zawo {l:List Hold} {record day:Int} (hl:l.length<1000000):∀(k:Nat) (s:List Int),k≤10→s.length+k*1000000<100000000→
 za7 zug (k+1) (l,record,day,(k:Int)-1,s,())=some (s++(dn (l.filter (zcc record day)) k).map (fun x=>x.ID),()):=by
 intro k
 induction k with
 |zero=>
  intro s _ _
  simp only[za7,dn,List.map_nil,List.append_nil]
  try rfl
 |succ k ih=>
  intro s hk hs
  have e:((k+1:Nat):Int)-1=(k:Int):=by omega
  have hlen:(rk (k:Int) (l.filter (zcc record day))).length≤l.length:=Nat.le_trans zum (List.length_filter_le _ _)
  rw[za7]
  have d2:decide ((0:Int)≤(k:Int))=true:=by rw[decide_eq_true_eq];omega
  simp only[zug,d2,cond_true,e,z3p hl s (by omega)]
  rw[zee (n:=(k:Int)-1) (by omega) (by omega),ih _ (by omega) (by rw[List.length_append,List.length_map];omega)]
  simp only[dn,List.map_append,List.append_assoc]
theorem za3u {l:List Hold} {record day:Int} (hl:l.length<1000000):qab l record day=some ((zbc (l.filter (zcc record day))).map (fun x=>x.ID)):=by
 have h:=zawo (record:=record) (day:=day) hl 10 [] (by omega) (by simp)
 unfold qab
 rw[show zac zug (l,record,day,9,([]:List Int),())=_ from za5 11 (by rw[za6];omega) h,List.nil_append,z5q]
theorem zgi {q:List Hold} {x:Hold} (h:x∈zbc q):x∈q:=by
 have k:∀(k:Int),x∈rk k q→x∈q:=fun k h=>(List.mem_filter.1 h).1
 unfold zbc at h
 simp only[List.mem_append]at h
 rcases h with h|h|h|h|h|h|h|h|h|h<;>exact k _ h
def z3f (branch:Int) (vlocal:Bool) (x:Item) (h:Hold) (first:Int):Int⊕Int:=
 bif !(h.Item==0)&&!(h.Item==x.ID) then .inl first
 else bif !vlocal||h.Pickup==branch then .inr h.ID
 else .inl (bif first==0 then h.ID else first)
def zuc (branch:Int) (vlocal:Bool) (x:Item) (h:Hold) (first:Int):Int⊕Int:=
 bif !(h.Item==0)&&!(h.Item==x.ID) then .inl first
 else bif vlocal&&h.Pickup==branch then .inr h.ID
 else .inl (bif first==0 then h.ID else first)
def z3g (branch:Int) (vlocal:Bool) (x:Item):List Hold→Int→Int
 | [],first=>first
 |h::q,first=>match z3f branch vlocal x h first with | .inl f=>z3g branch vlocal x q f | .inr r=>r
def zg7 (branch:Int) (vlocal:Bool) (x:Item):List Hold→Int→Int
 | [],first=>first
 |h::q,first=>match zuc branch vlocal x h first with | .inl f=>zg7 branch vlocal x q f | .inr r=>r
theorem z3h {branch:Int} {x:Item}:∀{q:List Hold} {f:Int},f≠0→zg7 branch false x q f=f:=by
 intro q
 induction q with
 |nil=>intros;rfl
 |cons h q ih=>
  intro f hf
  have h0:(f==0)=false:=by simpa using hf
  simp only[zg7,zuc,Bool.false_and,cond_false,h0]
  cases (!(h.Item==0)&&!(h.Item==x.ID))<;>exact ih hf
theorem zaak {branch:Int} {vlocal:Bool} {x:Item}:∀{q:List Hold} {f:Int},(∀h∈q,h.ID≠0)→(vlocal=false→f=0)→z3g branch vlocal x q f=zg7 branch vlocal x q f:=by
 intro q
 induction q with
 |nil=>intros;rfl
 |cons h q ih=>
  intro f hq hf
  simp only[z3g,zg7,z3f,zuc]
  cases (!(h.Item==0)&&!(h.Item==x.ID)) with
  |true=>exact ih (fun y hy=>hq y (List.mem_cons_of_mem _ hy)) hf
  |false=>
   cases vlocal with
   |true=>
    cases h.Pickup==branch with
    |true=>rfl
    |false=>exact ih (fun y hy=>hq y (List.mem_cons_of_mem _ hy)) (fun e=>by cases e)
   |false=>
    have:=hf rfl
    subst this
    exact (z3h (hq h (List.mem_cons_self ..))).symm
end Go.Proofs.YtdahfgialanmpaaGreatDoor
namespace Go.Proofs.YtdahfgialanmpaaGreatDoor
open Ev
open Go (IntKind)
theorem zhn {l:List Hold} (hsort:∀i x,l[i]?=some x→zbp l i (fun y=>decide (x.ID≤y.ID))=false) {h:Hold} (hm:h∈l):getH l h.ID=(h,true):=by
 unfold getH
 rw[zxg (key:=fun y:Hold=>y.ID) hsort hm]
theorem z3i {β:Type} {branch:Int} {vlocal:Bool} {x:Item} (fin:Int→β) (out:Int→β) (hfo:∀v:Int,True):∀(q:List Hold) (i:Nat) (f:Int),∃r:Int⊕Int,(match r with | .inl v=>v | .inr v=>v)=z3g branch vlocal x q f∧
 zc2 (fun (_:Nat) h f=>match z3f branch vlocal x h f with | .inl f=>.inl f | .inr v=>.inr (out v)) fin i q f=(match r with | .inl v=>fin v | .inr v=>out v):=by
 intro q
 induction q with
 |nil=>intro i f;exact ⟨.inl f,rfl,rfl⟩
 |cons h q ih=>
  intro i f
  simp only[zc2,z3g]
  cases z3f branch vlocal x h f with
  |inl f'=>exact ih (i+1) f'
  |inr v=>exact ⟨.inr v,rfl,rfl⟩
theorem z3j {β:Type} {branch:Int} {vlocal:Bool} {x:Item} (fin:Int→β) (out:Int→β) (hfo:∀v:Int,True):∀(q:List Hold) (i:Nat) (f:Int),∃r:Int⊕Int,(match r with | .inl v=>v | .inr v=>v)=zg7 branch vlocal x q f∧
 zc2 (fun (_:Nat) h f=>match zuc branch vlocal x h f with | .inl f=>.inl f | .inr v=>.inr (out v)) fin i q f=(match r with | .inl v=>fin v | .inr v=>out v):=by
 intro q
 induction q with
 |nil=>intro i f;exact ⟨.inl f,rfl,rfl⟩
 |cons h q ih=>
  intro i f
  simp only[zc2,zg7]
  cases zuc branch vlocal x h f with
  |inl f'=>exact ih (i+1) f'
  |inr v=>exact ⟨.inr v,rfl,rfl⟩
theorem zhh {q:List Hold}:(zbc q).length≤10*q.length:=by
 have k:∀n:Int,(rk n q).length≤q.length:=fun n=>zum
 unfold zbc
 simp only[List.length_append]
 have:=k 0;have:=k 1;have:=k 2;have:=k 3;have:=k 4;have:=k 5;have:=k 6;have:=k 7;have:=k 8;have:=k 9
 omega
theorem za4c {l:List Hold} {x:Item} {branch day:Int} {vlocal:Bool} (hl:l.length<1000000) (h20:(l.filter (zcc x.Record day)).length<20) (hr:∀x∈l,rng 0 9 x.Rank=true) :
 qbk l x branch day vlocal=some (z3g branch vlocal x (zbc (l.filter (zcc x.Record day))) 0):=by
 unfold qbk
 rw[za6g hl h20 hr]
 have hq:(zbc (l.filter (zcc x.Record day))).length<1000:=by have:=zhh (q:=l.filter (zcc x.Record day));omega
 generalize zbc (l.filter (zcc x.Record day))=q at hq ⊢
 have h:=zcv (step:=zos) (fun i f=>(branch,vlocal,f,q,(q.length:Int),(i:Int),x,())) q
  (fun _ h f=>match z3f branch vlocal x h f with | .inl f=>.inl f | .inr v=>.inr (.inr (v,()))) (fun f=>.inl (f,())) (by rw[za6];omega)
  (fun f=>by simp only[zos,dge,cond_false])
  (fun i y f hx=>by
   have hlt:=(List.getElem?_eq_some_iff.1 hx).1
   simp -zeta only[zos,dlt hlt,zag,hx,cond_true,k_or,za4,zam (show i<9223372036854775807 by omega)]
   unfold z3f
   dsimp only
   cases (!(y.Item==0)&&!(y.Item==x.ID)) with
   |true=>rfl
   |false=>
    cases (!vlocal||y.Pickup==branch) with
    |true=>rfl
    |false=>cases f==0<;>rfl) 0
 obtain ⟨r,r1,r2⟩:=z3i (branch:=branch) (vlocal:=vlocal) (x:=x) (fun f=>(.inl (f,()):(Int×Unit)⊕(Int×Unit))) (fun v=>.inr (v,())) (fun _=>trivial) q 0 0
 rw[r2]at h
 simp only
 rw[show zac zos (branch,vlocal,0,q,(q.length:Int),0,x,())=_ from h,←r1]
 cases r<;>rfl
theorem za37 {l:List Hold} {x:Item} {branch day:Int} {vlocal:Bool} (hl:l.length<1000000) (hsort:∀i x,l[i]?=some x→zbp l i (fun y=>decide (x.ID≤y.ID))=false) :
 qb1 l x branch day vlocal=some (zg7 branch vlocal x (zbc (l.filter (zcc x.Record day))) 0):=by
 unfold qb1
 rw[za3u hl]
 have hq:(zbc (l.filter (zcc x.Record day))).length<100000000:=by
  have:=zhh (q:=l.filter (zcc x.Record day))
  have:=List.length_filter_le (zcc x.Record day) l
  omega
 have hm:∀h∈zbc (l.filter (zcc x.Record day)),h∈l:=fun h hh=>(List.mem_filter.1 (zgi hh)).1
 generalize zbc (l.filter (zcc x.Record day))=q at hq hm ⊢
 have h:=zcv (step:=zon) (fun i f=>(l,branch,vlocal,q.map (fun x=>x.ID),f,(i:Int),x,())) q
  (fun _ h f=>match zuc branch vlocal x h f with | .inl f=>.inl f | .inr v=>.inr (.inr (v,()))) (fun f=>.inl (f,())) (by rw[za6];omega)
  (fun f=>by
   have d:decide ((q.length:Int)<((q.map (fun x=>x.ID)).length:Int))=false:=by rw[decide_eq_false_iff_not,List.length_map];omega
   simp only[zon,d,cond_false])
  (fun i y f hx=>by
   have hlt:=(List.getElem?_eq_some_iff.1 hx).1
   have d:decide ((i:Int)<((q.map (fun x=>x.ID)).length:Int))=true:=by rw[decide_eq_true_eq,List.length_map];omega
   have gx:(q.map (fun x=>x.ID))[i]?=some y.ID:=by rw[List.getElem?_map,hx];rfl
   simp -zeta only[zon,d,zag,gx,cond_true,k_or,za4,zaar (show l.length<1000000000 by omega),zhn hsort (hm y (List.mem_of_getElem? hx)),zam (show i<9223372036854775807 by omega)]
   unfold zuc
   dsimp only
   cases (!(y.Item==0)&&!(y.Item==x.ID)) with
   |true=>rfl
   |false=>
    cases (vlocal&&y.Pickup==branch) with
    |true=>rfl
    |false=>cases f==0<;>rfl) 0
 obtain ⟨r,r1,r2⟩:=z3j (branch:=branch) (vlocal:=vlocal) (x:=x) (fun f=>(.inl (f,()):(Int×Unit)⊕(Int×Unit))) (fun v=>.inr (v,())) (fun _=>trivial) q 0 0
 rw[r2]at h
 simp only
 rw[show zac zon (l,branch,vlocal,q.map (fun x=>x.ID),0,0,x,())=_ from h,←r1]
 cases r<;>rfl
theorem z2i {c:Circ} (h:FitP c) {o:Hold} (ho:o∈c.Holds):rng 0 9 o.Rank=true∧o.ID≠0:=by
 have:=z2j h.holds ho
 unfold zb0 at this
 have:=zdp this (by decide)
 simp only[Bool.or_eq_false_iff,decide_eq_false_iff_not]at this
 obtain ⟨⟨hx,h1⟩,h2⟩:=this
 refine ⟨by rw[zcm];omega,?_⟩
 have:=hx.1.1.1.1.1.1.1.1.1.1
 omega
end Go.Proofs.YtdahfgialanmpaaGreatDoor
namespace Go.Proofs.YtdahfgialanmpaaGreatDoor
open Ev
open Go (IntKind)
end Go.Proofs.YtdahfgialanmpaaGreatDoor
namespace Go.Proofs.YtdahfgialanmpaaGreatDoor
open Ev
open Go (IntKind)
def zcp (c:Circ) (l:List Hold):Circ:=⟨c.Today,c.Items,c.Patrons,c.Loans,l,c.Charges,c.Rules,c.Cals,c.Moves,c.NextHold,c.NextCharge,c.Local⟩
theorem zpx (c:Circ) (l:List Hold):qcn l 0 ⟨c,0⟩=some ((),⟨zcp c l,0⟩):=rfl
theorem zeu (c:Circ) (l:List Hold) (e:Int) (he:e≠0):qcn l e ⟨c,0⟩=some ((),⟨zcp c c.Holds,e⟩):=by
 have h:(e==0)=false:=by simpa using he
 unfold qcn qp
 simp only[h,Bool.not_false,cond_true,beq_self_eq_true,cond_false]
 try rfl
end Go.Proofs.YtdahfgialanmpaaGreatDoor
namespace Go.Proofs.YtdahfgialanmpaaGreatDoor
open Ev
open Go (IntKind)
def znc {X:Type} (i:Int) (upd:X→X):Nat→List X→List X
 |_,[]=>[]
 |k,x::l=>(bif (k:Int)==i then upd x else x)::znc i upd (k+1) l
theorem z4p {X:Type} {i:Nat} {upd:X→X}:∀{l:List X} {k:Nat},i<k→znc (i:Int) upd k l=l:=by
 intro l
 induction l with
 |nil=>intros;rfl
 |cons x l ih=>
  intro k h
  have:((k:Int)==(i:Int))=false:=by
   have hne:¬(k:Int)=(i:Int):=by omega
   simpa using hne
  simp only[znc,this,cond_false]
  rw[ih (by omega)]
theorem zad1 {X:Type} {upd:X→X} {x:X}:∀{l:List X} {k j:Nat},l[j]?=some x→znc ((k+j:Nat):Int) upd k l=l.set j (upd x):=by
 intro l
 induction l with
 |nil=>intro k j h;simp at h
 |cons y l ih=>
  intro k j h
  cases j with
  |zero=>
   simp at h
   subst h
   have:((k:Int)==((k+0:Nat):Int))=true:=by simp
   simp only[znc,this,cond_true,List.set_cons_zero]
   rw[z4p (by omega)]
  |succ j=>
   have hne:((k:Int)==((k+(j+1):Nat):Int))=false:=by
    have:¬(k:Int)=((k+(j+1):Nat):Int):=by omega
    simpa using this
   simp only[znc,hne,cond_false,List.set_cons_succ]
   have:=ih (k:=k+1) (j:=j) (by simpa using h)
   rw[show k+1+j=k+(j+1) by omega]at this
   rw[this]
theorem zabc {X β:Type} {i:Int} {upd:X→X} {g:List X→β}:∀{l:List X} {k:Nat} {s:List X},zc2 (fun (k:Nat) x (s:List X)=>.inl (s++[bif (k:Int)==i then upd x else x])) g k l s=g (s++znc i upd k l):=by
 intro l
 induction l with
 |nil=>intro k s;simp[zc2,znc]
 |cons x l ih=>intro k s;simp only[zc2,znc];rw[ih];simp
def zuz (u:Custody) (x:Item):Item:=⟨x.ID,x.Record,x.Branch,x.Kind,x.Price,x.Call,u⟩
def zg5 (c:Circ) (i:Nat) (x:Item) (m:Move) (u:Custody):Circ:=⟨c.Today,c.Items.set i (zuz u x),c.Patrons,c.Loans,c.Holds,c.Charges,c.Rules,c.Cals,c.Moves++[m],c.NextHold,c.NextCharge,c.Local⟩
def zm6 (c:Circ) (e:Int):Int:=bif e==0&&decide (2000≤(c.Moves.length:Int)) then 13 else e
theorem zr5 {c:Circ} {i:Nat} {x:Item} {kind branch who:Int} (hs:Short c) (hm:c.Moves.length<100000000) (hx:c.Items[i]?=some x) :
 qa6 (i:Int) kind branch who ⟨c,0⟩=some ((),bif zm6 c (zbl x.Custody ⟨c.Today,x.ID,kind,branch,who⟩).2==0 then ⟨zg5 c i x ⟨c.Today,x.ID,kind,branch,who⟩ (zbl x.Custody ⟨c.Today,x.ID,kind,branch,who⟩).1,0⟩ else ⟨c,zm6 c (zbl x.Custody ⟨c.Today,x.ID,kind,branch,who⟩).2⟩):=by
 have hc1:qcx c.Items=some c.Items:=by unfold qcx;rw[zi7 hs.items];rfl
 have hc2:qdy c.Moves=some c.Moves:=by unfold qdy;rw[zi7 hs.moves];rfl
 have l1:decide (c.Moves.length+([(⟨c.Today,x.ID,kind,branch,who⟩:Move)]:List Move).length≤LIM)=true:=ze8 (by simp;omega)
 unfold qa6 zm6
 simp -zeta only[beq_self_eq_true,Bool.not_true,cond_false,zag,hx,za4q,za4]
 generalize zbl x.Custody ⟨c.Today,x.ID,kind,branch,who⟩=q
 obtain ⟨u,e⟩:=q
 dsimp only
 cases hb:(e==0&&decide (2000≤(c.Moves.length:Int))) with
 |true=>
  simp only[cond_true,qp,beq_self_eq_true]
  try rfl
 |false=>
  simp only[cond_false]
  cases he:e==0 with
  |true=>
   have:e=0:=by simpa using he
   subst this
   simp only[Bool.not_true,cond_false,cond_true,hc1,hc2,zag,hx,Int.toNat_natCast,l1]
   try rfl
  |false=>
   simp only[Bool.not_false,cond_true,cond_false,qp,beq_self_eq_true]
theorem z3o {c:Circ} {i:Nat} {m:Move} {u:Custody} (hs:Short c):zac zln ((i:Int),0,c,zdx,m,u,[],())=some (c,zdx,m,znc (i:Int) (zuz u) 0 c.Items,()):=by
 have h:=zb4 (step:=zln) (fun (k:Nat) (s:List Item)=>s.length≤k) (fun k s=>((i:Int),(k:Int),c,zdx,m,u,s,())) c.Items
  (fun k x s=>.inl (s++[bif (k:Int)==(i:Int) then zuz u x else x])) (fun s=>(c,zdx,m,s,())) (by rw[za6];have:=hs.items;omega)
  (fun s _=>by simp only[zln,dge,cond_false])
  (fun k x s hx hi=>by
   have hlt:=(List.getElem?_eq_some_iff.1 hx).1
   have:=hs.items
   have l1:∀y:Item,decide (s.length+([y]:List Item).length≤LIM)=true:=fun y=>ze8 (by simp;omega)
   refine ⟨?_,fun s' hs'=>?_⟩
   ·simp only[zln,dlt hlt,zag,hx,cond_true,l1,zam (show k<9223372036854775807 by omega)]
    cases (k:Int)==(i:Int)<;>rfl
   ·cases hs'
    simp
    omega) [] (by simp)
 rw[zabc]at h
 exact h
theorem za6d {c:Circ} {item:Int} {i:Nat} {x:Item} {kind branch who:Int} (hs:Short c) (hm:c.Moves.length<100000000) (hat:qg c item=some (i:Int)) (hx:c.Items[i]?=some x) (hid:x.ID=item) :
 q9 c item kind branch who=some (bif zm6 c (zbl x.Custody ⟨c.Today,x.ID,kind,branch,who⟩).2==0 then (zg5 c i x ⟨c.Today,x.ID,kind,branch,who⟩ (zbl x.Custody ⟨c.Today,x.ID,kind,branch,who⟩).1,0) else (zdx,zm6 c (zbl x.Custody ⟨c.Today,x.ID,kind,branch,who⟩).2)):=by
 subst hid
 unfold q9 zm6
 rw[hat]
 simp only[zag,hx,zan3]
 generalize zbl x.Custody ⟨c.Today,x.ID,kind,branch,who⟩=q
 obtain ⟨u,e⟩:=q
 simp only
 cases he:e==0 with
 |false=>simp only[Bool.not_false,cond_true,Bool.false_and,cond_false,he];rfl
 |true=>
  have:e=0:=by simpa using he
  subst this
  simp only[Bool.not_true,cond_false,Bool.true_and]
  cases decide (2000≤(c.Moves.length:Int)) with
  |true=>rfl
  |false=>
   have hw:=z3o (i:=i) (m:=⟨c.Today,x.ID,kind,branch,who⟩) (u:=u) hs
   have l1:decide (c.Moves.length≤LIM)=true:=by rw[decide_eq_true_eq];unfold LIM;omega
   have l2:decide (c.Moves.length+([(⟨c.Today,x.ID,kind,branch,who⟩:Move)]:List Move).length≤LIM)=true:=ze8 (by simp;omega)
   have es:=zad1 (upd:=zuz u) (l:=c.Items) (k:=0) (j:=i) hx
   rw[Nat.zero_add]at es
   rw[es]at hw
   simp only[cond_false]
   rw[show zac zln ((i:Int),0,c,(⟨0,[],[],[],[],[],[],⟨⟨0,[]⟩,⟨0,[]⟩,⟨0,[]⟩,⟨0,[]⟩⟩,[],0,0,false⟩:Circ),(⟨c.Today,x.ID,kind,branch,who⟩:Move),u,([]:List Item),())=_ from hw]
   simp only[l1,l2,cond_true]
   try rfl
end Go.Proofs.YtdahfgialanmpaaGreatDoor
namespace Go.Proofs.YtdahfgialanmpaaGreatDoor
open Ev
open Go (IntKind)
theorem zud {branch:Int} {vlocal:Bool} {x:Item}:∀{q:List Hold} {f:Int},zg7 branch vlocal x q f=f∨∃h∈q,zg7 branch vlocal x q f=h.ID:=by
 intro q
 induction q with
 |nil=>intro f;exact .inl rfl
 |cons h q ih=>
  intro f
  have lift:∀g:Int,(zg7 branch vlocal x q g=g∨∃o∈q,zg7 branch vlocal x q g=o.ID)→(g=f∨g=h.ID)→(zg7 branch vlocal x q g=f∨∃o∈h::q,zg7 branch vlocal x q g=o.ID):=by
   intro g hg hgf
   rcases hg with hg|⟨o,ho,hg⟩
   ·rcases hgf with e|e
    ·exact .inl (by rw[hg,e])
    ·exact .inr ⟨h,List.mem_cons_self ..,by rw[hg,e]⟩
   ·exact .inr ⟨o,List.mem_cons_of_mem _ ho,hg⟩
  simp only[zg7,zuc]
  cases (!(h.Item==0)&&!(h.Item==x.ID)) with
  |true=>exact lift f ih (.inl rfl)
  |false=>
   cases (vlocal&&h.Pickup==branch) with
   |true=>exact .inr ⟨h,List.mem_cons_self ..,rfl⟩
   |false=>
    cases f==0 with
    |true=>exact lift h.ID ih (.inr rfl)
    |false=>exact lift f ih (.inl rfl)
end Go.Proofs.YtdahfgialanmpaaGreatDoor
namespace Go.Proofs.YtdahfgialanmpaaGreatDoor
open Ev
open Go (IntKind)
end Go.Proofs.YtdahfgialanmpaaGreatDoor
namespace Go.Proofs.YtdahfgialanmpaaGreatDoor
open Ev
open Go (IntKind)
end Go.Proofs.YtdahfgialanmpaaGreatDoor
namespace Go.Proofs.YtdahfgialanmpaaGreatDoor
open Ev
open Go (IntKind)
theorem zgw (c:Circ) (l:List Loan) (e e0:Int) (h0:e0≠0):qcm l e ⟨c,e0⟩=some ((),⟨zkd c c.Loans,e0⟩):=by
 have h:(e0==0)=false:=by simpa using h0
 unfold qcm qp
 simp only[h,cond_false]
 cases !(e==0)<;>simp only[cond_true,cond_false,h]<;>rfl
end Go.Proofs.YtdahfgialanmpaaGreatDoor
namespace Go.Proofs.YtdahfgialanmpaaGreatDoor
open Ev
open Go (IntKind)
theorem zv9 {c:Circ} {i:Nat} {x:Item} {m:Move} {u:Custody} (hs:Short c) (hm:c.Moves.length<100000000) (hx:c.Items[i]?=some x):Short (zg5 c i x m u):=by
 obtain ⟨h1,h2,h3,h4,h5,h6,h7,h8,h9,h10,h11,h12,h13⟩:=hs
 refine ⟨?_,h2,h3,h4,h5,h6,?_,fun z hz=>?_,h9,h10,h11,h12,h13⟩
 ·show (c.Items.set i _).length<_
  rw[List.length_set];exact h1
 ·show (c.Moves++[m]).length<_
  simp;omega
 ·rcases List.mem_or_eq_of_mem_set hz with h|h
  ·exact h8 z h
  ·rw[h];exact h8 x (List.mem_of_getElem? hx)
theorem zkc {c:Circ} {l:List Hold} (hs:Short c) (hl:l.length<1000000000):Short (zcp c l):=by
 obtain ⟨h1,h2,h3,h4,h5,h6,h7,h8,h9,h10,h11,h12,h13⟩:=hs
 exact ⟨h1,h2,h3,hl,h5,h6,h7,h8,h9,h10,h11,h12,h13⟩
end Go.Proofs.YtdahfgialanmpaaGreatDoor
namespace Go.Proofs.YtdahfgialanmpaaGreatDoor
open Ev
open Go (IntKind)
theorem zel {c:Circ} {id:Int} (hs:Short c):qcf id ⟨c,0⟩=some (fIdx (fun x=>x.ID==id) c.Items,⟨c,bif decide (fIdx (fun x=>x.ID==id) c.Items<0) then 9 else 0⟩):=by
 unfold qcf
 simp only[za3v hs.items]
 cases decide (fIdx (fun x:Item=>x.ID==id) c.Items<0)<;>rfl
end Go.Proofs.YtdahfgialanmpaaGreatDoor
